/- PFnFreshx11, of the words and walks that the law FnFresh needs; made by this session's program out of printed texts. -/
import Derived.Test.YthmpgocaoccnaaaGreatDoorVFnFreshPx0
import Derived.Test.YthmpgocaoccnaaaGreatDoorVFnFreshPx3
import Derived.Test.YthmpgocaoccnaaaGreatDoorVFnFreshPx6
import Derived.Test.YthmpgocaoccnaaaGreatDoorVFnFreshPx7
import Derived.Test.YthmpgocaoccnaaaGreatDoorVFnFreshPx10
namespace Go.Proofs.YthmpgocaoccnaaaGreatDoor.PFnFresh
open Go.RowKit Go.Proofs.YthmpgocaoccnaaaGreatDoorW.PrintWords Go.Proofs.YthmpgocaoccnaaaGreatDoorW.PrintLast Go.Proofs.YthmpgocaoccnaaaGreatDoorW.PrintMore
attribute [local go_sem] max2_int min2_int max_two min_two max_three min_three max_four min_four
set_option linter.unusedVariables false
set_option linter.unusedSimpArgs false
def impl_FreeNames.l0:Nat -> List (S45) -> List ByteArray -> List (S30) -> Int -> Int -> Option (List ByteArray)
 | 0,_,_,_,_,_=>none
 | k+1,x0,x3,x10,x11,x12=>if x12<x11 then (if 0 <= x12 then (if x12<(x10.length:Int) then (if x12<(x0.length:Int) then (if ((rd_T45 x0 x12).f0)=1 then (if ((rd_T30 x10 x12).f0)<0 then (if x3.length<8796093022208 then (impl_FreeNames.l0 k x0 (x3++[(rd_T45 x0 x12).f5]) x10 x11 (wrap64 (x12+1))) else (none)) else (impl_FreeNames.l0 k x0 x3 x10 x11 (wrap64 (x12+1)))) else (impl_FreeNames.l0 k x0 x3 x10 x11 (wrap64 (x12+1)))) else (none)) else (none)) else (none)) else ((impl_sorted.f k x3).bind fun bt260=>(some bt260.1))
def impl_FreeNames.f (k:Nat) (l0:List (S45)):Option (List ByteArray):=(impl_NodesOk.f k l0).bind fun t249=>(if t249=true then ((impl_binders.f k l0).bind fun t250=>(impl_FreeNames.l0 k l0 ([]:List ByteArray) t250 (t250.length:Int) 0)) else (some ([]:List ByteArray)))
theorem impl_FreeNames.mono_l:∀ k,(∀ y0 y1 y2 y3 y4,LeO (impl_FreeNames.l0 k y0 y1 y2 y3 y4) (impl_FreeNames.l0 (k+1) y0 y1 y2 y3 y4))
 | 0=>fun _ _ _ _ _ r h=>by simp [impl_FreeNames.l0] at h
 | k+1=>by
  have ih0:=impl_FreeNames.mono_l k
  ·intro y0 y1 y2 y3 y4
   unfold impl_FreeNames.l0
   with_reducible repeat' first|exact ih0 _ _ _ _ _|exact impl_NodesOk.mono _ _|exact impl_binders.mono _ _|exact impl_sorted.mono _ _|exact lrz _|exact lnz _|refine liz ?_ ?_|refine lbz ?_ fun _=>?_
theorem impl_FreeNames.mono:∀ a0 k,LeO (impl_FreeNames.f k a0) (impl_FreeNames.f (k+1) a0):=by
 intro a0 k
 have ih0:=impl_FreeNames.mono_l k
 unfold impl_FreeNames.f
 with_reducible repeat' first|exact ih0 _ _ _ _ _|exact impl_NodesOk.mono _ _|exact impl_binders.mono _ _|exact impl_sorted.mono _ _|exact lrz _|exact lnz _|refine liz ?_ ?_|refine lbz ?_ fun _=>?_
set_option maxHeartbeats 8000000 in
set_option maxRecDepth 100000 in
theorem impl_FreeNames.calls (k:Nat) (A0:Option Addr) (c0:Nat) (l0:List (S45)) (r:List ByteArray) (w:World) (hr0:Kd.C k45 w A0 l0.length l0) (hc0:l0.length <= c0) (h:impl_FreeNames.f k l0=some r) :
  Calls Tryz.prog 19 #[.slice A0 l0.length c0] w fun e w'=>∃ v0_:Value,e=.returned (v0_) /\ Kd.R Kd.string 9 w' w.heap.size (fun _=>True) v0_ r /\ Below w.heap.size w w':=by
 have hu30:=Tryz.underlying30
 have HR0:=am hr0
 have HC0:=am hc0
 clear hr0 hc0
 have HB:=am (Below.refl w.heap.size w)
 have H:((impl_NodesOk.f k l0).bind fun t249=>(if t249=true then ((impl_binders.f k l0).bind fun t250=>(impl_FreeNames.l0 k l0 ([]:List ByteArray) t250 (t250.length:Int) 0)) else (some ([]:List ByteArray))))=some r:=h
 clear h
 replace H:=bi H
 obtain ⟨t249,A20,H⟩:=H
 try dsimp only at H
 have A2:=am A20
 clear A20
 by_cases c3:t249=true
 ·subst c3
  have H1:=hp H
  clear H
  have H:=H1
  clear H1
  replace H:=bi H
  obtain ⟨t250,A40,H⟩:=H
  try dsimp only at H
  have A4:=am A40
  clear A40
  have H':=am H
  clear H
  go_enter Tryz.func19,Tryz.ntmps19
  go_wp2_with (first|((with_reducible refine gate_callee (f:=44) rfl ?_);refine goesL_ (some 7) rfl rfl Tryz.func44 kr rfl #[.slice A0 l0.length c0] rfl lz ?_;(with_reducible refine (impl_NodesOk.calls k _ _ l0 true _ ?side1 ?side2 A2.out).mono ?_);(case side1=>repeat (first|exact HR0.out|(with_reducible refine Kd.C_alloc ?_ _)|(with_reducible refine Kd.C_drewN ?_ _)|(with_reducible refine Kd.C_drew ?_)));(case side2=>exact HC0.out);rintro e w5 ⟨rfl,hb⟩;refine ⟨_,rfl,?_⟩;replace HB:=bs (bz0 HB.out) hb;(try clear hb);(try clear hi))|((with_reducible refine gate_callee (f:=34) rfl ?_);refine goesL_ (some 10) rfl rfl Tryz.func34 kr rfl #[.slice A0 l0.length c0] rfl lz ?_;(with_reducible refine (impl_binders.calls k _ _ l0 t250 _ ?side1 ?side2 A4.out).mono ?_);(case side1=>exact cz (Kd.C_below HR0.out HB.out));(case side2=>exact HC0.out);rintro e w6 ⟨v251,rfl,ho0,hb⟩;refine ⟨_,rfl,?_⟩;have HO252:=am (Kd.R_lower ho0 (below_size (bz0 HB.out)));replace HB:=bs (bz0 HB.out) hb;(try clear hb);(try clear ho0);obtain ⟨Ao7,co7,eo7⟩:=Kd.R_slice HO252.out;subst eo7))
  go_loopg [3,12] k (fun kq v3 v12 w'=>∃ (x3_1:List ByteArray) (x12_1:Int),v12=.int .i64 x12_1 /\ Aside0 (impl_FreeNames.l0 kq l0 x3_1 t250 (t250.length:Int) x12_1=some r) /\ Aside0 (kq <= k) /\ Aside0 (Kd.R Kd.string 9 w' w.heap.size (fun _=>True) v3 x3_1) /\ Aside0 (Kd.R k30 30 w' w.heap.size (fun _=>True) (.slice Ao7 t250.length co7) t250) /\ Aside0 (Below w.heap.size w w'))
  case atStart=>exact ⟨(([]:List ByteArray)),(0),ez,H',⟨Nat.le_refl _⟩,⟨by first|exact Kd.R_nil _ _ _ _ _|exact Kd.N_nil _ _ _ _ _|exact Kd.V_nil _ _ _ _ _|exact Kd.Q_nil _ _ _ _ _|exact Kd.S_nil _ _ _ _ _⟩,⟨by refine rq ?_;exact HO252.out⟩,⟨(bz0 HB.out)⟩⟩
  case round =>
   clear H'
   try clear c1
   try clear p2
   try clear c3
   try clear c4
   obtain ⟨x3_1,x12_1,rfl,HA,HK1,HO_3,HO_10,HB⟩:=hrel
   cases gk with
   | zero=>exact absurd HA.out (by simp [impl_FreeNames.l0])
   | succ k1 =>
    have H:=HA.out
    clear HA
    simp only [impl_FreeNames.l0] at H
    by_cases c8:x12_1<(t250.length:Int)
    ·rw [if_pos c8] at H
     have c8b0:=decide_eq_true c8
     clear c8
     replace H:=iz H
     obtain ⟨c9,H⟩:=H
     have c9b0:=decide_eq_true c9
     clear c9
     replace H:=iz H
     obtain ⟨c10,H⟩:=H
     have c10b0:=decide_eq_true c10
     clear c10
     replace H:=iz H
     obtain ⟨c11,H⟩:=H
     have c11b0:=decide_eq_true c11
     clear c11
     by_cases c12:((rd_T45 l0 x12_1).f0)=1
     ·rw [if_pos c12] at H
      have c12b0:(((rd_T45 l0 x12_1).f0) == 1)=true:=beq_iff_eq.mpr c12
      have c12b1:(((rd_T45 l0 x12_1).f0) != 1)=false:=bne_eq_false_iff_eq.mpr c12
      clear c12
      by_cases c13:((rd_T30 t250 x12_1).f0)<0
      ·rw [if_pos c13] at H
       have c13b0:=decide_eq_true c13
       clear c13
       replace H:=iz H
       obtain ⟨c14,H⟩:=H
       have LMc14:=am c14
       clear c14
       obtain ⟨y257,hy257⟩:∃ y_:List ByteArray,y_=(x3_1++[(rd_T45 l0 x12_1).f5]):=⟨_,rfl⟩
       replace H:(impl_FreeNames.l0 k1 l0 y257 t250 (t250.length:Int) (wrap64 (x12_1+1)))=some r:=yz hy257 H
       have Ny257:=am hy257
       clear hy257
       have H':=am H
       clear H
       have p253:0 <= (x12_1:Int):=oz
       have q253:x12_1<(t250.length:Int):=oz
       obtain ⟨ad253,e253,hx253_0,hx253_1⟩:=at_T30 (Kd.R_reads' HO_10.out).2.2 x12_1 p253 q253
       cases e253
       replace p253:=eq_true p253
       replace q253:=eq_true q253
       go_wp2_with (first|((with_reducible refine gate_dst (N:=5) rfl ?_);refine box_event ?hg (N:=5) ?hd (cs:=#[.int .i64 0,.int .i64 0]) (t:=30) ?hr ?_;(case hd=>rfl);(case hg=>rfl);(case hr=>exact vz);intro gb254 hg w15 hbox hb;replace HO_3:=qz HO_3 hb;replace HO_10:=am (Kd.R_below (Kd.R_elderB (rz HO_10.out) gb254 (Nat.le_of_eq hg.symm)) hb);have BK254:=am (hbox);have GW254:=am ((by rw [hg];exact (below_size (bz0 HB.out)):w.heap.size <= gb254));have GE254:=GW254;replace HB:=bs (bz0 HB.out) hb;clear hb hbox hg;obtain ⟨hcz16_0,hcz16_1⟩:=cz2 BK254.out;obtain ⟨hfz16_0,hfz16_1⟩:=fz2 BK254.out;have p255:0 <= (x12_1:Int):=oz;have q255:x12_1<(l0.length:Int):=oz;obtain ⟨ad255,e255,hx255_0,hx255_1,hx255_2,hx255_3,hx255_4,hx255_5,hx255_6⟩:=at_T45 HR0.out x12_1 p255 q255;cases e255;have hn255_0:ad255.block≠gb254:=Nat.ne_of_lt (Nat.lt_of_lt_of_le (by have:=World.block_lt_of_cell? _ _ hx255_0;first|rwa [add_block] at this|exact this) GW254.out);have hn255_1:ad255.block≠gb254:=Nat.ne_of_lt (Nat.lt_of_lt_of_le (by have:=World.block_lt_of_cell? _ _ hx255_0;first|rwa [add_block] at this|exact this) GW254.out);replace hx255_0:=hz HB.out hx255_0;replace hx255_1:=hz HB.out hx255_1;replace hx255_2:=hz HB.out hx255_2;replace hx255_3:=hz HB.out hx255_3;replace hx255_4:=hz HB.out hx255_4;replace hx255_5:=hz HB.out hx255_5;replace hx255_6:=hz HB.out hx255_6;replace hx255_0:=(cell_far (p:=⟨gb254,0,none⟩) (nz hn255_0) (.int .i64 ((rd_T30 t250 x12_1).f0))).trans hx255_0;replace hx255_1:=(cell_far (p:=⟨gb254,0,none⟩) (nz hn255_0) (.int .i64 ((rd_T30 t250 x12_1).f0))).trans hx255_1;replace hx255_2:=(cell_far (p:=⟨gb254,0,none⟩) (nz hn255_0) (.int .i64 ((rd_T30 t250 x12_1).f0))).trans hx255_2;replace hx255_3:=(cell_far (p:=⟨gb254,0,none⟩) (nz hn255_0) (.int .i64 ((rd_T30 t250 x12_1).f0))).trans hx255_3;replace hx255_4:=(cell_far (p:=⟨gb254,0,none⟩) (nz hn255_0) (.int .i64 ((rd_T30 t250 x12_1).f0))).trans hx255_4;replace hx255_5:=(cell_far (p:=⟨gb254,0,none⟩) (nz hn255_0) (.int .i64 ((rd_T30 t250 x12_1).f0))).trans hx255_5;replace hx255_6:=(cell_far (p:=⟨gb254,0,none⟩) (nz hn255_0) (.int .i64 ((rd_T30 t250 x12_1).f0))).trans hx255_6;replace hx255_0:=(cell_far (p:=⟨gb254,1,none⟩) (nz hn255_1) (.int .i64 ((rd_T30 t250 x12_1).f1))).trans hx255_0;replace hx255_1:=(cell_far (p:=⟨gb254,1,none⟩) (nz hn255_1) (.int .i64 ((rd_T30 t250 x12_1).f1))).trans hx255_1;replace hx255_2:=(cell_far (p:=⟨gb254,1,none⟩) (nz hn255_1) (.int .i64 ((rd_T30 t250 x12_1).f1))).trans hx255_2;replace hx255_3:=(cell_far (p:=⟨gb254,1,none⟩) (nz hn255_1) (.int .i64 ((rd_T30 t250 x12_1).f1))).trans hx255_3;replace hx255_4:=(cell_far (p:=⟨gb254,1,none⟩) (nz hn255_1) (.int .i64 ((rd_T30 t250 x12_1).f1))).trans hx255_4;replace hx255_5:=(cell_far (p:=⟨gb254,1,none⟩) (nz hn255_1) (.int .i64 ((rd_T30 t250 x12_1).f1))).trans hx255_5;replace hx255_6:=(cell_far (p:=⟨gb254,1,none⟩) (nz hn255_1) (.int .i64 ((rd_T30 t250 x12_1).f1))).trans hx255_6;clear hn255_0;clear hn255_1;replace p255:=eq_true p255;replace q255:=eq_true q255;have p256:0 <= (x12_1:Int):=oz;have q256:x12_1<(l0.length:Int):=oz;obtain ⟨ad256,e256,hx256_0,hx256_1,hx256_2,hx256_3,hx256_4,hx256_5,hx256_6⟩:=at_T45 HR0.out x12_1 p256 q256;obtain rfl:ad255=ad256:=(by injection e256);have hn256_0:ad255.block≠gb254:=Nat.ne_of_lt (Nat.lt_of_lt_of_le (by have:=World.block_lt_of_cell? _ _ hx256_0;first|rwa [add_block] at this|exact this) GW254.out);have hn256_1:ad255.block≠gb254:=Nat.ne_of_lt (Nat.lt_of_lt_of_le (by have:=World.block_lt_of_cell? _ _ hx256_0;first|rwa [add_block] at this|exact this) GW254.out);replace hx256_0:=hz HB.out hx256_0;replace hx256_1:=hz HB.out hx256_1;replace hx256_2:=hz HB.out hx256_2;replace hx256_3:=hz HB.out hx256_3;replace hx256_4:=hz HB.out hx256_4;replace hx256_5:=hz HB.out hx256_5;replace hx256_6:=hz HB.out hx256_6;replace hx256_0:=(cell_far (p:=⟨gb254,0,none⟩) (nz hn256_0) (.int .i64 ((rd_T30 t250 x12_1).f0))).trans hx256_0;replace hx256_1:=(cell_far (p:=⟨gb254,0,none⟩) (nz hn256_0) (.int .i64 ((rd_T30 t250 x12_1).f0))).trans hx256_1;replace hx256_2:=(cell_far (p:=⟨gb254,0,none⟩) (nz hn256_0) (.int .i64 ((rd_T30 t250 x12_1).f0))).trans hx256_2;replace hx256_3:=(cell_far (p:=⟨gb254,0,none⟩) (nz hn256_0) (.int .i64 ((rd_T30 t250 x12_1).f0))).trans hx256_3;replace hx256_4:=(cell_far (p:=⟨gb254,0,none⟩) (nz hn256_0) (.int .i64 ((rd_T30 t250 x12_1).f0))).trans hx256_4;replace hx256_5:=(cell_far (p:=⟨gb254,0,none⟩) (nz hn256_0) (.int .i64 ((rd_T30 t250 x12_1).f0))).trans hx256_5;replace hx256_6:=(cell_far (p:=⟨gb254,0,none⟩) (nz hn256_0) (.int .i64 ((rd_T30 t250 x12_1).f0))).trans hx256_6;replace hx256_0:=(cell_far (p:=⟨gb254,1,none⟩) (nz hn256_1) (.int .i64 ((rd_T30 t250 x12_1).f1))).trans hx256_0;replace hx256_1:=(cell_far (p:=⟨gb254,1,none⟩) (nz hn256_1) (.int .i64 ((rd_T30 t250 x12_1).f1))).trans hx256_1;replace hx256_2:=(cell_far (p:=⟨gb254,1,none⟩) (nz hn256_1) (.int .i64 ((rd_T30 t250 x12_1).f1))).trans hx256_2;replace hx256_3:=(cell_far (p:=⟨gb254,1,none⟩) (nz hn256_1) (.int .i64 ((rd_T30 t250 x12_1).f1))).trans hx256_3;replace hx256_4:=(cell_far (p:=⟨gb254,1,none⟩) (nz hn256_1) (.int .i64 ((rd_T30 t250 x12_1).f1))).trans hx256_4;replace hx256_5:=(cell_far (p:=⟨gb254,1,none⟩) (nz hn256_1) (.int .i64 ((rd_T30 t250 x12_1).f1))).trans hx256_5;replace hx256_6:=(cell_far (p:=⟨gb254,1,none⟩) (nz hn256_1) (.int .i64 ((rd_T30 t250 x12_1).f1))).trans hx256_6;clear hn256_0;clear hn256_1;replace p256:=eq_true p256;replace q256:=eq_true q256)|((with_reducible refine gate_builtin (b:=.append) (xs:=#[.tmp 28,.tmp 34]) rfl ?_);at_builtin;refine Kd.R_append Kd.string (w0:=w) w.heap.size rfl (.tmp 28) (.tmp 34) 42 9 (.string ⟨#[]⟩) 16 rfl Tryz.underlying42 info9 rfl (by decide) (by omega) u3 x3_1 ((rd_T45 l0 x12_1).f5) [.string ((rd_T45 l0 x12_1).f5)] (fun _=>True) (fun _=>False) rfl (by first|(go_simp;done)|(go_simp;rfl)) ?aP (fun _ hk=>hk.elim) ?aF ?aO ?aB ?aS ?aL ?_;(case aP=>exact rfl);(case aB=>exact (bz1 HB.out GE254.out));(case aF=>exact (fun _ _=>trivial));(case aO=>exact (by refine rq ?_;first|(with_reducible exact Kd.R_mono (Kd.R_far (p:=⟨gb254,1,none⟩) (Kd.R_far (p:=⟨gb254,0,none⟩) (Kd.R_types HO_3.out BK254.out (by decide)) (fun _ hk=>hk.2) (.int .i64 ((rd_T30 t250 x12_1).f0))) (fun _ hk=>hk.2) (.int .i64 ((rd_T30 t250 x12_1).f1))) (fun _ hk=>trivial))|(with_reducible exact Kd.R_mono (Kd.R_far (p:=⟨gb254,1,none⟩) (Kd.R_drewN (Kd.R_far (p:=⟨gb254,0,none⟩) (Kd.R_types HO_3.out BK254.out (by decide)) (fun _ hk=>hk.2) (.int .i64 ((rd_T30 t250 x12_1).f0))) _) (fun _ hk=>hk.2) (.int .i64 ((rd_T30 t250 x12_1).f1))) (fun _ hk=>trivial))|exact Kd.R_mono (Kd.R_far (p:=⟨gb254,1,none⟩) (Kd.R_drewN (Kd.R_far (p:=⟨gb254,0,none⟩) (Kd.R_types HO_3.out BK254.out (by decide)) (fun _ hk=>hk.2) (.int .i64 ((rd_T30 t250 x12_1).f0))) _) (fun _ hk=>hk.2) (.int .i64 ((rd_T30 t250 x12_1).f1))) (fun _ hk=>trivial)));(case aS=>exact (below_size (bz1 HB.out GE254.out)));(case aL=>have:=LMc14.out;omega);intro v258 w17 ho hb hg hat;rw [<- Ny257.out] at ho;have n0_:=am (Kd.R_over' (by refine rq ?_;exact (Kd.R_mono (Kd.R_far (p:=⟨gb254,1,none⟩) (Kd.R_far (p:=⟨gb254,0,none⟩) (Kd.R_mono HO_10.out (fun k_ hk=>(⟨hk,hk.2⟩:_ /\ k_≠gb254))) (fun _ hk=>hk.2) (.int .i64 ((rd_T30 t250 x12_1).f0))) (fun _ hk=>hk.2) (.int .i64 ((rd_T30 t250 x12_1).f1))) (fun _ h_=>h_.1))) (Kd.R_typed (by refine rq ?_;exact (Kd.R_mono (Kd.R_far (p:=⟨gb254,1,none⟩) (Kd.R_far (p:=⟨gb254,0,none⟩) (Kd.R_types HO_3.out BK254.out (by decide)) (fun _ hk=>hk.2) (.int .i64 ((rd_T30 t250 x12_1).f0))) (fun _ hk=>hk.2) (.int .i64 ((rd_T30 t250 x12_1).f1))) (fun _ h_=>h_.1)))) (by decide) hg);have n1_:=am (blk_grown (g:=gb254) (o:=.cells #[.int .i64 ((rd_T30 t250 x12_1).f0),.int .i64 ((rd_T30 t250 x12_1).f1)] 30 (0,0)) (by refine kq ?_;refine blk_put (cs:=#[.int .i64 ((rd_T30 t250 x12_1).f0),.int .i64 0]) ?_ 1 _ rfl;refine kq ?_;refine blk_put (cs:=#[.int .i64 0,.int .i64 0]) ?_ 0 _ rfl;refine kq ?_;exact BK254.out) hg (Kd.R_ne HO_3.out BK254.out (by decide)));have n2_:=am (hb);have n3_:=am (ho);clear HO_10;clear BK254;clear HB;clear HO_3;have HO_10:=n0_;have BK254:=n1_;have HB:=n2_;have HO259:=n3_;clear n0_ n1_ n2_ n3_;clear ho hb hg hat))
       go_roundg k1
       case measure=>have:=HK1.out;omega
       case rel=>exact ⟨(y257),(wrap64 (x12_1+1)),ez,H',⟨by have:=HK1.out;omega⟩,⟨by refine rq ?_;exact HO259.out⟩,⟨by refine rq ?_;exact Kd.R_mono HO_10.out (fun _ hk=>trivial)⟩,⟨(bz1 HB.out GE254.out)⟩⟩
      ·rw [if_neg c13] at H
       have c13b0:=decide_eq_false c13
       clear c13
       have H':=am H
       clear H
       have p253:0 <= (x12_1:Int):=oz
       have q253:x12_1<(t250.length:Int):=oz
       obtain ⟨ad253,e253,hx253_0,hx253_1⟩:=at_T30 (Kd.R_reads' HO_10.out).2.2 x12_1 p253 q253
       cases e253
       replace p253:=eq_true p253
       replace q253:=eq_true q253
       go_wp2_with (first|((with_reducible refine gate_dst (N:=5) rfl ?_);refine box_event ?hg (N:=5) ?hd (cs:=#[.int .i64 0,.int .i64 0]) (t:=30) ?hr ?_;(case hd=>rfl);(case hg=>rfl);(case hr=>exact vz);intro gb254 hg w18 hbox hb;replace HO_3:=qz HO_3 hb;replace HO_10:=am (Kd.R_below (Kd.R_elderB (rz HO_10.out) gb254 (Nat.le_of_eq hg.symm)) hb);have BK254:=am (hbox);have GW254:=am ((by rw [hg];exact (below_size (bz0 HB.out)):w.heap.size <= gb254));have GE254:=GW254;replace HB:=bs (bz0 HB.out) hb;clear hb hbox hg;obtain ⟨hcz19_0,hcz19_1⟩:=cz2 BK254.out;obtain ⟨hfz19_0,hfz19_1⟩:=fz2 BK254.out;have p255:0 <= (x12_1:Int):=oz;have q255:x12_1<(l0.length:Int):=oz;obtain ⟨ad255,e255,hx255_0,hx255_1,hx255_2,hx255_3,hx255_4,hx255_5,hx255_6⟩:=at_T45 HR0.out x12_1 p255 q255;cases e255;have hn255_0:ad255.block≠gb254:=Nat.ne_of_lt (Nat.lt_of_lt_of_le (by have:=World.block_lt_of_cell? _ _ hx255_0;first|rwa [add_block] at this|exact this) GW254.out);have hn255_1:ad255.block≠gb254:=Nat.ne_of_lt (Nat.lt_of_lt_of_le (by have:=World.block_lt_of_cell? _ _ hx255_0;first|rwa [add_block] at this|exact this) GW254.out);replace hx255_0:=hz HB.out hx255_0;replace hx255_1:=hz HB.out hx255_1;replace hx255_2:=hz HB.out hx255_2;replace hx255_3:=hz HB.out hx255_3;replace hx255_4:=hz HB.out hx255_4;replace hx255_5:=hz HB.out hx255_5;replace hx255_6:=hz HB.out hx255_6;replace hx255_0:=(cell_far (p:=⟨gb254,0,none⟩) (nz hn255_0) (.int .i64 ((rd_T30 t250 x12_1).f0))).trans hx255_0;replace hx255_1:=(cell_far (p:=⟨gb254,0,none⟩) (nz hn255_0) (.int .i64 ((rd_T30 t250 x12_1).f0))).trans hx255_1;replace hx255_2:=(cell_far (p:=⟨gb254,0,none⟩) (nz hn255_0) (.int .i64 ((rd_T30 t250 x12_1).f0))).trans hx255_2;replace hx255_3:=(cell_far (p:=⟨gb254,0,none⟩) (nz hn255_0) (.int .i64 ((rd_T30 t250 x12_1).f0))).trans hx255_3;replace hx255_4:=(cell_far (p:=⟨gb254,0,none⟩) (nz hn255_0) (.int .i64 ((rd_T30 t250 x12_1).f0))).trans hx255_4;replace hx255_5:=(cell_far (p:=⟨gb254,0,none⟩) (nz hn255_0) (.int .i64 ((rd_T30 t250 x12_1).f0))).trans hx255_5;replace hx255_6:=(cell_far (p:=⟨gb254,0,none⟩) (nz hn255_0) (.int .i64 ((rd_T30 t250 x12_1).f0))).trans hx255_6;replace hx255_0:=(cell_far (p:=⟨gb254,1,none⟩) (nz hn255_1) (.int .i64 ((rd_T30 t250 x12_1).f1))).trans hx255_0;replace hx255_1:=(cell_far (p:=⟨gb254,1,none⟩) (nz hn255_1) (.int .i64 ((rd_T30 t250 x12_1).f1))).trans hx255_1;replace hx255_2:=(cell_far (p:=⟨gb254,1,none⟩) (nz hn255_1) (.int .i64 ((rd_T30 t250 x12_1).f1))).trans hx255_2;replace hx255_3:=(cell_far (p:=⟨gb254,1,none⟩) (nz hn255_1) (.int .i64 ((rd_T30 t250 x12_1).f1))).trans hx255_3;replace hx255_4:=(cell_far (p:=⟨gb254,1,none⟩) (nz hn255_1) (.int .i64 ((rd_T30 t250 x12_1).f1))).trans hx255_4;replace hx255_5:=(cell_far (p:=⟨gb254,1,none⟩) (nz hn255_1) (.int .i64 ((rd_T30 t250 x12_1).f1))).trans hx255_5;replace hx255_6:=(cell_far (p:=⟨gb254,1,none⟩) (nz hn255_1) (.int .i64 ((rd_T30 t250 x12_1).f1))).trans hx255_6;clear hn255_0;clear hn255_1;replace p255:=eq_true p255;replace q255:=eq_true q255))
       go_roundg k1
       case measure=>have:=HK1.out;omega
       case rel=>exact ⟨(x3_1),(wrap64 (x12_1+1)),ez,H',⟨by have:=HK1.out;omega⟩,⟨by refine rq ?_;first|(with_reducible exact Kd.R_mono (Kd.R_far (p:=⟨gb254,1,none⟩) (Kd.R_far (p:=⟨gb254,0,none⟩) (Kd.R_types HO_3.out BK254.out (by decide)) (fun _ hk=>hk.2) (.int .i64 ((rd_T30 t250 x12_1).f0))) (fun _ hk=>hk.2) (.int .i64 ((rd_T30 t250 x12_1).f1))) (fun _ hk=>trivial))|exact Kd.R_mono (Kd.R_far (p:=⟨gb254,1,none⟩) (Kd.R_drewN (Kd.R_far (p:=⟨gb254,0,none⟩) (Kd.R_types HO_3.out BK254.out (by decide)) (fun _ hk=>hk.2) (.int .i64 ((rd_T30 t250 x12_1).f0))) _) (fun _ hk=>hk.2) (.int .i64 ((rd_T30 t250 x12_1).f1))) (fun _ hk=>trivial)⟩,⟨by refine rq ?_;first|(with_reducible exact Kd.R_mono (Kd.R_far (p:=⟨gb254,1,none⟩) (Kd.R_far (p:=⟨gb254,0,none⟩) (Kd.R_mono HO_10.out (fun k_ hk=>(⟨hk,hk.2⟩:_ /\ k_≠gb254))) (fun _ hk=>hk.2) (.int .i64 ((rd_T30 t250 x12_1).f0))) (fun _ hk=>hk.2) (.int .i64 ((rd_T30 t250 x12_1).f1))) (fun _ hk=>trivial))|exact Kd.R_mono (Kd.R_far (p:=⟨gb254,1,none⟩) (Kd.R_drewN (Kd.R_far (p:=⟨gb254,0,none⟩) (Kd.R_mono HO_10.out (fun k_ hk=>(⟨hk,hk.2⟩:_ /\ k_≠gb254))) (fun _ hk=>hk.2) (.int .i64 ((rd_T30 t250 x12_1).f0))) _) (fun _ hk=>hk.2) (.int .i64 ((rd_T30 t250 x12_1).f1))) (fun _ hk=>trivial)⟩,⟨(bz1 HB.out GE254.out)⟩⟩
     ·rw [if_neg c12] at H
      have c12b0:(((rd_T45 l0 x12_1).f0) == 1)=false:=beq_eq_false_iff_ne.mpr c12
      have c12b1:(((rd_T45 l0 x12_1).f0) != 1)=true:=bne_iff_ne.mpr c12
      have H':=am H
      clear H
      have p253:0 <= (x12_1:Int):=oz
      have q253:x12_1<(t250.length:Int):=oz
      obtain ⟨ad253,e253,hx253_0,hx253_1⟩:=at_T30 (Kd.R_reads' HO_10.out).2.2 x12_1 p253 q253
      cases e253
      replace p253:=eq_true p253
      replace q253:=eq_true q253
      go_wp2_with (first|((with_reducible refine gate_dst (N:=5) rfl ?_);refine box_event ?hg (N:=5) ?hd (cs:=#[.int .i64 0,.int .i64 0]) (t:=30) ?hr ?_;(case hd=>rfl);(case hg=>rfl);(case hr=>exact vz);intro gb254 hg w20 hbox hb;replace HO_3:=qz HO_3 hb;replace HO_10:=am (Kd.R_below (Kd.R_elderB (rz HO_10.out) gb254 (Nat.le_of_eq hg.symm)) hb);have BK254:=am (hbox);have GW254:=am ((by rw [hg];exact (below_size (bz0 HB.out)):w.heap.size <= gb254));have GE254:=GW254;replace HB:=bs (bz0 HB.out) hb;clear hb hbox hg;obtain ⟨hcz21_0,hcz21_1⟩:=cz2 BK254.out;obtain ⟨hfz21_0,hfz21_1⟩:=fz2 BK254.out;have p255:0 <= (x12_1:Int):=oz;have q255:x12_1<(l0.length:Int):=oz;obtain ⟨ad255,e255,hx255_0,hx255_1,hx255_2,hx255_3,hx255_4,hx255_5,hx255_6⟩:=at_T45 HR0.out x12_1 p255 q255;cases e255;have hn255_0:ad255.block≠gb254:=Nat.ne_of_lt (Nat.lt_of_lt_of_le (by have:=World.block_lt_of_cell? _ _ hx255_0;first|rwa [add_block] at this|exact this) GW254.out);have hn255_1:ad255.block≠gb254:=Nat.ne_of_lt (Nat.lt_of_lt_of_le (by have:=World.block_lt_of_cell? _ _ hx255_0;first|rwa [add_block] at this|exact this) GW254.out);replace hx255_0:=hz HB.out hx255_0;replace hx255_1:=hz HB.out hx255_1;replace hx255_2:=hz HB.out hx255_2;replace hx255_3:=hz HB.out hx255_3;replace hx255_4:=hz HB.out hx255_4;replace hx255_5:=hz HB.out hx255_5;replace hx255_6:=hz HB.out hx255_6;replace hx255_0:=(cell_far (p:=⟨gb254,0,none⟩) (nz hn255_0) (.int .i64 ((rd_T30 t250 x12_1).f0))).trans hx255_0;replace hx255_1:=(cell_far (p:=⟨gb254,0,none⟩) (nz hn255_0) (.int .i64 ((rd_T30 t250 x12_1).f0))).trans hx255_1;replace hx255_2:=(cell_far (p:=⟨gb254,0,none⟩) (nz hn255_0) (.int .i64 ((rd_T30 t250 x12_1).f0))).trans hx255_2;replace hx255_3:=(cell_far (p:=⟨gb254,0,none⟩) (nz hn255_0) (.int .i64 ((rd_T30 t250 x12_1).f0))).trans hx255_3;replace hx255_4:=(cell_far (p:=⟨gb254,0,none⟩) (nz hn255_0) (.int .i64 ((rd_T30 t250 x12_1).f0))).trans hx255_4;replace hx255_5:=(cell_far (p:=⟨gb254,0,none⟩) (nz hn255_0) (.int .i64 ((rd_T30 t250 x12_1).f0))).trans hx255_5;replace hx255_6:=(cell_far (p:=⟨gb254,0,none⟩) (nz hn255_0) (.int .i64 ((rd_T30 t250 x12_1).f0))).trans hx255_6;replace hx255_0:=(cell_far (p:=⟨gb254,1,none⟩) (nz hn255_1) (.int .i64 ((rd_T30 t250 x12_1).f1))).trans hx255_0;replace hx255_1:=(cell_far (p:=⟨gb254,1,none⟩) (nz hn255_1) (.int .i64 ((rd_T30 t250 x12_1).f1))).trans hx255_1;replace hx255_2:=(cell_far (p:=⟨gb254,1,none⟩) (nz hn255_1) (.int .i64 ((rd_T30 t250 x12_1).f1))).trans hx255_2;replace hx255_3:=(cell_far (p:=⟨gb254,1,none⟩) (nz hn255_1) (.int .i64 ((rd_T30 t250 x12_1).f1))).trans hx255_3;replace hx255_4:=(cell_far (p:=⟨gb254,1,none⟩) (nz hn255_1) (.int .i64 ((rd_T30 t250 x12_1).f1))).trans hx255_4;replace hx255_5:=(cell_far (p:=⟨gb254,1,none⟩) (nz hn255_1) (.int .i64 ((rd_T30 t250 x12_1).f1))).trans hx255_5;replace hx255_6:=(cell_far (p:=⟨gb254,1,none⟩) (nz hn255_1) (.int .i64 ((rd_T30 t250 x12_1).f1))).trans hx255_6;clear hn255_0;clear hn255_1;replace p255:=eq_true p255;replace q255:=eq_true q255))
      go_roundg k1
      case measure=>have:=HK1.out;omega
      case rel=>exact ⟨(x3_1),(wrap64 (x12_1+1)),ez,H',⟨by have:=HK1.out;omega⟩,⟨by refine rq ?_;first|(with_reducible exact Kd.R_mono (Kd.R_far (p:=⟨gb254,1,none⟩) (Kd.R_far (p:=⟨gb254,0,none⟩) (Kd.R_types HO_3.out BK254.out (by decide)) (fun _ hk=>hk.2) (.int .i64 ((rd_T30 t250 x12_1).f0))) (fun _ hk=>hk.2) (.int .i64 ((rd_T30 t250 x12_1).f1))) (fun _ hk=>trivial))|exact Kd.R_mono (Kd.R_far (p:=⟨gb254,1,none⟩) (Kd.R_drewN (Kd.R_far (p:=⟨gb254,0,none⟩) (Kd.R_types HO_3.out BK254.out (by decide)) (fun _ hk=>hk.2) (.int .i64 ((rd_T30 t250 x12_1).f0))) _) (fun _ hk=>hk.2) (.int .i64 ((rd_T30 t250 x12_1).f1))) (fun _ hk=>trivial)⟩,⟨by refine rq ?_;first|(with_reducible exact Kd.R_mono (Kd.R_far (p:=⟨gb254,1,none⟩) (Kd.R_far (p:=⟨gb254,0,none⟩) (Kd.R_mono HO_10.out (fun k_ hk=>(⟨hk,hk.2⟩:_ /\ k_≠gb254))) (fun _ hk=>hk.2) (.int .i64 ((rd_T30 t250 x12_1).f0))) (fun _ hk=>hk.2) (.int .i64 ((rd_T30 t250 x12_1).f1))) (fun _ hk=>trivial))|exact Kd.R_mono (Kd.R_far (p:=⟨gb254,1,none⟩) (Kd.R_drewN (Kd.R_far (p:=⟨gb254,0,none⟩) (Kd.R_mono HO_10.out (fun k_ hk=>(⟨hk,hk.2⟩:_ /\ k_≠gb254))) (fun _ hk=>hk.2) (.int .i64 ((rd_T30 t250 x12_1).f0))) _) (fun _ hk=>hk.2) (.int .i64 ((rd_T30 t250 x12_1).f1))) (fun _ hk=>trivial)⟩,⟨(bz1 HB.out GE254.out)⟩⟩
    ·rw [if_neg c8] at H
     have c8b0:=decide_eq_false c8
     clear c8
     replace H:=bi H
     obtain ⟨⟨t260,t263⟩,A220,H⟩:=H
     try dsimp only at H
     have A22:=am A220
     clear A220
     obtain rfl:=Option.some.inj H
     obtain ⟨Ao23,co23,eo23⟩:=Kd.R_slice HO_3.out
     subst eo23
     go_wp2_with (first|((with_reducible refine gate_callee (f:=46) rfl ?_);refine goesL_ (some 38) rfl rfl Tryz.func46 kr rfl #[.slice Ao23 x3_1.length co23] rfl lz ?_;(with_reducible refine (impl_sorted.calls k1 (fun k_=>some k_=(.slice Ao23 x3_1.length co23:Value).ownBlock) (.slice Ao23 x3_1.length co23) x3_1 t260 t263 w _ ?side1 ?side2 A22.out).mono ?_);(case side1=>repeat (first|(with_reducible first|exact HB.out|apply below_alloc|apply pw_below_drewN|apply below_drew1)|exact HB.out));(case side2=>exact Kd.R_tight rfl HO_3.out);rintro e w24 ⟨v261,rfl,ho0,hy0,hb,hkp⟩;refine ⟨_,rfl,?_⟩;replace HO_10:=am (Kd.R_mono (ok':=fun k_=>True) (Kd.R_keptB ((Kd.R_apart' HO_10.out (Kd.R_typed HO_3.out) (by decide))) hkp (fun k_ hk_ hs_=>by with_reducible first|exact absurd hs_ hk_.2|exact absurd hs_ hk_|exact absurd hs_ hk_.1|exact absurd hs_ hk_.2|exact absurd hs_ hk_.1.1|exact absurd hs_ hk_.1.2)) (fun k_ hk_=>trivial));replace HO_3:=am (Kd.R_reok rfl hy0 (fun k_ e_=>HO_3.out.1 k_ e_));have HO262:=am (Kd.R_mono (ok':=fun k_=>some k_≠(.slice Ao23 x3_1.length co23:Value).ownBlock) ho0 (fun k_ hk_=>by first|exact hk_.2|(with_reducible first|exact hk_.1|exact hk_.1.1|exact hk_.1.2|exact hk_.1.1.1|exact hk_.1.1.2|exact hk_.2.1|exact hk_.1.2.1|exact hk_.1.2.2)));replace HB:=am (hb);(try clear hb);(try clear hkp);(try clear ho0);(try clear hy0)))
     go_ret
     exact ⟨_,gz,by refine rq ?_;exact Kd.R_mono HO262.out (fun _ hk=>trivial),(bz0 HB.out)⟩
 ·replace c3:=Bool.eq_false_iff.mpr c3
  subst c3
  have H1:=hq H
  clear H
  have H:=H1
  clear H1
  obtain rfl:=Option.some.inj H
  go_enter Tryz.func19,Tryz.ntmps19
  go_wp2_with (first|((with_reducible refine gate_callee (f:=44) rfl ?_);refine goesL_ (some 7) rfl rfl Tryz.func44 kr rfl #[.slice A0 l0.length c0] rfl lz ?_;(with_reducible refine (impl_NodesOk.calls k _ _ l0 false _ ?side1 ?side2 A2.out).mono ?_);(case side1=>repeat (first|exact HR0.out|(with_reducible refine Kd.C_alloc ?_ _)|(with_reducible refine Kd.C_drewN ?_ _)|(with_reducible refine Kd.C_drew ?_)));(case side2=>exact HC0.out);rintro e w25 ⟨rfl,hb⟩;refine ⟨_,rfl,?_⟩;replace HB:=bs (bz0 HB.out) hb;(try clear hb);(try clear hi)))
  go_ret
  exact ⟨_,gz,by first|exact Kd.R_nil _ _ _ _ _|exact Kd.N_nil _ _ _ _ _|exact Kd.V_nil _ _ _ _ _|exact Kd.Q_nil _ _ _ _ _|exact Kd.S_nil _ _ _ _ _,(bz0 HB.out)⟩
def impl_FreshName.l0:Nat -> Int -> ByteArray -> Option (ByteArray)
 | 0,_,_=>none
 | k+1,x0,x3=>if x0 > 0 then ((some (([(wrap64 (97+(Int.tmod x0 26))) % 256]:List Int):List Int)).bind fun y268=>(if (strOfNums y268).size+x3.size <= 9223372036854775807 then (impl_FreshName.l0 k (wrap64 (Int.tdiv x0 26)) ((strOfNums y268)++x3)) else (none))) else (if 2+x3.size <= 9223372036854775807 then (some ((⟨#[122,113]⟩:ByteArray)++x3)) else (none))
def impl_FreshName.f (k:Nat) (a0:Int):Option (ByteArray):=(impl_in.f a0 0 9999).bind fun t264=>(if t264=true then (impl_FreshName.l0 k (wrap64 (Int.tdiv a0 26)) (strOfNums (([(wrap64 (97+(Int.tmod a0 26))) % 256]:List Int)))) else (some (⟨#[]⟩:ByteArray)))
theorem impl_FreshName.mono_l:∀ k,(∀ y0 y1,LeO (impl_FreshName.l0 k y0 y1) (impl_FreshName.l0 (k+1) y0 y1))
 | 0=>fun _ _ r h=>by simp [impl_FreshName.l0] at h
 | k+1=>by
  have ih0:=impl_FreshName.mono_l k
  ·intro y0 y1
   unfold impl_FreshName.l0
   with_reducible repeat' first|exact ih0 _ _|exact lrz _|exact lnz _|refine liz ?_ ?_|refine lbz ?_ fun _=>?_
theorem impl_FreshName.mono:∀ a0 k,LeO (impl_FreshName.f k a0) (impl_FreshName.f (k+1) a0):=by
 intro a0 k
 have ih0:=impl_FreshName.mono_l k
 unfold impl_FreshName.f
 with_reducible repeat' first|exact ih0 _ _|exact lrz _|exact lnz _|refine liz ?_ ?_|refine lbz ?_ fun _=>?_
set_option maxHeartbeats 8000000 in
set_option maxRecDepth 100000 in
theorem impl_FreshName.calls (k:Nat) (a0:Int) (r:ByteArray) (w:World) (h:impl_FreshName.f k a0=some r) :
  Calls Tryz.prog 23 #[.int .i64 a0] w fun e w'=>e=.returned (.string r) /\ Below w.heap.size w w':=by
 have HB:=am (Below.refl w.heap.size w)
 have H:((impl_in.f a0 0 9999).bind fun t264=>(if t264=true then (impl_FreshName.l0 k (wrap64 (Int.tdiv a0 26)) (strOfNums (([(wrap64 (97+(Int.tmod a0 26))) % 256]:List Int)))) else (some (⟨#[]⟩:ByteArray))))=some r:=h
 clear h
 replace H:=bi H
 obtain ⟨t264,A20,H⟩:=H
 try dsimp only at H
 have A2:=am A20
 clear A20
 by_cases c3:t264=true
 ·subst c3
  have H1:=hp H
  clear H
  have H:=H1
  clear H1
  obtain ⟨y265,hy265⟩:∃ y_:List Int,y_=(([(wrap64 (97+(Int.tmod a0 26))) % 256]:List Int)):=⟨_,rfl⟩
  replace H:(impl_FreshName.l0 k (wrap64 (Int.tdiv a0 26)) (strOfNums y265))=some r:=yz hy265 H
  have Ny265:=am hy265
  clear hy265
  have H':=am H
  clear H
  go_enter Tryz.func23,Tryz.ntmps23
  go_wp2_with (first|((with_reducible refine gate_callee (f:=47) rfl ?_);refine goesL_ (some 5) rfl rfl Tryz.func47 kr rfl #[.int .i64 a0,.int .i64 0,.int .i64 9999] rfl lz ?_;(with_reducible refine (impl_in.calls a0 0 9999 true _ A2.out).mono ?_);rintro e w' ⟨rfl,⟨nd,rfl⟩⟩;refine ⟨_,rfl,?_⟩)|((with_reducible refine gate_dst (N:=11) rfl ?_);refine Kd.R_lit (Kd.int .u8) _ 5 ?hg (N:=11) ?hd (xs:=([(wrap64 (97+(Int.tmod a0 26))) % 256]:List Int)) (inner:=[.int .u8 ((wrap64 (97+(Int.tmod a0 26))) % 256)]) (ok:=fun _=>True) (okp:=fun _=>True) ?hr ?hp (fun _ hk=>hk) trivial (Below.refl _ _) (Nat.le_refl _) (by simp) ?_;(case hd=>rfl);(case hg=>rfl);(case hr=>exact vz);(case hp=>exact (Reps.one (show Kd.M (Kd.int .u8) _ _ _ ((wrap64 (97+(Int.tmod a0 26))) % 256) [.int .u8 ((wrap64 (97+(Int.tmod a0 26))) % 256)] from rfl) (Reps.none _ _)));intro v266 w4 ho5 hb hg_ hnew_;clear hg_ hnew_;(first|rw [<- Ny265.out] at ho5|(simp only [Int.reduceToNat] at ho5;rw [<- Ny265.out] at ho5));have HO267:=am (Kd.R_lower ho5 (below_size (bz0 HB.out)));replace HB:=bs (bz0 HB.out) hb;clear hb ho5;have hcv6:=own_string (P:=Tryz.prog) Tryz.underlying35 Tryz.underlying5 Tryz.underlying9 (Kd.own_of_R HO267.out)))
  go_loopg [0,3] k (fun kq v0 v3 w'=>∃ (x0_1:Int) (x3_1:ByteArray),v0=.int .i64 x0_1 /\ v3=.string x3_1 /\ Aside0 (impl_FreshName.l0 kq x0_1 x3_1=some r) /\ Aside0 (kq <= k) /\ Aside0 (Below w.heap.size w w'))
  case atStart=>exact ⟨(wrap64 (Int.tdiv a0 26)),(strOfNums y265),ez,ez,H',⟨Nat.le_refl _⟩,⟨(bz0 HB.out)⟩⟩
  case round =>
   clear H'
   try clear c2
   try clear p2
   try clear c3
   try clear c4
   try clear p6
   try clear hcv6
   obtain ⟨x0_1,x3_1,rfl,rfl,HA,HK1,HB⟩:=hrel
   cases gk with
   | zero=>exact absurd HA.out (by simp [impl_FreshName.l0])
   | succ k1 =>
    have H:=HA.out
    clear HA
    simp only [impl_FreshName.l0] at H
    by_cases c7:x0_1 > 0
    ·rw [if_pos c7] at H
     have c7b0:decide (0<x0_1)=true:=decide_eq_true c7
     clear c7
     obtain ⟨y268,hy268⟩:∃ y_:List Int,y_=(([(wrap64 (97+(Int.tmod x0_1 26))) % 256]:List Int)):=⟨_,rfl⟩
     replace H:(if (strOfNums y268).size+x3_1.size <= 9223372036854775807 then (impl_FreshName.l0 k1 (wrap64 (Int.tdiv x0_1 26)) ((strOfNums y268)++x3_1)) else (none))=some r:=yz hy268 H
     have Ny268:=am hy268
     clear hy268
     replace H:=iz H
     obtain ⟨c8,H⟩:=H
     have c8b0:=eq_true c8
     have c8b1:decide ((strOfNums y268).size+x3_1.size <= 9223372036854775807)=true:=decide_eq_true c8
     try have c8b2:(9223372036854775807<(strOfNums y268).size+x3_1.size)=False:=eq_false (Nat.not_lt.2 c8)
     have H':=am H
     clear H
     go_wp2_with (first|((with_reducible refine gate_dst (N:=23) rfl ?_);refine Kd.R_lit (Kd.int .u8) _ 5 ?hg (N:=23) ?hd (xs:=([(wrap64 (97+(Int.tmod x0_1 26))) % 256]:List Int)) (inner:=[.int .u8 ((wrap64 (97+(Int.tmod x0_1 26))) % 256)]) (ok:=fun _=>True) (okp:=fun _=>True) ?hr ?hp (fun _ hk=>hk) trivial (Below.refl _ _) (Nat.le_refl _) (by simp) ?_;(case hd=>rfl);(case hg=>rfl);(case hr=>exact vz);(case hp=>exact (Reps.one (show Kd.M (Kd.int .u8) _ _ _ ((wrap64 (97+(Int.tmod x0_1 26))) % 256) [.int .u8 ((wrap64 (97+(Int.tmod x0_1 26))) % 256)] from rfl) (Reps.none _ _)));intro v269 w9 ho10 hb hg_ hnew_;clear hg_ hnew_;(first|rw [<- Ny268.out] at ho10|(simp only [Int.reduceToNat] at ho10;rw [<- Ny268.out] at ho10));have HO270:=am (Kd.R_lower ho10 (below_size (bz0 HB.out)));replace HB:=bs (bz0 HB.out) hb;clear hb ho10;have hcv11:=own_string (P:=Tryz.prog) Tryz.underlying35 Tryz.underlying5 Tryz.underlying9 (Kd.own_of_R HO270.out)))
     go_roundg k1
     case measure=>have:=HK1.out;omega
     case rel=>exact ⟨(wrap64 (Int.tdiv x0_1 26)),((strOfNums y268)++x3_1),ez,ez,H',⟨by have:=HK1.out;omega⟩,⟨(bz0 HB.out)⟩⟩
    ·rw [if_neg c7] at H
     have c7b0:decide (0<x0_1)=false:=decide_eq_false c7
     clear c7
     replace H:=iz H
     obtain ⟨c12,H⟩:=H
     have c12b0:=eq_true c12
     have c12b1:decide (2+x3_1.size <= 9223372036854775807)=true:=decide_eq_true c12
     try have c12b2:(9223372036854775807<2+x3_1.size)=False:=eq_false (Nat.not_lt.2 c12)
     obtain rfl:=Option.some.inj H
     go_wp2
     go_ret
     exact ⟨gz,(bz0 HB.out)⟩
 ·replace c3:=Bool.eq_false_iff.mpr c3
  subst c3
  have H1:=hq H
  clear H
  have H:=H1
  clear H1
  obtain rfl:=Option.some.inj H
  go_enter Tryz.func23,Tryz.ntmps23
  go_wp2_with (first|((with_reducible refine gate_callee (f:=47) rfl ?_);refine goesL_ (some 5) rfl rfl Tryz.func47 kr rfl #[.int .i64 a0,.int .i64 0,.int .i64 9999] rfl lz ?_;(with_reducible refine (impl_in.calls a0 0 9999 false _ A2.out).mono ?_);rintro e w' ⟨rfl,⟨nd,rfl⟩⟩;refine ⟨_,rfl,?_⟩))
  go_ret
  exact ⟨gz,(bz0 HB.out)⟩
def impl_hasText.l0:Nat -> ByteArray -> List ByteArray -> Int -> Int -> Option (Bool)
 | 0,_,_,_,_=>none
 | k+1,x1,x7,x8,x9=>if x9<x8 then (if 0 <= x9 then (if x9<(x7.length:Int) then (if (rdOf ByteArray.empty x7 x9).toList=x1.toList then (some true) else (impl_hasText.l0 k x1 x7 x8 (wrap64 (x9+1)))) else (none)) else (none)) else (some false)
def impl_hasText.f (k:Nat) (l0:List ByteArray) (a1:ByteArray):Option (Bool):=impl_hasText.l0 k a1 l0 (l0.length:Int) 0
theorem impl_hasText.mono_l:∀ k,(∀ y0 y1 y2 y3,LeO (impl_hasText.l0 k y0 y1 y2 y3) (impl_hasText.l0 (k+1) y0 y1 y2 y3))
 | 0=>fun _ _ _ _ r h=>by simp [impl_hasText.l0] at h
 | k+1=>by
  have ih0:=impl_hasText.mono_l k
  ·intro y0 y1 y2 y3
   unfold impl_hasText.l0
   with_reducible repeat' first|exact ih0 _ _ _ _|exact lrz _|exact lnz _|refine liz ?_ ?_|refine lbz ?_ fun _=>?_
theorem impl_hasText.mono:∀ a0 a1 k,LeO (impl_hasText.f k a0 a1) (impl_hasText.f (k+1) a0 a1):=by
 intro a0 a1 k
 have ih0:=impl_hasText.mono_l k
 unfold impl_hasText.f
 with_reducible repeat' first|exact ih0 _ _ _ _|exact lrz _|exact lnz _|refine liz ?_ ?_|refine lbz ?_ fun _=>?_
set_option maxHeartbeats 8000000 in
set_option maxRecDepth 100000 in
theorem impl_hasText.calls (k:Nat) (A0:Option Addr) (c0:Nat) (l0:List ByteArray) (a1:ByteArray) (r:Bool) (w:World) (hr0:Kd.C Kd.string w A0 l0.length l0) (hc0:l0.length <= c0) (h:impl_hasText.f k l0 a1=some r) :
  Calls Tryz.prog 45 #[.slice A0 l0.length c0,.string a1] w fun e w'=>e=.returned (.bool r) /\ Drawn0 w w':=by
 have HR0:=am hr0
 have HC0:=am hc0
 clear hr0 hc0
 have H:(impl_hasText.l0 k a1 l0 (l0.length:Int) 0)=some r:=h
 clear h
 have H':=am H
 clear H
 go_enter Tryz.func45,Tryz.ntmps45
 go_wp2
 go_loopg [9] k (fun kq v9 w'=>∃ (x9_1:Int),v9=.int .i64 x9_1 /\ Aside0 (impl_hasText.l0 kq a1 l0 (l0.length:Int) x9_1=some r) /\ Aside0 (kq <= k) /\ Drawn0 w w')
 case atStart=>exact ⟨(0),ez,H',⟨Nat.le_refl _⟩,dz⟩
 case round =>
  clear H'
  try clear p2
  obtain ⟨x9_1,rfl,HA,HK1,⟨m1,rfl⟩⟩:=hrel
  cases gk with
  | zero=>exact absurd HA.out (by simp [impl_hasText.l0])
  | succ k1 =>
   have H:=HA.out
   clear HA
   simp only [impl_hasText.l0] at H
   by_cases c3:x9_1<(l0.length:Int)
   ·rw [if_pos c3] at H
    have c3b0:=decide_eq_true c3
    clear c3
    replace H:=iz H
    obtain ⟨c4,H⟩:=H
    have c4b0:=decide_eq_true c4
    clear c4
    replace H:=iz H
    obtain ⟨c5,H⟩:=H
    have c5b0:=decide_eq_true c5
    clear c5
    by_cases c6:(rdOf ByteArray.empty l0 x9_1).toList=a1.toList
    ·rw [if_pos c6] at H
     have c6b0:((rdOf ByteArray.empty l0 x9_1).toList == a1.toList)=true:=beq_iff_eq.mpr c6
     have c6b1:((rdOf ByteArray.empty l0 x9_1).toList != a1.toList)=false:=bne_eq_false_iff_eq.mpr c6
     clear c6
     obtain rfl:=Option.some.inj H
     have p271:0 <= (x9_1:Int):=oz
     have q271:x9_1<(l0.length:Int):=oz
     obtain ⟨ad271,e271,hx271_0⟩:=Kd.at_string HR0.out x9_1 p271 q271
     cases e271
     replace p271:=eq_true p271
     replace q271:=eq_true q271
     go_wp2
     go_ret
     exact ⟨e2z,dz⟩
    ·rw [if_neg c6] at H
     have c6b0:((rdOf ByteArray.empty l0 x9_1).toList == a1.toList)=false:=beq_eq_false_iff_ne.mpr c6
     have c6b1:((rdOf ByteArray.empty l0 x9_1).toList != a1.toList)=true:=bne_iff_ne.mpr c6
     have H':=am H
     clear H
     have p271:0 <= (x9_1:Int):=oz
     have q271:x9_1<(l0.length:Int):=oz
     obtain ⟨ad271,e271,hx271_0⟩:=Kd.at_string HR0.out x9_1 p271 q271
     cases e271
     replace p271:=eq_true p271
     replace q271:=eq_true q271
     go_wp2
     go_roundg k1
     case measure=>have:=HK1.out;omega
     case rel=>exact ⟨(wrap64 (x9_1+1)),ez,H',⟨by have:=HK1.out;omega⟩,dz⟩
   ·rw [if_neg c3] at H
    have c3b0:=decide_eq_false c3
    clear c3
    obtain rfl:=Option.some.inj H
    go_wp2
    go_ret
    exact ⟨e2z,dz⟩
mutual
def impl_Canon.l0:Nat -> List (S45) -> List (S30) -> List ByteArray -> Int -> List (S30) -> Int -> Int -> Option ((List (S45)))
 | 0,_,_,_,_,_,_,_=>none
 | k+1,x3,x4,x5,x6,x19,x20,x21=>if x21<x20 then (if 0 <= x21 then (if x21<(x19.length:Int) then (impl_Canon.l1 k x3 x4 x5 x6 x19 x20 x21 ((rd_T30 x19 x21).f0) ((rd_T30 x19 x21).f1)) else (none)) else (none)) else (some x3)
def impl_Canon.l1:Nat -> List (S45) -> List (S30) -> List ByteArray -> Int -> List (S30) -> Int -> Int -> Int -> Int -> Option ((List (S45)))
 | 0,_,_,_,_,_,_,_,_,_=>none
 | k+1,x3,x4,x5,x6,x19,x20,x21,x287000,x287001=>(impl_FreshName.f k x6).bind fun t287=>((impl_hasText.f k x5 t287).bind fun t288=>(if t288=true then (impl_Canon.l1 k x3 x4 x5 (wrap64 (x6+1)) x19 x20 x21 x287000 x287001) else ((impl_FreshName.f k x6).bind fun t289=>((impl_rename.f k x3 x4 x287000 x287001 t289).bind fun t290=>(impl_Canon.l0 k t290 x4 x5 (wrap64 (x6+1)) x19 x20 (wrap64 (x21+1)))))))
end
def impl_Canon.f (k:Nat) (l0:List (S45)):Option ((List (S45))):=(impl_NodesOk.f k l0).bind fun t272=>(if t272=true then ((impl_copyNodes.f l0).bind fun t273=>((impl_binders.f k l0).bind fun t276=>((impl_FreeNames.f k l0).bind fun t279=>((impl_Sites.f k l0).bind fun t282=>(impl_Canon.l0 k t273 t276 t279 0 t282 (t282.length:Int) 0))))) else (some ([]:List (S45))))
theorem impl_Canon.mono_l:∀ k,(∀ y0 y1 y2 y3 y4 y5 y6,LeO (impl_Canon.l0 k y0 y1 y2 y3 y4 y5 y6) (impl_Canon.l0 (k+1) y0 y1 y2 y3 y4 y5 y6)) /\ (∀ y0 y1 y2 y3 y4 y5 y6 y7 y8,LeO (impl_Canon.l1 k y0 y1 y2 y3 y4 y5 y6 y7 y8) (impl_Canon.l1 (k+1) y0 y1 y2 y3 y4 y5 y6 y7 y8))
 | 0=>⟨fun _ _ _ _ _ _ _ r h=>by simp [impl_Canon.l0] at h,fun _ _ _ _ _ _ _ _ _ r h=>by simp [impl_Canon.l1] at h⟩
 | k+1=>by
  obtain ⟨ih0,ih1⟩:=impl_Canon.mono_l k
  refine ⟨?_,?_⟩
  ·intro y0 y1 y2 y3 y4 y5 y6
   unfold impl_Canon.l0
   with_reducible repeat' first|exact ih0 _ _ _ _ _ _ _|exact ih1 _ _ _ _ _ _ _ _ _|exact impl_FreeNames.mono _ _|exact impl_FreshName.mono _ _|exact impl_NodesOk.mono _ _|exact impl_Sites.mono _ _|exact impl_binders.mono _ _|exact impl_hasText.mono _ _ _|exact impl_rename.mono _ _ _ _ _ _|exact lrz _|exact lnz _|refine liz ?_ ?_|refine lbz ?_ fun _=>?_
  ·intro y0 y1 y2 y3 y4 y5 y6 y7 y8
   unfold impl_Canon.l1
   with_reducible repeat' first|exact ih0 _ _ _ _ _ _ _|exact ih1 _ _ _ _ _ _ _ _ _|exact impl_FreeNames.mono _ _|exact impl_FreshName.mono _ _|exact impl_NodesOk.mono _ _|exact impl_Sites.mono _ _|exact impl_binders.mono _ _|exact impl_hasText.mono _ _ _|exact impl_rename.mono _ _ _ _ _ _|exact lrz _|exact lnz _|refine liz ?_ ?_|refine lbz ?_ fun _=>?_
theorem impl_Canon.mono:∀ a0 k,LeO (impl_Canon.f k a0) (impl_Canon.f (k+1) a0):=by
 intro a0 k
 obtain ⟨ih0,ih1⟩:=impl_Canon.mono_l k
 unfold impl_Canon.f
 with_reducible repeat' first|exact ih0 _ _ _ _ _ _ _|exact ih1 _ _ _ _ _ _ _ _ _|exact impl_FreeNames.mono _ _|exact impl_FreshName.mono _ _|exact impl_NodesOk.mono _ _|exact impl_Sites.mono _ _|exact impl_binders.mono _ _|exact impl_hasText.mono _ _ _|exact impl_rename.mono _ _ _ _ _ _|exact lrz _|exact lnz _|refine liz ?_ ?_|refine lbz ?_ fun _=>?_
set_option maxHeartbeats 8000000 in
set_option maxRecDepth 100000 in
theorem impl_Canon.calls (k:Nat) (A0:Option Addr) (c0:Nat) (l0:List (S45)) (r:List (S45)) (w:World) (hr0:Kd.C k45 w A0 l0.length l0) (hc0:l0.length <= c0) (h:impl_Canon.f k l0=some r) :
  Calls Tryz.prog 18 #[.slice A0 l0.length c0] w fun e w'=>∃ v0_:Value,e=.returned (v0_) /\ Kd.R k45 45 w' w.heap.size (fun _=>True) v0_ r /\ Below w.heap.size w w':=by
 have hu30:=Tryz.underlying30
 have HR0:=am hr0
 have HC0:=am hc0
 clear hr0 hc0
 have HB:=am (Below.refl w.heap.size w)
 have H:((impl_NodesOk.f k l0).bind fun t272=>(if t272=true then ((impl_copyNodes.f l0).bind fun t273=>((impl_binders.f k l0).bind fun t276=>((impl_FreeNames.f k l0).bind fun t279=>((impl_Sites.f k l0).bind fun t282=>(impl_Canon.l0 k t273 t276 t279 0 t282 (t282.length:Int) 0))))) else (some ([]:List (S45)))))=some r:=h
 clear h
 replace H:=bi H
 obtain ⟨t272,A20,H⟩:=H
 try dsimp only at H
 have A2:=am A20
 clear A20
 by_cases c3:t272=true
 ·subst c3
  have H1:=hp H
  clear H
  have H:=H1
  clear H1
  replace H:=bi H
  obtain ⟨t273,A40,H⟩:=H
  try dsimp only at H
  have A4:=am A40
  clear A40
  replace H:=bi H
  obtain ⟨t276,A50,H⟩:=H
  try dsimp only at H
  have A5:=am A50
  clear A50
  replace H:=bi H
  obtain ⟨t279,A60,H⟩:=H
  try dsimp only at H
  have A6:=am A60
  clear A60
  replace H:=bi H
  obtain ⟨t282,A70,H⟩:=H
  try dsimp only at H
  have A7:=am A70
  clear A70
  have H':=am H
  clear H
  go_enter Tryz.func18,Tryz.ntmps18
  go_wp2_with (first|((with_reducible refine gate_callee (f:=44) rfl ?_);refine goesL_ (some 10) rfl rfl Tryz.func44 kr rfl #[.slice A0 l0.length c0] rfl lz ?_;(with_reducible refine (impl_NodesOk.calls k _ _ l0 true _ ?side1 ?side2 A2.out).mono ?_);(case side1=>repeat (first|exact HR0.out|(with_reducible refine Kd.C_alloc ?_ _)|(with_reducible refine Kd.C_drewN ?_ _)|(with_reducible refine Kd.C_drew ?_)));(case side2=>exact HC0.out);rintro e w8 ⟨rfl,hb⟩;refine ⟨_,rfl,?_⟩;replace HB:=bs (bz0 HB.out) hb;(try clear hb);(try clear hi))|((with_reducible refine gate_callee (f:=32) rfl ?_);refine goesL_ (some 13) rfl rfl Tryz.func32 kr rfl #[.slice A0 l0.length c0] rfl lz ?_;(with_reducible refine (impl_copyNodes.calls _ _ l0 t273 _ ?side1 ?side2 A4.out).mono ?_);(case side1=>exact cz (Kd.C_below HR0.out HB.out));(case side2=>exact HC0.out);rintro e w9 ⟨v274,rfl,ho0,hb⟩;refine ⟨_,rfl,?_⟩;have HO275:=am (Kd.R_lower ho0 (below_size (bz0 HB.out)));replace HB:=bs (bz0 HB.out) hb;(try clear hb);(try clear ho0))|((with_reducible refine gate_callee (f:=34) rfl ?_);refine goesL_ (some 15) rfl rfl Tryz.func34 kr rfl #[.slice A0 l0.length c0] rfl lz ?_;(with_reducible refine (impl_binders.calls k _ _ l0 t276 _ ?side1 ?side2 A5.out).mono ?_);(case side1=>exact cz (Kd.C_below HR0.out HB.out));(case side2=>exact HC0.out);rintro e w10 ⟨v277,rfl,ho0,hb⟩;refine ⟨_,rfl,?_⟩;replace HO275:=qz HO275 hb;have HO278:=am (Kd.R_lower ho0 (below_size (bz0 HB.out)));replace HB:=bs (bz0 HB.out) hb;(try clear hb);(try clear ho0))|((with_reducible refine gate_callee (f:=19) rfl ?_);refine goesL_ (some 17) rfl rfl Tryz.func19 kr rfl #[.slice A0 l0.length c0] rfl lz ?_;(with_reducible refine (impl_FreeNames.calls k _ _ l0 t279 _ ?side1 ?side2 A6.out).mono ?_);(case side1=>exact cz (Kd.C_below HR0.out HB.out));(case side2=>exact HC0.out);rintro e w11 ⟨v280,rfl,ho0,hb⟩;refine ⟨_,rfl,?_⟩;replace HO275:=qz HO275 hb;replace HO278:=qz HO278 hb;have HO281:=am (Kd.R_lower ho0 (below_size (bz0 HB.out)));replace HB:=bs (bz0 HB.out) hb;(try clear hb);(try clear ho0))|((with_reducible refine gate_callee (f:=30) rfl ?_);refine goesL_ (some 19) rfl rfl Tryz.func30 kr rfl #[.slice A0 l0.length c0] rfl lz ?_;(with_reducible refine (impl_Sites.calls k _ _ l0 t282 _ ?side1 ?side2 A7.out).mono ?_);(case side1=>exact cz (Kd.C_below HR0.out HB.out));(case side2=>exact HC0.out);rintro e w12 ⟨v283,rfl,ho0,hb⟩;refine ⟨_,rfl,?_⟩;replace HO275:=qz HO275 hb;replace HO281:=qz HO281 hb;have HO284:=am (Kd.R_lower (Kd.R_new' ho0 (Kd.R_lt (rz HO278.out))) (below_size (bz0 HB.out)));replace HO278:=am (Kd.R_elder' (rz HO278.out) (Kd.R_base ho0) hb);replace HB:=bs (bz0 HB.out) hb;(try clear hb);(try clear ho0);obtain ⟨Ao13,co13,eo13⟩:=Kd.R_slice HO284.out;subst eo13))
  go_loopg [6,21] k (fun kq v6 v21 w'=>∃ (x3_1:List (S45)) (x6_1:Int) (x21_1:Int),v6=.int .i64 x6_1 /\ v21=.int .i64 x21_1 /\ Aside0 (impl_Canon.l0 kq x3_1 t276 t279 x6_1 t282 (t282.length:Int) x21_1=some r) /\ Aside0 (kq <= k) /\ Aside0 (Kd.R k45 45 w' w.heap.size (fun _=>True) v274 x3_1) /\ Aside0 (Kd.R k30 30 w' w.heap.size (fun k_=>some k_≠((.slice Ao13 t282.length co13):Value).ownBlock) v277 t276) /\ Aside0 (Kd.R Kd.string 9 w' w.heap.size (fun _=>True) v280 t279) /\ Aside0 (Kd.R k30 30 w' w.heap.size (fun k_=>some k_≠(v277:Value).ownBlock) (.slice Ao13 t282.length co13) t282) /\ Aside0 (Below w.heap.size w w'))
  case atStart=>exact ⟨(t273),(0),(0),ez,ez,H',⟨Nat.le_refl _⟩,⟨by refine rq ?_;exact HO275.out⟩,⟨by refine rq ?_;exact Kd.R_mono HO278.out (fun _ hk=>hk.2)⟩,⟨by refine rq ?_;exact HO281.out⟩,⟨by refine rq ?_;exact Kd.R_mono HO284.out (fun _ hk=>hk.2)⟩,⟨(bz0 HB.out)⟩⟩
  case round =>
   clear H'
   try clear c1
   try clear p2
   try clear c3
   try clear c4
   obtain ⟨x3_1,x6_1,x21_1,rfl,rfl,HA,HK1,HO_3,HO_4,HO_5,HO_19,HB⟩:=hrel
   cases gk with
   | zero=>exact absurd HA.out (by simp [impl_Canon.l0])
   | succ k1 =>
    have H:=HA.out
    clear HA
    simp only [impl_Canon.l0] at H
    by_cases c14:x21_1<(t282.length:Int)
    ·rw [if_pos c14] at H
     have c14b0:=decide_eq_true c14
     clear c14
     replace H:=iz H
     obtain ⟨c15,H⟩:=H
     have c15b0:=decide_eq_true c15
     clear c15
     replace H:=iz H
     obtain ⟨c16,H⟩:=H
     have c16b0:=decide_eq_true c16
     clear c16
     have H':=am H
     clear H
     have p285:0 <= (x21_1:Int):=oz
     have q285:x21_1<(t282.length:Int):=oz
     obtain ⟨ad285,e285,hx285_0,hx285_1⟩:=at_T30 (Kd.R_reads' HO_19.out).2.2 x21_1 p285 q285
     cases e285
     replace p285:=eq_true p285
     replace q285:=eq_true q285
     go_wp2_with (first|((with_reducible refine gate_dst (N:=8) rfl ?_);refine box_event ?hg (N:=8) ?hd (cs:=#[.int .i64 0,.int .i64 0]) (t:=30) ?hr ?_;(case hd=>rfl);(case hg=>rfl);(case hr=>exact vz);intro gb286 hg w17 hbox hb;replace HO_3:=qz HO_3 hb;replace HO_4:=am (Kd.R_below (Kd.R_elderB (rz HO_4.out) gb286 (Nat.le_of_eq hg.symm)) hb);replace HO_5:=qz HO_5 hb;replace HO_19:=am (Kd.R_below (Kd.R_elderB (rz HO_19.out) gb286 (Nat.le_of_eq hg.symm)) hb);have BK286:=am (hbox);have GW286:=am ((by rw [hg];exact (below_size (bz0 HB.out)):w.heap.size <= gb286));have GE286:=GW286;replace HB:=bs (bz0 HB.out) hb;clear hb hbox hg;obtain ⟨hcz18_0,hcz18_1⟩:=cz2 BK286.out;obtain ⟨hfz18_0,hfz18_1⟩:=fz2 BK286.out))
     (try simp only [Act.put,sz1,sz2,sz3])
     go_loopg [6] k1 (fun kq v6 w'=>∃ (x6_2:Int),v6=.int .i64 x6_2 /\ Aside0 (impl_Canon.l1 kq x3_1 t276 t279 x6_2 t282 (t282.length:Int) x21_1 ((rd_T30 t282 x21_1).f0) ((rd_T30 t282 x21_1).f1)=some r) /\ Aside0 (kq <= k1) /\ Aside0 (Kd.R k45 45 w' w.heap.size (fun _=>True) v274 x3_1) /\ Aside0 (Kd.R k30 30 w' w.heap.size (fun k_=>some k_≠((.slice (some ad285) t282.length co13):Value).ownBlock /\ k_≠gb286) v277 t276) /\ Aside0 (Kd.R Kd.string 9 w' w.heap.size (fun _=>True) v280 t279) /\ Aside0 (Kd.R k30 30 w' w.heap.size (fun k_=>some k_≠(v277:Value).ownBlock /\ k_≠gb286) (.slice (some ad285) t282.length co13) t282) /\ Aside0 (w'.heap[gb286]?=some (.cells #[.int .i64 ((rd_T30 t282 x21_1).f0),.int .i64 ((rd_T30 t282 x21_1).f1)] 30 (0,0))) /\ Aside0 (Below w.heap.size w w'))
     case atStart=>exact ⟨(x6_1),ez,H',⟨Nat.le_refl _⟩,⟨by refine rq ?_;first|(with_reducible exact Kd.R_mono (Kd.R_far (p:=⟨gb286,1,none⟩) (Kd.R_far (p:=⟨gb286,0,none⟩) (Kd.R_types HO_3.out BK286.out (by decide)) (fun _ hk=>hk.2) (.int .i64 ((rd_T30 t282 x21_1).f0))) (fun _ hk=>hk.2) (.int .i64 ((rd_T30 t282 x21_1).f1))) (fun _ hk=>trivial))|exact Kd.R_mono (Kd.R_far (p:=⟨gb286,1,none⟩) (Kd.R_drewN (Kd.R_far (p:=⟨gb286,0,none⟩) (Kd.R_types HO_3.out BK286.out (by decide)) (fun _ hk=>hk.2) (.int .i64 ((rd_T30 t282 x21_1).f0))) _) (fun _ hk=>hk.2) (.int .i64 ((rd_T30 t282 x21_1).f1))) (fun _ hk=>trivial)⟩,⟨by refine rq ?_;first|(with_reducible exact Kd.R_mono (Kd.R_far (p:=⟨gb286,1,none⟩) (Kd.R_far (p:=⟨gb286,0,none⟩) (Kd.R_mono HO_4.out (fun k_ hk=>(⟨hk,hk.2⟩:_ /\ k_≠gb286))) (fun _ hk=>hk.2) (.int .i64 ((rd_T30 t282 x21_1).f0))) (fun _ hk=>hk.2) (.int .i64 ((rd_T30 t282 x21_1).f1))) (fun _ hk=>⟨hk.1.1,hk.1.2⟩))|exact Kd.R_mono (Kd.R_far (p:=⟨gb286,1,none⟩) (Kd.R_drewN (Kd.R_far (p:=⟨gb286,0,none⟩) (Kd.R_mono HO_4.out (fun k_ hk=>(⟨hk,hk.2⟩:_ /\ k_≠gb286))) (fun _ hk=>hk.2) (.int .i64 ((rd_T30 t282 x21_1).f0))) _) (fun _ hk=>hk.2) (.int .i64 ((rd_T30 t282 x21_1).f1))) (fun _ hk=>⟨hk.1.1,hk.1.2⟩)⟩,⟨by refine rq ?_;first|(with_reducible exact Kd.R_mono (Kd.R_far (p:=⟨gb286,1,none⟩) (Kd.R_far (p:=⟨gb286,0,none⟩) (Kd.R_types HO_5.out BK286.out (by decide)) (fun _ hk=>hk.2) (.int .i64 ((rd_T30 t282 x21_1).f0))) (fun _ hk=>hk.2) (.int .i64 ((rd_T30 t282 x21_1).f1))) (fun _ hk=>trivial))|exact Kd.R_mono (Kd.R_far (p:=⟨gb286,1,none⟩) (Kd.R_drewN (Kd.R_far (p:=⟨gb286,0,none⟩) (Kd.R_types HO_5.out BK286.out (by decide)) (fun _ hk=>hk.2) (.int .i64 ((rd_T30 t282 x21_1).f0))) _) (fun _ hk=>hk.2) (.int .i64 ((rd_T30 t282 x21_1).f1))) (fun _ hk=>trivial)⟩,⟨by refine rq ?_;first|(with_reducible exact Kd.R_mono (Kd.R_far (p:=⟨gb286,1,none⟩) (Kd.R_far (p:=⟨gb286,0,none⟩) (Kd.R_mono HO_19.out (fun k_ hk=>(⟨hk,hk.2⟩:_ /\ k_≠gb286))) (fun _ hk=>hk.2) (.int .i64 ((rd_T30 t282 x21_1).f0))) (fun _ hk=>hk.2) (.int .i64 ((rd_T30 t282 x21_1).f1))) (fun _ hk=>⟨hk.1.1,hk.1.2⟩))|exact Kd.R_mono (Kd.R_far (p:=⟨gb286,1,none⟩) (Kd.R_drewN (Kd.R_far (p:=⟨gb286,0,none⟩) (Kd.R_mono HO_19.out (fun k_ hk=>(⟨hk,hk.2⟩:_ /\ k_≠gb286))) (fun _ hk=>hk.2) (.int .i64 ((rd_T30 t282 x21_1).f0))) _) (fun _ hk=>hk.2) (.int .i64 ((rd_T30 t282 x21_1).f1))) (fun _ hk=>⟨hk.1.1,hk.1.2⟩)⟩,⟨by refine kq ?_;refine blk_put (cs:=#[.int .i64 ((rd_T30 t282 x21_1).f0),.int .i64 0]) ?_ 1 _ rfl;refine kq ?_;refine blk_put (cs:=#[.int .i64 0,.int .i64 0]) ?_ 0 _ rfl;refine kq ?_;exact BK286.out⟩,⟨(bz1 HB.out GE286.out)⟩⟩
     case round =>
      clear H'
      try clear c1
      try clear p2
      try clear q2
      try clear hx2
      try clear c3
      try clear c4
      try clear c14
      try clear c14b0
      try clear c15
      try clear c15b0
      try clear c16
      try clear c16b0
      try clear c18
      try clear hcz18_0 hcz18_1
      try clear hfz18_0 hfz18_1
      try clear hx285_0
      try clear hx285_1
      try clear p2
      try clear p285
      try clear q285
      obtain ⟨x6_2,rfl,HA,HK2,HO_3,HO_4,HO_5,HO_19,BK286,HB⟩:=hrel
      cases gk with
      | zero=>exact absurd HA.out (by simp [impl_Canon.l1])
      | succ k2 =>
       have H:=HA.out
       clear HA
       simp only [impl_Canon.l1] at H
       replace H:=bi H
       obtain ⟨t287,A190,H⟩:=H
       try dsimp only at H
       have A19:=am A190
       clear A190
       replace H:=bi H
       obtain ⟨t288,A200,H⟩:=H
       try dsimp only at H
       have A20:=am A200
       clear A200
       by_cases c21:t288=true
       ·subst c21
        have H1:=hp H
        clear H
        have H:=H1
        clear H1
        have H':=am H
        clear H
        go_wp2_with (first|((with_reducible refine gate_callee (f:=23) rfl ?_);refine goesL_ (some 27) rfl rfl Tryz.func23 kr rfl #[.int .i64 x6_2] rfl lz ?_;(with_reducible refine (impl_FreshName.calls k2 x6_2 t287 _ A19.out).mono ?_);rintro e w22 ⟨rfl,hb⟩;refine ⟨_,rfl,?_⟩;replace HO_3:=qz HO_3 hb;replace HO_4:=qz HO_4 hb;replace HO_5:=qz HO_5 hb;replace HO_19:=qz HO_19 hb;replace BK286:=kb BK286 hb;replace HB:=bs (bz1 HB.out GE286.out) hb;(try clear hb);obtain ⟨Ao23,co23,eo23⟩:=Kd.R_slice HO_5.out;subst eo23)|((with_reducible refine gate_callee (f:=45) rfl ?_);refine goesL_ (some 28) rfl rfl Tryz.func45 kr rfl #[.slice Ao23 t279.length co23,.string t287] rfl lz ?_;(with_reducible refine (impl_hasText.calls k2 _ _ t279 t287 true _ ?side1 ?side2 A20.out).mono ?_);(case side1=>exact cz (Kd.R_reads' HO_5.out).2.2);(case side2=>exact (Kd.R_reads' HO_5.out).2.1);rintro e w' ⟨rfl,⟨nd,rfl⟩⟩;refine ⟨_,rfl,?_⟩))
        go_roundg k2
        case measure=>have:=HK1.out;have:=HK2.out;omega
        case rel=>exact ⟨(wrap64 (x6_2+1)),ez,H',⟨by have:=HK1.out;have:=HK2.out;omega⟩,⟨by refine rq ?_;exact HO_3.out⟩,⟨by refine rq ?_;exact HO_4.out⟩,⟨by refine rq ?_;exact HO_5.out⟩,⟨by refine rq ?_;exact HO_19.out⟩,⟨by refine kq ?_;exact BK286.out⟩,⟨(bz1 HB.out GE286.out)⟩⟩
       ·replace c21:=Bool.eq_false_iff.mpr c21
        subst c21
        have H1:=hq H
        clear H
        have H:=H1
        clear H1
        replace H:=bi H
        obtain ⟨t289,A240,H⟩:=H
        try dsimp only at H
        have A24:=am A240
        clear A240
        replace H:=bi H
        obtain ⟨t290,A250,H⟩:=H
        try dsimp only at H
        have A25:=am A250
        clear A250
        have H':=am H
        clear H
        try go_wp2_with (first|((with_reducible refine gate_callee (f:=23) rfl ?_);refine goesL_ (some 27) rfl rfl Tryz.func23 kr rfl #[.int .i64 x6_2] rfl lz ?_;(with_reducible refine (impl_FreshName.calls k2 x6_2 t287 _ A19.out).mono ?_);rintro e w26 ⟨rfl,hb⟩;refine ⟨_,rfl,?_⟩;replace HO_3:=qz HO_3 hb;replace HO_4:=qz HO_4 hb;replace HO_5:=qz HO_5 hb;replace HO_19:=qz HO_19 hb;replace BK286:=kb BK286 hb;replace HB:=bs (bz1 HB.out GE286.out) hb;(try clear hb);obtain ⟨Ao27,co27,eo27⟩:=Kd.R_slice HO_5.out;subst eo27)|((with_reducible refine gate_callee (f:=45) rfl ?_);refine goesL_ (some 28) rfl rfl Tryz.func45 kr rfl #[.slice Ao27 t279.length co27,.string t287] rfl lz ?_;(with_reducible refine (impl_hasText.calls k2 _ _ t279 t287 false _ ?side1 ?side2 A20.out).mono ?_);(case side1=>exact cz (Kd.R_reads' HO_5.out).2.2);(case side2=>exact (Kd.R_reads' HO_5.out).2.1);rintro e w' ⟨rfl,⟨nd,rfl⟩⟩;refine ⟨_,rfl,?_⟩))
        (try (rw [drewN_self w26];generalize hq_:World.drewN w26 _=w26;have n0_:Aside0 (Kd.R k30 30 w26 w.heap.size (fun k_=>some k_≠(v277:Value).ownBlock /\ k_≠gb286) (.slice (some ad285) t282.length co13) t282):=⟨by rw [<- hq_];exact (rz HO_19.out)⟩;have n1_:Aside0 (Kd.R k45 45 w26 w.heap.size (fun _=>True) v274 x3_1):=⟨by rw [<- hq_];exact (rz HO_3.out)⟩;have n2_:Aside0 (Kd.R k30 30 w26 w.heap.size (fun k_=>some k_≠(.slice (some ad285) t282.length co13:Value).ownBlock /\ k_≠gb286) v277 t276):=⟨by rw [<- hq_];exact (rz HO_4.out)⟩;have n3_:Aside0 (Kd.R Kd.string 9 w26 w.heap.size (fun _=>True) (.slice Ao27 t279.length co27) t279):=⟨by rw [<- hq_];exact (rz HO_5.out)⟩;have n4_:Aside0 (w26.heap[gb286]?=some (.cells #[.int .i64 ((rd_T30 t282 x21_1).f0),.int .i64 ((rd_T30 t282 x21_1).f1)] 30 (0,0))):=⟨by rw [<- hq_];exact (kz BK286.out)⟩;have n5_:Aside0 (Below w.heap.size w w26):=⟨by rw [<- hq_];exact (bz1 HB.out GE286.out)⟩;clear HO_19 HO_3 HO_4 HO_5 BK286 HB hq_;have HO_19:=n0_;have HO_3:=n1_;have HO_4:=n2_;have HO_5:=n3_;have BK286:=n4_;have HB:=n5_;clear n0_ n1_ n2_ n3_ n4_ n5_))
        have n0_:=am (Kd.R_drew HO_3.out)
        have n1_:=am (Kd.R_drew HO_4.out)
        have n2_:=am (Kd.R_drew HO_5.out)
        have n3_:=am (Kd.R_drew HO_19.out)
        have n4_:=am (blk_drew BK286.out)
        have n5_:=am (below_drew1 HB.out)
        clear HO_3
        clear HO_4
        clear HO_5
        clear HO_19
        clear BK286
        clear HB
        have HO_3:=n0_
        have HO_4:=n1_
        have HO_5:=n2_
        have HO_19:=n3_
        have BK286:=n4_
        have HB:=n5_
        clear n0_ n1_ n2_ n3_ n4_ n5_
        refine start_ (n:=6) (S:=fun w'=>w'.cell? ⟨gb286,0,none⟩=some (.int .i64 ((rd_T30 t282 x21_1).f0)) /\ w'.cell? ⟨gb286,1,none⟩=some (.int .i64 ((rd_T30 t282 x21_1).f1))) (ds:=[]) (mk_ 0 6) kr rfl rfl ⟨(blk_cell BK286.out 0).trans rfl,(blk_cell BK286.out 1).trans rfl⟩ (fun hHeld=>?_)
        generalize w26.drew=w28 at HO_3 HO_4 HO_5 HO_19 BK286 HB hHeld ⊢
        refine pure_ (i:=0) (N:=some 31) (v:=?_) (a':=?_) (mk_ 1 5) rfl rfl kr (fun _ _ _ h=>h) (Or.inl ⟨by rfl,?_⟩) ?_ ?_
        rotate_left
        ·intro w'
         go_simp
         with_reducible rfl
        rotate_left
        ·simp only [Act.put,sz1,sz2,sz3,i64_w,i32_w]
         rfl
        refine pure_ (i:=1) (N:=some 32) (v:=?_) (a':=?_) (mk_ 2 4) rfl rfl kr (fun _ _ _ h=>h) (Or.inl ⟨by rfl,?_⟩) ?_ ?_
        rotate_left
        ·intro w'
         go_simp
         with_reducible rfl
        rotate_left
        ·simp only [Act.put,sz1,sz2,sz3,i64_w,i32_w]
         rfl
        refine pure_ (i:=3) (N:=some 34) (v:=?_) (a':=?_) (bm_ 6 11) rfl rfl kr (fun _ _ _ h=>h) (Or.inl ⟨by rfl,?_⟩) ?_ ?_
        rotate_left
        ·intro w'
         go_simp
         with_reducible rfl
        rotate_left
        ·simp only [Act.put,sz1,sz2,sz3,i64_w,i32_w]
         rfl
        refine take_ (i:=2) (N:=some 33) (v:=?_) (a':=?_) (mk_ 4 2) rfl rfl kr (fun _ _ _ h=>h) (Or.inl ⟨by rfl,?_⟩) hHeld ?_ ?_
        rotate_left
        ·rintro w' ⟨s0,s1⟩
         go_simp
         with_reducible rfl
        rotate_left
        ·simp only [Act.put,sz1,sz2,sz3,i64_w,i32_w]
         rfl
        refine one_ (i:=4) (N:=some 35) (mk_ 5 1) rfl rfl kr (by decide) (fun K hK=>?_)
        refine goes_ Tryz.func23 kr rfl #[.int .i64 x6_2] (by rfl) rfl rfl lz ?_
        with_reducible refine (impl_FreshName.calls k2 x6_2 t289 _ A24.out).mono ?_
        rintro e w29 ⟨rfl,hb⟩
        refine ⟨_,rfl,?_⟩
        have n0_:=qz HO_3 hb
        have n1_:=qz HO_4 hb
        have n2_:=qz HO_5 hb
        have n3_:=qz HO_19 hb
        have n4_:=am (blk_below (kz BK286.out) hb)
        have n5_:=am (below_step (bz1 HB.out GE286.out) hb)
        clear HO_3
        clear HO_4
        clear HO_5
        clear HO_19
        clear BK286
        clear HB
        have HO_3:=n0_
        have HO_4:=n1_
        have HO_5:=n2_
        have HO_19:=n3_
        have BK286:=n4_
        have HB:=n5_
        clear n0_ n1_ n2_ n3_ n4_ n5_
        (try clear hb)
        (try clear hb2)
        (try clear hk)
        (try clear hi)
        obtain ⟨Ao30,co30,eo30⟩:=Kd.R_slice HO_3.out
        (first|subst eo30|(injection eo30 with f1_ f2_ f3_;have f4_:=f1_.symm;have f5_:=f3_.symm;clear f1_ f2_ f3_;subst f4_;subst f5_))
        obtain ⟨Ao31,co31,eo31⟩:=Kd.R_slice HO_4.out
        (first|subst eo31|(injection eo31 with f1_ f2_ f3_;have f4_:=f1_.symm;have f5_:=f3_.symm;clear f1_ f2_ f3_;subst f4_;subst f5_))
        refine hK.out _ _ ⟨(blk_cell BK286.out 0).trans rfl,(blk_cell BK286.out 1).trans rfl⟩ (fun hHeld=>?_)
        clear hK K
        refine norm_ (a':=?_) ?_ ?_
        rotate_left
        ·show Act.put _ (some 35) _=_
         simp only [Act.put,sz1,sz2,sz3,i64_w,i32_w]
         rfl
        refine one_ (i:=5) (N:=some 36) (mk_ 6 0) rfl rfl kr (by decide) (fun K hK=>?_)
        refine goes_ Tryz.func33 kr rfl #[.slice Ao30 x3_1.length co30,.slice Ao31 t276.length co31,.agg #[.int .i64 ((rd_T30 t282 x21_1).f0),.int .i64 ((rd_T30 t282 x21_1).f1)],.string t289] (by rfl) rfl rfl lz ?_
        with_reducible refine (impl_rename.calls k2 (fun k_=>some k_=(.slice Ao30 x3_1.length co30:Value).ownBlock) (.slice Ao30 x3_1.length co30) x3_1 _ _ t276 ((rd_T30 t282 x21_1).f0) ((rd_T30 t282 x21_1).f1) t289 t290 w _ ?side1 ?side2 ?side3 ?side4 A25.out).mono ?_
        (case side1=>repeat (first|(with_reducible first|exact HB.out|apply below_alloc|apply pw_below_drewN|apply below_drew1|refine below_set ?_ GE286.out)|exact HB.out))
        (case side2=>exact Kd.R_tight rfl HO_3.out)
        (case side3=>exact Kd.C_kept_own ((Kd.R_apart' HO_4.out (Kd.R_typed HO_3.out) (by decide))) (fun k_ hk_ hs_=>by with_reducible first|exact absurd hs_ hk_.2|exact absurd hs_ hk_|exact absurd hs_ hk_.1|exact absurd hs_ hk_.2|exact absurd hs_ hk_.1.1|exact absurd hs_ hk_.1.2))
        (case side4=>exact (Kd.R_reads' HO_4.out).2.1)
        rintro e w32 ⟨rfl,hy0,hb,hkp⟩
        refine ⟨_,rfl,?_⟩
        have n0_:=am (Kd.R_reok rfl hy0 (fun k_ e_=>HO_3.out.1 k_ e_))
        have n1_:=am (Kd.R_mono (ok':=fun k_=>some k_≠(.slice (some ad285) t282.length co13:Value).ownBlock /\ k_≠gb286) (Kd.R_keptB ((Kd.R_apart' HO_4.out (Kd.R_typed HO_3.out) (by decide))) hkp (fun k_ hk_ hs_=>by with_reducible first|exact absurd hs_ hk_.2|exact absurd hs_ hk_|exact absurd hs_ hk_.1|exact absurd hs_ hk_.2|exact absurd hs_ hk_.1.1|exact absurd hs_ hk_.1.2)) (fun k_ hk_=>by first|exact ⟨hk_.1.1.1,hk_.1.1.2⟩|(with_reducible (refine ⟨?_,?_⟩ <;> first|exact hk_.1|exact hk_.1.1|exact hk_.1.2|exact hk_.1.1.1|exact hk_.1.1.2|exact hk_.2.1|exact hk_.1.2.1|exact hk_.1.2.2))))
        have n2_:=am (Kd.R_mono (ok':=fun k_=>True) (Kd.R_keptB ((Kd.R_apart' HO_5.out (Kd.R_typed HO_3.out) (by decide))) hkp (fun k_ hk_ hs_=>by with_reducible first|exact absurd hs_ hk_.2|exact absurd hs_ hk_|exact absurd hs_ hk_.1|exact absurd hs_ hk_.2|exact absurd hs_ hk_.1.1|exact absurd hs_ hk_.1.2)) (fun k_ hk_=>trivial))
        have n3_:=am (Kd.R_mono (ok':=fun k_=>some k_≠(.slice Ao31 t276.length co31:Value).ownBlock /\ k_≠gb286) (Kd.R_keptB ((Kd.R_apart' HO_19.out (Kd.R_typed HO_3.out) (by decide))) hkp (fun k_ hk_ hs_=>by with_reducible first|exact absurd hs_ hk_.2|exact absurd hs_ hk_|exact absurd hs_ hk_.1|exact absurd hs_ hk_.2|exact absurd hs_ hk_.1.1|exact absurd hs_ hk_.1.2)) (fun k_ hk_=>by first|exact ⟨hk_.1.1.1,hk_.1.1.2⟩|(with_reducible (refine ⟨?_,?_⟩ <;> first|exact hk_.1|exact hk_.1.1|exact hk_.1.2|exact hk_.1.1.1|exact hk_.1.1.2|exact hk_.2.1|exact hk_.1.2.1|exact hk_.1.2.2))))
        have n4_:=am (blk_kept (kz BK286.out) hkp (fun hs_=>(fun e_=>(Kd.R_ne HO_3.out BK286.out (by decide)) e_) hs_))
        have n5_:=am (hb)
        clear HO_3
        clear HO_4
        clear HO_5
        clear HO_19
        clear BK286
        clear HB
        have HO_3:=n0_
        have HO_4:=n1_
        have HO_5:=n2_
        have HO_19:=n3_
        have BK286:=n4_
        have HB:=n5_
        clear n0_ n1_ n2_ n3_ n4_ n5_
        (try clear hb)
        (try clear hkp)
        (try clear hy0)
        refine hK.out _ _ ⟨(blk_cell BK286.out 0).trans rfl,(blk_cell BK286.out 1).trans rfl⟩ (fun hHeld=>?_)
        clear hK K
        refine norm_ (a':=?_) ?_ ?_
        rotate_left
        ·show Act.put _ (some 36) _=_
         simp only [Act.put,sz1,sz2,sz3,i64_w,i32_w]
         rfl
        refine done_ kr ?_
        try go_wp2
        go_roundg k2
        case measure=>have:=HK1.out;have:=HK2.out;omega
        case rel=>exact ⟨(t290),(wrap64 (x6_2+1)),(wrap64 (x21_1+1)),ez,ez,H',⟨by have:=HK1.out;have:=HK2.out;omega⟩,⟨by refine rq ?_;exact HO_3.out⟩,⟨by refine rq ?_;exact Kd.R_mono HO_4.out (fun _ hk=>hk.1)⟩,⟨by refine rq ?_;exact HO_5.out⟩,⟨by refine rq ?_;exact Kd.R_mono HO_19.out (fun _ hk=>hk.1)⟩,⟨(bz1 HB.out GE286.out)⟩⟩
    ·rw [if_neg c14] at H
     have c14b0:=decide_eq_false c14
     clear c14
     obtain rfl:=Option.some.inj H
     go_wp2
     go_ret
     exact ⟨_,gz,by refine rq ?_;exact HO_3.out,(bz0 HB.out)⟩
 ·replace c3:=Bool.eq_false_iff.mpr c3
  subst c3
  have H1:=hq H
  clear H
  have H:=H1
  clear H1
  obtain rfl:=Option.some.inj H
  go_enter Tryz.func18,Tryz.ntmps18
  go_wp2_with (first|((with_reducible refine gate_callee (f:=44) rfl ?_);refine goesL_ (some 10) rfl rfl Tryz.func44 kr rfl #[.slice A0 l0.length c0] rfl lz ?_;(with_reducible refine (impl_NodesOk.calls k _ _ l0 false _ ?side1 ?side2 A2.out).mono ?_);(case side1=>repeat (first|exact HR0.out|(with_reducible refine Kd.C_alloc ?_ _)|(with_reducible refine Kd.C_drewN ?_ _)|(with_reducible refine Kd.C_drew ?_)));(case side2=>exact HC0.out);rintro e w33 ⟨rfl,hb⟩;refine ⟨_,rfl,?_⟩;replace HB:=bs (bz0 HB.out) hb;(try clear hb);(try clear hi)))
  go_ret
  exact ⟨_,gz,by first|exact Kd.R_nil _ _ _ _ _|exact Kd.N_nil _ _ _ _ _|exact Kd.V_nil _ _ _ _ _|exact Kd.Q_nil _ _ _ _ _|exact Kd.S_nil _ _ _ _ _,(bz0 HB.out)⟩
end Go.Proofs.YthmpgocaoccnaaaGreatDoor.PFnFresh
