/- PFnFreshx7, of the words and walks that the law FnFresh needs; made by this session's program out of printed texts. -/
import Derived.Test.YthmpgocaoccnaaaGreatDoorVFnFreshPx0
import Derived.Test.YthmpgocaoccnaaaGreatDoorVFnFreshPx3
import Derived.Test.YthmpgocaoccnaaaGreatDoorVFnFreshPx6
namespace Go.Proofs.YthmpgocaoccnaaaGreatDoor.PFnFresh
open Go.RowKit Go.Proofs.YthmpgocaoccnaaaGreatDoorW.PrintWords Go.Proofs.YthmpgocaoccnaaaGreatDoorW.PrintLast Go.Proofs.YthmpgocaoccnaaaGreatDoorW.PrintMore
attribute [local go_sem] max2_int min2_int max_two min_two max_three min_three max_four min_four
set_option linter.unusedVariables false
set_option linter.unusedSimpArgs false
attribute [local go_sem high] eqA30
mutual
def impl_Sites.l0:Nat -> List (S30) -> List (S45) -> Int -> Int -> Option ((List (S30)))
 | 0,_,_,_,_=>none
 | k+1,x3,x10,x11,x12=>if x12<x11 then (if 0 <= x12 then (if x12<(x10.length:Int) then (if ((rd_T45 x10 x12).f0)=1 then (impl_Sites.l0 k x3 x10 x11 (wrap64 (x12+1))) else ((impl_namesOf.f k ((rd_T45 x10 x12).f0)).bind fun t169=>(impl_Sites.l1 k x3 x12 x10 x11 x12 t169 0))) else (none)) else (none)) else (some x3)
def impl_Sites.l1:Nat -> List (S30) -> Int -> List (S45) -> Int -> Int -> Int -> Int -> Option ((List (S30)))
 | 0,_,_,_,_,_,_,_=>none
 | k+1,x3,x4,x10,x11,x12,x22,x23=>if x23<x22 then (if x3.length<8796093022208 then (impl_Sites.l1 k (x3++[(⟨x4,x23⟩:S30)]) x4 x10 x11 x12 x22 (wrap64 (x23+1))) else (none)) else (impl_Sites.l0 k x3 x10 x11 (wrap64 (x12+1)))
end
def impl_Sites.f (k:Nat) (l0:List (S45)):Option ((List (S30))):=(impl_NodesOk.f k l0).bind fun t166=>(if t166=true then (impl_Sites.l0 k ([]:List (S30)) l0 (l0.length:Int) 0) else (some ([]:List (S30))))
theorem impl_Sites.mono_l:∀ k,(∀ y0 y1 y2 y3,LeO (impl_Sites.l0 k y0 y1 y2 y3) (impl_Sites.l0 (k+1) y0 y1 y2 y3)) /\ (∀ y0 y1 y2 y3 y4 y5 y6,LeO (impl_Sites.l1 k y0 y1 y2 y3 y4 y5 y6) (impl_Sites.l1 (k+1) y0 y1 y2 y3 y4 y5 y6))
 | 0=>⟨fun _ _ _ _ r h=>by simp [impl_Sites.l0] at h,fun _ _ _ _ _ _ _ r h=>by simp [impl_Sites.l1] at h⟩
 | k+1=>by
  obtain ⟨ih0,ih1⟩:=impl_Sites.mono_l k
  refine ⟨?_,?_⟩
  ·intro y0 y1 y2 y3
   unfold impl_Sites.l0
   with_reducible repeat' first|exact ih0 _ _ _ _|exact ih1 _ _ _ _ _ _ _|exact impl_NodesOk.mono _ _|exact impl_namesOf.mono _ _|exact lrz _|exact lnz _|refine liz ?_ ?_|refine lbz ?_ fun _=>?_
  ·intro y0 y1 y2 y3 y4 y5 y6
   unfold impl_Sites.l1
   with_reducible repeat' first|exact ih0 _ _ _ _|exact ih1 _ _ _ _ _ _ _|exact impl_NodesOk.mono _ _|exact impl_namesOf.mono _ _|exact lrz _|exact lnz _|refine liz ?_ ?_|refine lbz ?_ fun _=>?_
theorem impl_Sites.mono:∀ a0 k,LeO (impl_Sites.f k a0) (impl_Sites.f (k+1) a0):=by
 intro a0 k
 obtain ⟨ih0,ih1⟩:=impl_Sites.mono_l k
 unfold impl_Sites.f
 with_reducible repeat' first|exact ih0 _ _ _ _|exact ih1 _ _ _ _ _ _ _|exact impl_NodesOk.mono _ _|exact impl_namesOf.mono _ _|exact lrz _|exact lnz _|refine liz ?_ ?_|refine lbz ?_ fun _=>?_
set_option maxHeartbeats 8000000 in
set_option maxRecDepth 100000 in
theorem impl_Sites.calls (k:Nat) (A0:Option Addr) (c0:Nat) (l0:List (S45)) (r:List (S30)) (w:World) (hr0:Kd.C k45 w A0 l0.length l0) (hc0:l0.length <= c0) (h:impl_Sites.f k l0=some r) :
  Calls Tryz.prog 30 #[.slice A0 l0.length c0] w fun e w'=>∃ v0_:Value,e=.returned (v0_) /\ Kd.R k30 30 w' w.heap.size (fun _=>True) v0_ r /\ Below w.heap.size w w':=by
 have hu45:=Tryz.underlying45
 have hu30:=Tryz.underlying30
 have HR0:=am hr0
 have HC0:=am hc0
 clear hr0 hc0
 have HB:=am (Below.refl w.heap.size w)
 have H:((impl_NodesOk.f k l0).bind fun t166=>(if t166=true then (impl_Sites.l0 k ([]:List (S30)) l0 (l0.length:Int) 0) else (some ([]:List (S30)))))=some r:=h
 clear h
 replace H:=bi H
 obtain ⟨t166,A20,H⟩:=H
 try dsimp only at H
 have A2:=am A20
 clear A20
 by_cases c3:t166=true
 ·subst c3
  have H1:=hp H
  clear H
  have H:=H1
  clear H1
  have H':=am H
  clear H
  go_enter Tryz.func30,Tryz.ntmps30
  go_wp2_with (first|((with_reducible refine gate_callee (f:=44) rfl ?_);refine goesL_ (some 8) rfl rfl Tryz.func44 kr rfl #[.slice A0 l0.length c0] rfl lz ?_;(with_reducible refine (impl_NodesOk.calls k _ _ l0 true _ ?side1 ?side2 A2.out).mono ?_);(case side1=>repeat (first|exact HR0.out|(with_reducible refine Kd.C_alloc ?_ _)|(with_reducible refine Kd.C_drewN ?_ _)|(with_reducible refine Kd.C_drew ?_)));(case side2=>exact HC0.out);rintro e w4 ⟨rfl,hb⟩;refine ⟨_,rfl,?_⟩;replace HB:=bs (bz0 HB.out) hb;(try clear hb);(try clear hi)))
  go_loopg [3,12] k (fun kq v3 v12 w'=>∃ (x3_1:List (S30)) (x12_1:Int),v12=.int .i64 x12_1 /\ Aside0 (impl_Sites.l0 kq x3_1 l0 (l0.length:Int) x12_1=some r) /\ Aside0 (kq <= k) /\ Aside0 (Kd.R k30 30 w' w.heap.size (fun _=>True) v3 x3_1) /\ Aside0 (Below w.heap.size w w'))
  case atStart=>exact ⟨(([]:List (S30))),(0),ez,H',⟨Nat.le_refl _⟩,⟨by first|exact Kd.R_nil _ _ _ _ _|exact Kd.N_nil _ _ _ _ _|exact Kd.V_nil _ _ _ _ _|exact Kd.Q_nil _ _ _ _ _|exact Kd.S_nil _ _ _ _ _⟩,⟨(bz0 HB.out)⟩⟩
  case round =>
   clear H'
   try clear p2
   try clear c3
   try clear c4
   obtain ⟨x3_1,x12_1,rfl,HA,HK1,HO_3,HB⟩:=hrel
   cases gk with
   | zero=>exact absurd HA.out (by simp [impl_Sites.l0])
   | succ k1 =>
    have H:=HA.out
    clear HA
    simp only [impl_Sites.l0] at H
    by_cases c5:x12_1<(l0.length:Int)
    ·rw [if_pos c5] at H
     have c5b0:=decide_eq_true c5
     clear c5
     replace H:=iz H
     obtain ⟨c6,H⟩:=H
     have c6b0:=decide_eq_true c6
     clear c6
     replace H:=iz H
     obtain ⟨c7,H⟩:=H
     have c7b0:=decide_eq_true c7
     clear c7
     by_cases c8:((rd_T45 l0 x12_1).f0)=1
     ·rw [if_pos c8] at H
      have c8b0:(((rd_T45 l0 x12_1).f0) == 1)=true:=beq_iff_eq.mpr c8
      have c8b1:(((rd_T45 l0 x12_1).f0) != 1)=false:=bne_eq_false_iff_eq.mpr c8
      clear c8
      have H':=am H
      clear H
      have p167:0 <= (x12_1:Int):=oz
      have q167:x12_1<(l0.length:Int):=oz
      obtain ⟨ad167,e167,hx167_0,hx167_1,hx167_2,hx167_3,hx167_4,hx167_5,hx167_6⟩:=at_T45 (Kd.C_below HR0.out HB.out) x12_1 p167 q167
      cases e167
      replace p167:=eq_true p167
      replace q167:=eq_true q167
      go_wp2_with (first|((with_reducible refine gate_dst (N:=5) rfl ?_);refine box_event ?hg (N:=5) ?hd (cs:=#[.int .i64 0,.int .i64 0,.int .i64 0,.int .i64 0,.int .i64 0,.string (⟨#[]⟩:ByteArray),.string (⟨#[]⟩:ByteArray)]) (t:=45) ?hr ?_;(case hd=>rfl);(case hg=>rfl);(case hr=>exact vz);intro gb168 hg w9 hbox hb;replace HO_3:=qz HO_3 hb;have BK168:=am (hbox);have GW168:=am ((by rw [hg];exact (below_size (bz0 HB.out)):w.heap.size <= gb168));have GE168:=GW168;replace HB:=bs (bz0 HB.out) hb;clear hb hbox hg;obtain ⟨hcz10_0,hcz10_1,hcz10_2,hcz10_3,hcz10_4,hcz10_5,hcz10_6⟩:=cz7 BK168.out;obtain ⟨hfz10_0,hfz10_1,hfz10_2,hfz10_3,hfz10_4,hfz10_5,hfz10_6⟩:=fz7 BK168.out))
      go_roundg k1
      case measure=>have:=HK1.out;omega
      case rel=>exact ⟨(x3_1),(wrap64 (x12_1+1)),ez,H',⟨by have:=HK1.out;omega⟩,⟨by refine rq ?_;first|(with_reducible exact Kd.R_mono (Kd.R_far (p:=⟨gb168,6,none⟩) (Kd.R_far (p:=⟨gb168,5,none⟩) (Kd.R_far (p:=⟨gb168,4,none⟩) (Kd.R_far (p:=⟨gb168,3,none⟩) (Kd.R_far (p:=⟨gb168,2,none⟩) (Kd.R_far (p:=⟨gb168,1,none⟩) (Kd.R_far (p:=⟨gb168,0,none⟩) (Kd.R_types HO_3.out BK168.out (by decide)) (fun _ hk=>hk.2) (.int .i64 ((rd_T45 l0 x12_1).f0))) (fun _ hk=>hk.2) (.int .i64 ((rd_T45 l0 x12_1).f1))) (fun _ hk=>hk.2) (.int .i64 ((rd_T45 l0 x12_1).f2))) (fun _ hk=>hk.2) (.int .i64 ((rd_T45 l0 x12_1).f3))) (fun _ hk=>hk.2) (.int .i64 ((rd_T45 l0 x12_1).f4))) (fun _ hk=>hk.2) (.string ((rd_T45 l0 x12_1).f5))) (fun _ hk=>hk.2) (.string ((rd_T45 l0 x12_1).f6))) (fun _ hk=>trivial))|exact Kd.R_mono (Kd.R_far (p:=⟨gb168,6,none⟩) (Kd.R_drewN (Kd.R_far (p:=⟨gb168,5,none⟩) (Kd.R_far (p:=⟨gb168,4,none⟩) (Kd.R_far (p:=⟨gb168,3,none⟩) (Kd.R_far (p:=⟨gb168,2,none⟩) (Kd.R_far (p:=⟨gb168,1,none⟩) (Kd.R_far (p:=⟨gb168,0,none⟩) (Kd.R_types HO_3.out BK168.out (by decide)) (fun _ hk=>hk.2) (.int .i64 ((rd_T45 l0 x12_1).f0))) (fun _ hk=>hk.2) (.int .i64 ((rd_T45 l0 x12_1).f1))) (fun _ hk=>hk.2) (.int .i64 ((rd_T45 l0 x12_1).f2))) (fun _ hk=>hk.2) (.int .i64 ((rd_T45 l0 x12_1).f3))) (fun _ hk=>hk.2) (.int .i64 ((rd_T45 l0 x12_1).f4))) (fun _ hk=>hk.2) (.string ((rd_T45 l0 x12_1).f5))) _) (fun _ hk=>hk.2) (.string ((rd_T45 l0 x12_1).f6))) (fun _ hk=>trivial)⟩,⟨(bz1 HB.out GE168.out)⟩⟩
     ·rw [if_neg c8] at H
      have c8b0:(((rd_T45 l0 x12_1).f0) == 1)=false:=beq_eq_false_iff_ne.mpr c8
      have c8b1:(((rd_T45 l0 x12_1).f0) != 1)=true:=bne_iff_ne.mpr c8
      replace H:=bi H
      obtain ⟨t169,A110,H⟩:=H
      try dsimp only at H
      have A11:=am A110
      clear A110
      have H':=am H
      clear H
      have p167:0 <= (x12_1:Int):=oz
      have q167:x12_1<(l0.length:Int):=oz
      obtain ⟨ad167,e167,hx167_0,hx167_1,hx167_2,hx167_3,hx167_4,hx167_5,hx167_6⟩:=at_T45 (Kd.C_below HR0.out HB.out) x12_1 p167 q167
      cases e167
      replace p167:=eq_true p167
      replace q167:=eq_true q167
      go_wp2_with (first|((with_reducible refine gate_dst (N:=5) rfl ?_);refine box_event ?hg (N:=5) ?hd (cs:=#[.int .i64 0,.int .i64 0,.int .i64 0,.int .i64 0,.int .i64 0,.string (⟨#[]⟩:ByteArray),.string (⟨#[]⟩:ByteArray)]) (t:=45) ?hr ?_;(case hd=>rfl);(case hg=>rfl);(case hr=>exact vz);intro gb168 hg w12 hbox hb;replace HO_3:=qz HO_3 hb;have BK168:=am (hbox);have GW168:=am ((by rw [hg];exact (below_size (bz0 HB.out)):w.heap.size <= gb168));have GE168:=GW168;replace HB:=bs (bz0 HB.out) hb;clear hb hbox hg;obtain ⟨hcz13_0,hcz13_1,hcz13_2,hcz13_3,hcz13_4,hcz13_5,hcz13_6⟩:=cz7 BK168.out;obtain ⟨hfz13_0,hfz13_1,hfz13_2,hfz13_3,hfz13_4,hfz13_5,hfz13_6⟩:=fz7 BK168.out)|((with_reducible refine gate_callee (f:=52) rfl ?_);refine goesL_ (some 22) rfl rfl Tryz.func52 kr rfl #[.int .i64 ((rd_T45 l0 x12_1).f0)] rfl lz ?_;(with_reducible refine (impl_namesOf.calls k1 ((rd_T45 l0 x12_1).f0) t169 _ A11.out).mono ?_);rintro e w' ⟨rfl,⟨nd,rfl⟩⟩;refine ⟨_,rfl,?_⟩))
      (try simp only [Act.put,sz1,sz2,sz3])
      go_loopg [3,23] k1 (fun kq v3 v23 w'=>∃ (x3_2:List (S30)) (x23_2:Int),v23=.int .i64 x23_2 /\ Aside0 (impl_Sites.l1 kq x3_2 x12_1 l0 (l0.length:Int) x12_1 t169 x23_2=some r) /\ Aside0 (kq <= k1) /\ Aside0 (Kd.R k30 30 w' w.heap.size (fun _=>True) v3 x3_2) /\ Aside0 (w'.heap[gb168]?=some (.cells #[.int .i64 ((rd_T45 l0 x12_1).f0),.int .i64 ((rd_T45 l0 x12_1).f1),.int .i64 ((rd_T45 l0 x12_1).f2),.int .i64 ((rd_T45 l0 x12_1).f3),.int .i64 ((rd_T45 l0 x12_1).f4),.string ((rd_T45 l0 x12_1).f5),.string ((rd_T45 l0 x12_1).f6)] 45 (0,0))) /\ Aside0 (Below w.heap.size w w'))
      case atStart=>exact ⟨(x3_1),(0),ez,H',⟨Nat.le_refl _⟩,⟨by refine rq ?_;first|(with_reducible exact Kd.R_mono (Kd.R_far (p:=⟨gb168,6,none⟩) (Kd.R_far (p:=⟨gb168,5,none⟩) (Kd.R_far (p:=⟨gb168,4,none⟩) (Kd.R_far (p:=⟨gb168,3,none⟩) (Kd.R_far (p:=⟨gb168,2,none⟩) (Kd.R_far (p:=⟨gb168,1,none⟩) (Kd.R_far (p:=⟨gb168,0,none⟩) (Kd.R_types HO_3.out BK168.out (by decide)) (fun _ hk=>hk.2) (.int .i64 ((rd_T45 l0 x12_1).f0))) (fun _ hk=>hk.2) (.int .i64 ((rd_T45 l0 x12_1).f1))) (fun _ hk=>hk.2) (.int .i64 ((rd_T45 l0 x12_1).f2))) (fun _ hk=>hk.2) (.int .i64 ((rd_T45 l0 x12_1).f3))) (fun _ hk=>hk.2) (.int .i64 ((rd_T45 l0 x12_1).f4))) (fun _ hk=>hk.2) (.string ((rd_T45 l0 x12_1).f5))) (fun _ hk=>hk.2) (.string ((rd_T45 l0 x12_1).f6))) (fun _ hk=>trivial))|exact Kd.R_mono (Kd.R_far (p:=⟨gb168,6,none⟩) (Kd.R_drewN (Kd.R_far (p:=⟨gb168,5,none⟩) (Kd.R_far (p:=⟨gb168,4,none⟩) (Kd.R_far (p:=⟨gb168,3,none⟩) (Kd.R_far (p:=⟨gb168,2,none⟩) (Kd.R_far (p:=⟨gb168,1,none⟩) (Kd.R_far (p:=⟨gb168,0,none⟩) (Kd.R_types HO_3.out BK168.out (by decide)) (fun _ hk=>hk.2) (.int .i64 ((rd_T45 l0 x12_1).f0))) (fun _ hk=>hk.2) (.int .i64 ((rd_T45 l0 x12_1).f1))) (fun _ hk=>hk.2) (.int .i64 ((rd_T45 l0 x12_1).f2))) (fun _ hk=>hk.2) (.int .i64 ((rd_T45 l0 x12_1).f3))) (fun _ hk=>hk.2) (.int .i64 ((rd_T45 l0 x12_1).f4))) (fun _ hk=>hk.2) (.string ((rd_T45 l0 x12_1).f5))) _) (fun _ hk=>hk.2) (.string ((rd_T45 l0 x12_1).f6))) (fun _ hk=>trivial)⟩,⟨by refine kq ?_;refine blk_put (cs:=#[.int .i64 ((rd_T45 l0 x12_1).f0),.int .i64 ((rd_T45 l0 x12_1).f1),.int .i64 ((rd_T45 l0 x12_1).f2),.int .i64 ((rd_T45 l0 x12_1).f3),.int .i64 ((rd_T45 l0 x12_1).f4),.string ((rd_T45 l0 x12_1).f5),.string (⟨#[]⟩:ByteArray)]) ?_ 6 _ rfl;refine kq ?_;refine blk_put (cs:=#[.int .i64 ((rd_T45 l0 x12_1).f0),.int .i64 ((rd_T45 l0 x12_1).f1),.int .i64 ((rd_T45 l0 x12_1).f2),.int .i64 ((rd_T45 l0 x12_1).f3),.int .i64 ((rd_T45 l0 x12_1).f4),.string (⟨#[]⟩:ByteArray),.string (⟨#[]⟩:ByteArray)]) ?_ 5 _ rfl;refine kq ?_;refine blk_put (cs:=#[.int .i64 ((rd_T45 l0 x12_1).f0),.int .i64 ((rd_T45 l0 x12_1).f1),.int .i64 ((rd_T45 l0 x12_1).f2),.int .i64 ((rd_T45 l0 x12_1).f3),.int .i64 0,.string (⟨#[]⟩:ByteArray),.string (⟨#[]⟩:ByteArray)]) ?_ 4 _ rfl;refine kq ?_;refine blk_put (cs:=#[.int .i64 ((rd_T45 l0 x12_1).f0),.int .i64 ((rd_T45 l0 x12_1).f1),.int .i64 ((rd_T45 l0 x12_1).f2),.int .i64 0,.int .i64 0,.string (⟨#[]⟩:ByteArray),.string (⟨#[]⟩:ByteArray)]) ?_ 3 _ rfl;refine kq ?_;refine blk_put (cs:=#[.int .i64 ((rd_T45 l0 x12_1).f0),.int .i64 ((rd_T45 l0 x12_1).f1),.int .i64 0,.int .i64 0,.int .i64 0,.string (⟨#[]⟩:ByteArray),.string (⟨#[]⟩:ByteArray)]) ?_ 2 _ rfl;refine kq ?_;refine blk_put (cs:=#[.int .i64 ((rd_T45 l0 x12_1).f0),.int .i64 0,.int .i64 0,.int .i64 0,.int .i64 0,.string (⟨#[]⟩:ByteArray),.string (⟨#[]⟩:ByteArray)]) ?_ 1 _ rfl;refine kq ?_;refine blk_put (cs:=#[.int .i64 0,.int .i64 0,.int .i64 0,.int .i64 0,.int .i64 0,.string (⟨#[]⟩:ByteArray),.string (⟨#[]⟩:ByteArray)]) ?_ 0 _ rfl;refine kq ?_;exact BK168.out⟩,⟨(bz1 HB.out GE168.out)⟩⟩
      case round =>
       clear H'
       try clear p1
       try clear q1
       try clear hx1
       try clear p2
       try clear c3
       try clear c4
       try clear c5
       try clear c5b0
       try clear c6
       try clear c6b0
       try clear p6
       try clear c7
       try clear c7b0
       try clear c8
       try clear c8b0
       try clear c8b1
       try clear hcz10_0 hcz10_1 hcz10_2 hcz10_3 hcz10_4 hcz10_5 hcz10_6
       try clear hcz13_0 hcz13_1 hcz13_2 hcz13_3 hcz13_4 hcz13_5 hcz13_6
       try clear hfz10_0 hfz10_1 hfz10_2 hfz10_3 hfz10_4 hfz10_5 hfz10_6
       try clear hfz13_0 hfz13_1 hfz13_2 hfz13_3 hfz13_4 hfz13_5 hfz13_6
       try clear hx167_0
       try clear hx167_1
       try clear hx167_2
       try clear hx167_3
       try clear hx167_4
       try clear hx167_5
       try clear hx167_6
       try clear p167
       try clear p2
       try clear q167
       obtain ⟨x3_2,x23_2,rfl,HA,HK2,HO_3,BK168,HB⟩:=hrel
       cases gk with
       | zero=>exact absurd HA.out (by simp [impl_Sites.l1])
       | succ k2 =>
        have H:=HA.out
        clear HA
        simp only [impl_Sites.l1] at H
        by_cases c14:x23_2<t169
        ·rw [if_pos c14] at H
         have c14b0:=decide_eq_true c14
         clear c14
         replace H:=iz H
         obtain ⟨c15,H⟩:=H
         have LMc15:=am c15
         clear c15
         obtain ⟨y170,hy170⟩:∃ y_:List (S30),y_=(x3_2++[(⟨x12_1,x23_2⟩:S30)]):=⟨_,rfl⟩
         replace H:(impl_Sites.l1 k2 y170 x12_1 l0 (l0.length:Int) x12_1 t169 (wrap64 (x23_2+1)))=some r:=yz hy170 H
         have Ny170:=am hy170
         clear hy170
         have H':=am H
         clear H
         go_wp2_with (first|((with_reducible refine gate_builtin (b:=.append) (xs:=#[.tmp 26,.tmp 30]) rfl ?_);at_builtin;refine Kd.R_append k30 (w0:=w) w.heap.size rfl (.tmp 26) (.tmp 30) 39 30 (.agg #[(.int .i64 0),(.int .i64 0)]) 16 rfl Tryz.underlying39 info30 rfl (by decide) (by omega) u3 x3_2 (⟨x12_1,x23_2⟩:S30) [.int .i64 x12_1,.int .i64 x23_2] (fun _=>True) (fun _=>False) rfl rfl ?aP (fun _ hk=>hk.elim) ?aF ?aO ?aB ?aS ?aL ?_;(case aP=>exact k30_mkM _ _ _ (⟨x12_1,x23_2⟩:S30));(case aB=>exact (bz1 HB.out GE168.out));(case aF=>exact (fun _ _=>trivial));(case aO=>exact (rz HO_3.out));(case aS=>exact (below_size (bz1 HB.out GE168.out)));(case aL=>have:=LMc15.out;omega);intro v171 w16 ho hb hg hat;rw [<- Ny170.out] at ho;have n0_:=am (blk_grown (g:=gb168) (o:=.cells #[.int .i64 ((rd_T45 l0 x12_1).f0),.int .i64 ((rd_T45 l0 x12_1).f1),.int .i64 ((rd_T45 l0 x12_1).f2),.int .i64 ((rd_T45 l0 x12_1).f3),.int .i64 ((rd_T45 l0 x12_1).f4),.string ((rd_T45 l0 x12_1).f5),.string ((rd_T45 l0 x12_1).f6)] 45 (0,0)) (kz BK168.out) hg (Kd.R_ne HO_3.out BK168.out (by decide)));have n1_:=am (hb);have n2_:=am (ho);clear BK168;clear HB;clear HO_3;have BK168:=n0_;have HB:=n1_;have HO172:=n2_;clear n0_ n1_ n2_;clear ho hb hg hat))
         go_roundg k2
         case measure=>have:=HK1.out;have:=HK2.out;omega
         case rel=>exact ⟨(y170),(wrap64 (x23_2+1)),ez,H',⟨by have:=HK1.out;have:=HK2.out;omega⟩,⟨by refine rq ?_;exact HO172.out⟩,⟨by refine kq ?_;exact BK168.out⟩,⟨(bz1 HB.out GE168.out)⟩⟩
        ·rw [if_neg c14] at H
         have c14b0:=decide_eq_false c14
         clear c14
         have H':=am H
         clear H
         go_wp2
         go_roundg k2
         case measure=>have:=HK1.out;have:=HK2.out;omega
         case rel=>exact ⟨(x3_2),(wrap64 (x12_1+1)),ez,H',⟨by have:=HK1.out;have:=HK2.out;omega⟩,⟨by refine rq ?_;exact HO_3.out⟩,⟨(bz1 HB.out GE168.out)⟩⟩
    ·rw [if_neg c5] at H
     have c5b0:=decide_eq_false c5
     clear c5
     obtain rfl:=Option.some.inj H
     go_wp2
     go_ret
     exact ⟨_,gz,by refine rq ?_;exact HO_3.out,(bz0 HB.out)⟩
 ·replace c3:=Bool.eq_false_iff.mpr c3
  subst c3
  have H1:=hq H
  clear H
  have H:=H1
  clear H1
  obtain rfl:=Option.some.inj H
  go_enter Tryz.func30,Tryz.ntmps30
  go_wp2_with (first|((with_reducible refine gate_callee (f:=44) rfl ?_);refine goesL_ (some 8) rfl rfl Tryz.func44 kr rfl #[.slice A0 l0.length c0] rfl lz ?_;(with_reducible refine (impl_NodesOk.calls k _ _ l0 false _ ?side1 ?side2 A2.out).mono ?_);(case side1=>repeat (first|exact HR0.out|(with_reducible refine Kd.C_alloc ?_ _)|(with_reducible refine Kd.C_drewN ?_ _)|(with_reducible refine Kd.C_drew ?_)));(case side2=>exact HC0.out);rintro e w17 ⟨rfl,hb⟩;refine ⟨_,rfl,?_⟩;replace HB:=bs (bz0 HB.out) hb;(try clear hb);(try clear hi)))
  go_ret
  exact ⟨_,gz,by first|exact Kd.R_nil _ _ _ _ _|exact Kd.N_nil _ _ _ _ _|exact Kd.V_nil _ _ _ _ _|exact Kd.Q_nil _ _ _ _ _|exact Kd.S_nil _ _ _ _ _,(bz0 HB.out)⟩
def impl_copyNodes.f (l0:List (S45)):Option ((List (S45))):=if ([]:List (S45)).length+l0.length<1954687338268 then (some (([]:List (S45))++l0)) else (none)
set_option maxHeartbeats 8000000 in
set_option maxRecDepth 100000 in
theorem impl_copyNodes.calls (A0:Option Addr) (c0:Nat) (l0:List (S45)) (r:List (S45)) (w:World) (hr0:Kd.C k45 w A0 l0.length l0) (hc0:l0.length <= c0) (h:impl_copyNodes.f l0=some r) :
  Calls Tryz.prog 32 #[.slice A0 l0.length c0] w fun e w'=>∃ v0_:Value,e=.returned (v0_) /\ Kd.R k45 45 w' w.heap.size (fun _=>True) v0_ r /\ Below w.heap.size w w':=by
 have HR0:=am hr0
 have HC0:=am hc0
 clear hr0 hc0
 have HB:=am (Below.refl w.heap.size w)
 have H:(if ([]:List (S45)).length+l0.length<1954687338268 then (some (([]:List (S45))++l0)) else (none))=some r:=h
 clear h
 replace H:=iz H
 obtain ⟨c2,H⟩:=H
 have LMc2:=am c2
 clear c2
 obtain ⟨y173,hy173⟩:∃ y_:List (S45),y_=(([]:List (S45))++l0):=⟨_,rfl⟩
 replace H:(some y173)=some r:=yz hy173 H
 have Ny173:=am hy173
 clear hy173
 obtain rfl:=Option.some.inj H
 go_enter Tryz.func32,Tryz.ntmps32
 go_wp2_with (first|((with_reducible refine gate_builtin (b:=.append) (xs:=#[.const (.slice none 0 0),.tmp 3]) rfl ?_);at_builtin;refine Kd.R_append_rows k45 (w0:=w) w.heap.size rfl (.const (.slice none 0 0)) (.tmp 3) 26 45 (.agg #[(.int .i64 0),(.int .i64 0),(.int .i64 0),(.int .i64 0),(.int .i64 0),(.string ⟨#[]⟩),(.string ⟨#[]⟩)]) 72 rfl Tryz.underlying26 info45 rfl (by decide) (by omega) (.slice none 0 0) ([]:List (S45)) l0 _ _ _ (fun _=>True) (fun _=>False) rfl rfl ?aO ?aR (fun _ _ h=>h) (fun _ h=>h.elim) ?aF ?aB ?aS ?aL ?_;(case aR=>repeat (first|exact HR0.out|(with_reducible refine Kd.C_alloc ?_ _)|(with_reducible refine Kd.C_drewN ?_ _)|(with_reducible refine Kd.C_drew ?_)));(case aB=>exact (bz0 HB.out));(case aF=>exact (fun _ _=>trivial));(case aO=>exact ((Kd.R_nil _ _ _ _ (fun _=>True))));(case aS=>exact (below_size (bz0 HB.out)));(case aL=>have:=LMc2.out;omega);intro v174 w3 ho hb hg hat;rw [<- Ny173.out] at ho;replace HB:=am (hb);have HO175:=am (ho);clear ho hb hg hat))
 go_ret
 exact ⟨_,gz,by refine rq ?_;exact HO175.out,(bz0 HB.out)⟩
mutual
def impl_rename.j0:Nat -> List (S45) -> List (S30) -> ByteArray -> Int -> Int -> Option ((List (S45)))
 | 0,_,_,_,_,_=>none
 | k+1,x0,x1,x3,x177000,x177001=>impl_rename.l0 k x0 x3 x1 (x1.length:Int) 0 x177000 x177001
def impl_rename.l0:Nat -> List (S45) -> ByteArray -> List (S30) -> Int -> Int -> Int -> Int -> Option ((List (S45)))
 | 0,_,_,_,_,_,_,_=>none
 | k+1,x0,x3,x25,x26,x27,x177000,x177001=>if x27<x26 then (if 0 <= x27 then (if x27<(x25.length:Int) then (if (((rd_T30 x25 x27).f0) == x177000 && (((rd_T30 x25 x27).f1) == x177001))=true then (if x27<(x0.length:Int) then (impl_rename.l0 k (x0.set (x27:Int).toNat (⟨(rd_T45 x0 x27).f0,(rd_T45 x0 x27).f1,(rd_T45 x0 x27).f2,(rd_T45 x0 x27).f3,(rd_T45 x0 x27).f4,x3,(rd_T45 x0 x27).f6⟩:S45)) x3 x25 x26 (wrap64 (x27+1)) x177000 x177001) else (none)) else (impl_rename.l0 k x0 x3 x25 x26 (wrap64 (x27+1)) x177000 x177001)) else (none)) else (none)) else (some x0)
end
def impl_rename.f (k:Nat) (l0:List (S45)) (l1:List (S30)) (a2_0:Int) (a2_1:Int) (a3:ByteArray):Option ((List (S45))):=if a2_1=0 then (if 0 <= a2_0 then (if a2_0<(l0.length:Int) then (impl_rename.j0 k (l0.set (a2_0:Int).toNat (⟨(rd_T45 l0 a2_0).f0,(rd_T45 l0 a2_0).f1,(rd_T45 l0 a2_0).f2,(rd_T45 l0 a2_0).f3,(rd_T45 l0 a2_0).f4,a3,(rd_T45 l0 a2_0).f6⟩:S45)) l1 a3 a2_0 a2_1) else (none)) else (none)) else (if 0 <= a2_0 then (if a2_0<(l0.length:Int) then (impl_rename.j0 k (l0.set (a2_0:Int).toNat (⟨(rd_T45 l0 a2_0).f0,(rd_T45 l0 a2_0).f1,(rd_T45 l0 a2_0).f2,(rd_T45 l0 a2_0).f3,(rd_T45 l0 a2_0).f4,(rd_T45 l0 a2_0).f5,a3⟩:S45)) l1 a3 a2_0 a2_1) else (none)) else (none))
theorem impl_rename.mono_l:∀ k,(∀ y0 y1 y2 y3 y4,LeO (impl_rename.j0 k y0 y1 y2 y3 y4) (impl_rename.j0 (k+1) y0 y1 y2 y3 y4)) /\ (∀ y0 y1 y2 y3 y4 y5 y6,LeO (impl_rename.l0 k y0 y1 y2 y3 y4 y5 y6) (impl_rename.l0 (k+1) y0 y1 y2 y3 y4 y5 y6))
 | 0=>⟨fun _ _ _ _ _ r h=>by simp [impl_rename.j0] at h,fun _ _ _ _ _ _ _ r h=>by simp [impl_rename.l0] at h⟩
 | k+1=>by
  obtain ⟨ih0,ih1⟩:=impl_rename.mono_l k
  refine ⟨?_,?_⟩
  ·intro y0 y1 y2 y3 y4
   unfold impl_rename.j0
   with_reducible repeat' first|exact ih0 _ _ _ _ _|exact ih1 _ _ _ _ _ _ _|exact lrz _|exact lnz _|refine liz ?_ ?_|refine lbz ?_ fun _=>?_
  ·intro y0 y1 y2 y3 y4 y5 y6
   unfold impl_rename.l0
   with_reducible repeat' first|exact ih0 _ _ _ _ _|exact ih1 _ _ _ _ _ _ _|exact lrz _|exact lnz _|refine liz ?_ ?_|refine lbz ?_ fun _=>?_
theorem impl_rename.mono:∀ a0 a1 a2 a3 a4 k,LeO (impl_rename.f k a0 a1 a2 a3 a4) (impl_rename.f (k+1) a0 a1 a2 a3 a4):=by
 intro a0 a1 a2 a3 a4 k
 obtain ⟨ih0,ih1⟩:=impl_rename.mono_l k
 unfold impl_rename.f
 with_reducible repeat' first|exact ih0 _ _ _ _ _|exact ih1 _ _ _ _ _ _ _|exact lrz _|exact lnz _|refine liz ?_ ?_|refine lbz ?_ fun _=>?_
set_option maxHeartbeats 8000000 in
set_option maxRecDepth 100000 in
theorem impl_rename.calls (k:Nat) (P0_:Nat -> Prop) (u9000_:Value) (l0:List (S45)) (A1:Option Addr) (c1:Nat) (l1:List (S30)) (a2_0:Int) (a2_1:Int) (a3:ByteArray) (r:List (S45)) (w0 w:World) (hB:Below w0.heap.size w0 w) (ho0:Kd.R k45 45 w w0.heap.size P0_ u9000_ l0) (hr1:∀ W_,Kept w W_ (fun k_=>P0_ k_) -> Kd.C k30 W_ A1 l1.length l1) (hc1:l1.length <= c1) (h:impl_rename.f k l0 l1 a2_0 a2_1 a3=some r) :
  Calls Tryz.prog 33 #[u9000_,.slice A1 l1.length c1,.agg #[.int .i64 a2_0,.int .i64 a2_1],.string a3] w fun e w'=>e=.returned (.tuple #[]) /\ Kd.R k45 45 w' w0.heap.size (fun k_=>(P0_ k_ \/ w.heap.size <= k_)) u9000_ r /\ Below w0.heap.size w0 w' /\ Kept w w' (fun k_=>P0_ k_):=by
 have hu30:=Tryz.underlying30
 have HO0:=am (show Kd.R k45 45 w w0.heap.size (fun k_=>(P0_ k_ \/ w.heap.size <= k_)) u9000_ l0 from Kd.R_mono ho0 (fun k_ hk=>(.inl hk)))
 have HR1:=am hr1
 have HC1:=am hc1
 clear hr1 hc1
 have HK:=am (Kept.refl w (fun k_=>P0_ k_))
 have HW0:=am hB.size
 have HB:=am hB
 clear hB
 have H:(if a2_1=0 then (if 0 <= a2_0 then (if a2_0<(l0.length:Int) then (impl_rename.j0 k (l0.set (a2_0:Int).toNat (⟨(rd_T45 l0 a2_0).f0,(rd_T45 l0 a2_0).f1,(rd_T45 l0 a2_0).f2,(rd_T45 l0 a2_0).f3,(rd_T45 l0 a2_0).f4,a3,(rd_T45 l0 a2_0).f6⟩:S45)) l1 a3 a2_0 a2_1) else (none)) else (none)) else (if 0 <= a2_0 then (if a2_0<(l0.length:Int) then (impl_rename.j0 k (l0.set (a2_0:Int).toNat (⟨(rd_T45 l0 a2_0).f0,(rd_T45 l0 a2_0).f1,(rd_T45 l0 a2_0).f2,(rd_T45 l0 a2_0).f3,(rd_T45 l0 a2_0).f4,(rd_T45 l0 a2_0).f5,a3⟩:S45)) l1 a3 a2_0 a2_1) else (none)) else (none)))=some r:=h
 clear h
 have HC5:=am H
 clear H
 go_enter Tryz.func33,Tryz.ntmps33
 go_upto_if 12 with (first|((with_reducible refine gate_dst (N:=6) rfl ?_);refine box_event ?hg (N:=6) ?hd (cs:=#[.int .i64 a2_0,.int .i64 a2_1]) (t:=30) ?hr ?_;(case hd=>rfl);(case hg=>rfl);(case hr=>exact vz);intro gb176 hg w6 hbox hb;replace HO0:=qz HO0 hb;have BK176:=am (hbox);have GW176:=am ((by rw [hg];exact (by first|exact HK.out.1|exact (show Kept w _ (fun k_=>P0_ k_) from by repeat (first|(with_reducible first|exact HK.out|apply Kept.alloc|apply Kept.drewN|apply Kept.drew)|exact HK.out)).1):w.heap.size <= gb176));replace HK:=am (Kept.below (S:=(fun k_=>P0_ k_)) (by repeat (first|(with_reducible first|exact HK.out|apply Kept.alloc|apply Kept.drewN|apply Kept.drew)|exact HK.out)) hb);have GE176:=am ((by rw [hg];exact (below_size (bz0 HB.out)):w0.heap.size <= gb176));replace HB:=bs (bz0 HB.out) hb;clear hb hbox hg;obtain ⟨hcz7_0,hcz7_1⟩:=cz2 BK176.out;obtain ⟨hfz7_0,hfz7_1⟩:=fz2 BK176.out))
 (try simp only [Act.put,sz1,sz2,sz3])
 go_cut [] (fun wc=>∃ (kq:Nat) (x0_4:List (S45)),Aside0 (impl_rename.j0 kq x0_4 l1 a3 a2_0 a2_1=some r) /\ Aside0 (kq <= k) /\ Aside0 (Kd.R k45 45 wc w0.heap.size (fun k_=>(P0_ k_ \/ w.heap.size <= k_)) u9000_ x0_4) /\ Aside0 (wc.heap[gb176]?=some (.cells #[.int .i64 a2_0,.int .i64 a2_1] 30 (0,0))) /\ Aside0 (Kept w wc (fun k_=>P0_ k_)) /\ Aside0 (Below w0.heap.size w0 wc))
 case first =>
  have H:=HC5.out
  clear HC5
  by_cases c8:a2_1=0
  ·rw [if_pos c8] at H
   have c8b0:(a2_1 == 0)=true:=beq_iff_eq.mpr c8
   have c8b1:(a2_1 != 0)=false:=bne_eq_false_iff_eq.mpr c8
   clear c8
   (first|rw [c8b0]|(simp only [i64_w,i32_w];rw [c8b0])|skip)
   replace H:=iz H
   obtain ⟨c9,H⟩:=H
   have c9b0:=decide_eq_true c9
   clear c9
   replace H:=iz H
   obtain ⟨c10,H⟩:=H
   have c10b0:=decide_eq_true c10
   clear c10
   obtain ⟨y177,hy177⟩:∃ y_:List (S45),y_=(l0.set (a2_0:Int).toNat (⟨(rd_T45 l0 a2_0).f0,(rd_T45 l0 a2_0).f1,(rd_T45 l0 a2_0).f2,(rd_T45 l0 a2_0).f3,(rd_T45 l0 a2_0).f4,a3,(rd_T45 l0 a2_0).f6⟩:S45)):=⟨_,rfl⟩
   replace H:(impl_rename.j0 k y177 l1 a3 a2_0 a2_1)=some r:=yz hy177 H
   have Ny177:=am hy177
   clear hy177
   have H':=am H
   clear H
   obtain ⟨hcz12_0,hcz12_1⟩:=cz2 BK176.out
   obtain ⟨hfz12_0,hfz12_1⟩:=fz2 BK176.out
   have p11:0 <= (a2_0:Int):=oz
   have q11:(a2_0:Int)<((l0.length:Int):Int):=oz
   obtain ⟨go11,co11,eo11,gb11,gl11,cl11,HG11⟩:=Kd.R_form HO0.out (by omega)
   (first|cases eo11|(injection eo11 with ea_ en_ ec_;(first|subst ea_|(injection ea_ with ea_;subst ea_));subst ec_;clear en_))
   have GB11:=am gb11
   have GG11:=am HG11
   clear gb11 gl11 HG11
   have HMgo11:=am (show (P0_ go11 \/ w.heap.size <= go11) from (HO0.out.1 _ rfl))
   obtain ⟨ce11,hcl11,hM11,hcc11,hfr11⟩:=Kd.R_elem HO0.out z45 (a2_0:Int) p11 q11
   obtain rfl:=k45_openM hM11
   have hx11_0:w6.cell? ⟨go11,(a2_0:Int).toNat * 7,none⟩=some (.int .i64 ((rd_T45 l0 a2_0).f0)):=hcc11 0 _ rfl
   have hx11_1:w6.cell? ⟨go11,(a2_0:Int).toNat * 7+1,none⟩=some (.int .i64 ((rd_T45 l0 a2_0).f1)):=hcc11 1 _ rfl
   have hx11_2:w6.cell? ⟨go11,(a2_0:Int).toNat * 7+2,none⟩=some (.int .i64 ((rd_T45 l0 a2_0).f2)):=hcc11 2 _ rfl
   have hx11_3:w6.cell? ⟨go11,(a2_0:Int).toNat * 7+3,none⟩=some (.int .i64 ((rd_T45 l0 a2_0).f3)):=hcc11 3 _ rfl
   have hx11_4:w6.cell? ⟨go11,(a2_0:Int).toNat * 7+4,none⟩=some (.int .i64 ((rd_T45 l0 a2_0).f4)):=hcc11 4 _ rfl
   have hx11_5:w6.cell? ⟨go11,(a2_0:Int).toNat * 7+5,none⟩=some (.string ((rd_T45 l0 a2_0).f5)):=hcc11 5 _ rfl
   have hx11_6:w6.cell? ⟨go11,(a2_0:Int).toNat * 7+6,none⟩=some (.string ((rd_T45 l0 a2_0).f6)):=hcc11 6 _ rfl
   have hf11_0:w6.frozen? ⟨go11,(a2_0:Int).toNat * 7,none⟩=false:=hfr11 0
   have hf11_1:w6.frozen? ⟨go11,(a2_0:Int).toNat * 7+1,none⟩=false:=hfr11 1
   have hf11_2:w6.frozen? ⟨go11,(a2_0:Int).toNat * 7+2,none⟩=false:=hfr11 2
   have hf11_3:w6.frozen? ⟨go11,(a2_0:Int).toNat * 7+3,none⟩=false:=hfr11 3
   have hf11_4:w6.frozen? ⟨go11,(a2_0:Int).toNat * 7+4,none⟩=false:=hfr11 4
   have hf11_5:w6.frozen? ⟨go11,(a2_0:Int).toNat * 7+5,none⟩=false:=hfr11 5
   have hf11_6:w6.frozen? ⟨go11,(a2_0:Int).toNat * 7+6,none⟩=false:=hfr11 6
   clear hcl11 hcc11 hfr11 hM11
   replace p11:=eq_true p11
   replace q11:=eq_true q11
   have HX13:=am (show Kd.R k45 45 w6 w0.heap.size (fun k_=>(P0_ k_ \/ w.heap.size <= k_)) (.slice (some ⟨go11,0,none⟩) l0.length co11) l0 from (rz HO0.out))
   obtain ⟨ce13,hcl13,hM13,hcc13,hfr13⟩:=Kd.R_elem HX13.out z45 (a2_0:Int) (of_decide_eq_true az) (by have h_:(a2_0:Int)<((l0.length:Int):Int):=oz;first|exact h_|(have e_:=(Kd.R_reads' HO0.out).1;omega)|simpa using h_)
   obtain rfl:=k45_openM hM13
   have HP13:=Kd.R_seg HX13.out (a2_0:Int) (of_decide_eq_true az) (by have h_:(a2_0:Int)<((l0.length:Int):Int):=oz;first|exact h_|(have e_:=(Kd.R_reads' HO0.out).1;omega)|simpa using h_) (seg:=[.string a3]) (j:=5) hcl13 hcc13 (show 6 <= 7 from by decide) (x':=(⟨(rd_T45 l0 a2_0).f0,(rd_T45 l0 a2_0).f1,(rd_T45 l0 a2_0).f2,(rd_T45 l0 a2_0).f3,(rd_T45 l0 a2_0).f4,a3,(rd_T45 l0 a2_0).f6⟩:S45)) (k45_mkM _ _ _ (⟨(rd_T45 l0 a2_0).f0,(rd_T45 l0 a2_0).f1,(rd_T45 l0 a2_0).f2,(rd_T45 l0 a2_0).f3,(rd_T45 l0 a2_0).f4,a3,(rd_T45 l0 a2_0).f6⟩:S45) ) (fun _ hk=>hk)
   have hx13_5:=hcc13 5 _ rfl
   (try simp only [show (k45).sz=7 from rfl,Nat.mul_one,Nat.add_zero] at hx13_5)
   have hf13_5:=hfr13 5
   (try simp only [show (k45).sz=7 from rfl,Nat.mul_one,Nat.add_zero] at hf13_5)
   clear hcl13 hcc13 hfr13 hM13
   go_wp2_with (first|((with_reducible refine gate_store (t:=9) (p:=18) rfl ?_);refine store_event (t:=9) (p:=18) (v:=?vo_w14) (w1:=(w6.setCell ⟨go11,(a2_0:Int).toNat * 7+5,none⟩ (.string a3))) ?hg ?ho ?hn ?hr ?_;(case ho=>rfl);(case hg=>rfl);(case hn=>rfl);(case hr=>exact vz);intro w14 hw;have hg:w6.grownBy w14 (some go11):=(by rw [hw];exact HP13.2);have hp_:Kd.R k45 45 w14 w0.heap.size (fun k_=>(P0_ k_ \/ w.heap.size <= k_)) (.slice (some ⟨go11,0,none⟩) l0.length co11) y177:=(by rw [hw,Ny177.out];exact HP13.1);clear HP13;replace BK176:=am (blk_grown (g:=gb176) (o:=.cells #[.int .i64 a2_0,.int .i64 a2_1] 30 (0,0)) (kz BK176.out) hg (Kd.R_ne HO0.out BK176.out (by decide)));replace HB:=am ((by rw [hw];exact below_set (HB.out) GB11.out:Below w0.heap.size w0 w14));replace HK:=am (Kept.of_grown (S:=(fun k_=>P0_ k_)) hg (by repeat (first|(with_reducible first|exact HK.out|apply Kept.alloc|apply Kept.drewN|apply Kept.drew|refine Kept.setCell ?_ (.inr GW176.out) _)|exact HK.out)) (fun k_ e_=>(HO0.out.1 k_ e_)));replace HO0:=am (hp_);clear hg hw hp_))
   go_meet
   case rel=>exact ⟨_,(y177),H',⟨by first|omega|exact Nat.le_refl _⟩,⟨by refine rq ?_;exact HO0.out⟩,⟨by refine kq ?_;exact BK176.out⟩,⟨by repeat (first|(with_reducible first|exact HK.out|apply Kept.alloc|apply Kept.drewN|apply Kept.drew|refine Kept.setCell ?_ (.inr GW176.out) _)|exact HK.out)⟩,⟨(bz1 HB.out GE176.out)⟩⟩
  ·rw [if_neg c8] at H
   have c8b0:(a2_1 == 0)=false:=beq_eq_false_iff_ne.mpr c8
   have c8b1:(a2_1 != 0)=true:=bne_iff_ne.mpr c8
   (first|rw [c8b0]|(simp only [i64_w,i32_w];rw [c8b0])|skip)
   replace H:=iz H
   obtain ⟨c15,H⟩:=H
   have c15b0:=decide_eq_true c15
   clear c15
   replace H:=iz H
   obtain ⟨c16,H⟩:=H
   have c16b0:=decide_eq_true c16
   clear c16
   obtain ⟨y178,hy178⟩:∃ y_:List (S45),y_=(l0.set (a2_0:Int).toNat (⟨(rd_T45 l0 a2_0).f0,(rd_T45 l0 a2_0).f1,(rd_T45 l0 a2_0).f2,(rd_T45 l0 a2_0).f3,(rd_T45 l0 a2_0).f4,(rd_T45 l0 a2_0).f5,a3⟩:S45)):=⟨_,rfl⟩
   replace H:(impl_rename.j0 k y178 l1 a3 a2_0 a2_1)=some r:=yz hy178 H
   have Ny178:=am hy178
   clear hy178
   have H':=am H
   clear H
   obtain ⟨hcz18_0,hcz18_1⟩:=cz2 BK176.out
   obtain ⟨hfz18_0,hfz18_1⟩:=fz2 BK176.out
   have p17:0 <= (a2_0:Int):=oz
   have q17:(a2_0:Int)<((l0.length:Int):Int):=oz
   obtain ⟨go17,co17,eo17,gb17,gl17,cl17,HG17⟩:=Kd.R_form HO0.out (by omega)
   (first|cases eo17|(injection eo17 with ea_ en_ ec_;(first|subst ea_|(injection ea_ with ea_;subst ea_));subst ec_;clear en_))
   have GB17:=am gb17
   have GG17:=am HG17
   clear gb17 gl17 HG17
   have HMgo17:=am (show (P0_ go17 \/ w.heap.size <= go17) from (HO0.out.1 _ rfl))
   obtain ⟨ce17,hcl17,hM17,hcc17,hfr17⟩:=Kd.R_elem HO0.out z45 (a2_0:Int) p17 q17
   obtain rfl:=k45_openM hM17
   have hx17_0:w6.cell? ⟨go17,(a2_0:Int).toNat * 7,none⟩=some (.int .i64 ((rd_T45 l0 a2_0).f0)):=hcc17 0 _ rfl
   have hx17_1:w6.cell? ⟨go17,(a2_0:Int).toNat * 7+1,none⟩=some (.int .i64 ((rd_T45 l0 a2_0).f1)):=hcc17 1 _ rfl
   have hx17_2:w6.cell? ⟨go17,(a2_0:Int).toNat * 7+2,none⟩=some (.int .i64 ((rd_T45 l0 a2_0).f2)):=hcc17 2 _ rfl
   have hx17_3:w6.cell? ⟨go17,(a2_0:Int).toNat * 7+3,none⟩=some (.int .i64 ((rd_T45 l0 a2_0).f3)):=hcc17 3 _ rfl
   have hx17_4:w6.cell? ⟨go17,(a2_0:Int).toNat * 7+4,none⟩=some (.int .i64 ((rd_T45 l0 a2_0).f4)):=hcc17 4 _ rfl
   have hx17_5:w6.cell? ⟨go17,(a2_0:Int).toNat * 7+5,none⟩=some (.string ((rd_T45 l0 a2_0).f5)):=hcc17 5 _ rfl
   have hx17_6:w6.cell? ⟨go17,(a2_0:Int).toNat * 7+6,none⟩=some (.string ((rd_T45 l0 a2_0).f6)):=hcc17 6 _ rfl
   have hf17_0:w6.frozen? ⟨go17,(a2_0:Int).toNat * 7,none⟩=false:=hfr17 0
   have hf17_1:w6.frozen? ⟨go17,(a2_0:Int).toNat * 7+1,none⟩=false:=hfr17 1
   have hf17_2:w6.frozen? ⟨go17,(a2_0:Int).toNat * 7+2,none⟩=false:=hfr17 2
   have hf17_3:w6.frozen? ⟨go17,(a2_0:Int).toNat * 7+3,none⟩=false:=hfr17 3
   have hf17_4:w6.frozen? ⟨go17,(a2_0:Int).toNat * 7+4,none⟩=false:=hfr17 4
   have hf17_5:w6.frozen? ⟨go17,(a2_0:Int).toNat * 7+5,none⟩=false:=hfr17 5
   have hf17_6:w6.frozen? ⟨go17,(a2_0:Int).toNat * 7+6,none⟩=false:=hfr17 6
   clear hcl17 hcc17 hfr17 hM17
   replace p17:=eq_true p17
   replace q17:=eq_true q17
   have HX19:=am (show Kd.R k45 45 w6 w0.heap.size (fun k_=>(P0_ k_ \/ w.heap.size <= k_)) (.slice (some ⟨go17,0,none⟩) l0.length co17) l0 from (rz HO0.out))
   obtain ⟨ce19,hcl19,hM19,hcc19,hfr19⟩:=Kd.R_elem HX19.out z45 (a2_0:Int) (of_decide_eq_true az) (by have h_:(a2_0:Int)<((l0.length:Int):Int):=oz;first|exact h_|(have e_:=(Kd.R_reads' HO0.out).1;omega)|simpa using h_)
   obtain rfl:=k45_openM hM19
   have HP19:=Kd.R_seg HX19.out (a2_0:Int) (of_decide_eq_true az) (by have h_:(a2_0:Int)<((l0.length:Int):Int):=oz;first|exact h_|(have e_:=(Kd.R_reads' HO0.out).1;omega)|simpa using h_) (seg:=[.string a3]) (j:=6) hcl19 hcc19 (show 7 <= 7 from by decide) (x':=(⟨(rd_T45 l0 a2_0).f0,(rd_T45 l0 a2_0).f1,(rd_T45 l0 a2_0).f2,(rd_T45 l0 a2_0).f3,(rd_T45 l0 a2_0).f4,(rd_T45 l0 a2_0).f5,a3⟩:S45)) (k45_mkM _ _ _ (⟨(rd_T45 l0 a2_0).f0,(rd_T45 l0 a2_0).f1,(rd_T45 l0 a2_0).f2,(rd_T45 l0 a2_0).f3,(rd_T45 l0 a2_0).f4,(rd_T45 l0 a2_0).f5,a3⟩:S45) ) (fun _ hk=>hk)
   have hx19_6:=hcc19 6 _ rfl
   (try simp only [show (k45).sz=7 from rfl,Nat.mul_one,Nat.add_zero] at hx19_6)
   have hf19_6:=hfr19 6
   (try simp only [show (k45).sz=7 from rfl,Nat.mul_one,Nat.add_zero] at hf19_6)
   clear hcl19 hcc19 hfr19 hM19
   go_wp2_with (first|((with_reducible refine gate_store (t:=9) (p:=24) rfl ?_);refine store_event (t:=9) (p:=24) (v:=?vo_w20) (w1:=(w6.setCell ⟨go17,(a2_0:Int).toNat * 7+6,none⟩ (.string a3))) ?hg ?ho ?hn ?hr ?_;(case ho=>rfl);(case hg=>rfl);(case hn=>rfl);(case hr=>exact vz);intro w20 hw;have hg:w6.grownBy w20 (some go17):=(by rw [hw];exact HP19.2);have hp_:Kd.R k45 45 w20 w0.heap.size (fun k_=>(P0_ k_ \/ w.heap.size <= k_)) (.slice (some ⟨go17,0,none⟩) l0.length co17) y178:=(by rw [hw,Ny178.out];exact HP19.1);clear HP19;replace BK176:=am (blk_grown (g:=gb176) (o:=.cells #[.int .i64 a2_0,.int .i64 a2_1] 30 (0,0)) (kz BK176.out) hg (Kd.R_ne HO0.out BK176.out (by decide)));replace HB:=am ((by rw [hw];exact below_set (HB.out) GB17.out:Below w0.heap.size w0 w20));replace HK:=am (Kept.of_grown (S:=(fun k_=>P0_ k_)) hg (by repeat (first|(with_reducible first|exact HK.out|apply Kept.alloc|apply Kept.drewN|apply Kept.drew|refine Kept.setCell ?_ (.inr GW176.out) _)|exact HK.out)) (fun k_ e_=>(HO0.out.1 k_ e_)));replace HO0:=am (hp_);clear hg hw hp_))
   go_meet
   case rel=>exact ⟨_,(y178),H',⟨by first|omega|exact Nat.le_refl _⟩,⟨by refine rq ?_;exact HO0.out⟩,⟨by refine kq ?_;exact BK176.out⟩,⟨by repeat (first|(with_reducible first|exact HK.out|apply Kept.alloc|apply Kept.drewN|apply Kept.drew|refine Kept.setCell ?_ (.inr GW176.out) _)|exact HK.out)⟩,⟨(bz1 HB.out GE176.out)⟩⟩
 case rest =>
  clear HC5
  try clear c1
  try clear p1
  try clear q1
  try clear hx1
  try clear p2
  try clear c3
  try clear c8
  try clear c8b0
  try clear c8b1
  try clear c9
  try clear c9b0
  try clear c10
  try clear c10b0
  try clear c11
  try clear p11
  try clear q11
  try clear hx11
  try clear hf11
  try clear c13
  try clear hx13
  try clear hf13
  try clear c15
  try clear c15b0
  try clear c16
  try clear c16b0
  try clear c17
  try clear p17
  try clear q17
  try clear hx17
  try clear hf17
  try clear c19
  try clear hx19
  try clear hf19
  try clear hcz12_0 hcz12_1
  try clear hcz18_0 hcz18_1
  try clear hcz7_0 hcz7_1
  try clear hfz12_0 hfz12_1
  try clear hfz18_0 hfz18_1
  try clear hfz7_0 hfz7_1
  try clear hx11_0
  try clear hx11_1
  try clear hx11_2
  try clear hx11_3
  try clear hx11_4
  try clear hx11_5
  try clear hx11_6
  try clear hx13_5
  try clear hx17_0
  try clear hx17_1
  try clear hx17_2
  try clear hx17_3
  try clear hx17_4
  try clear hx17_5
  try clear hx17_6
  try clear hx19_6
  try clear p11
  try clear p17
  try clear q11
  try clear q17
  obtain ⟨kq,x0_4,HA,HJ4,HO_0,BK176,HK,HB⟩:=hcut
  cases kq with
  | zero=>exact absurd HA.out (by simp [impl_rename.j0])
  | succ kj4 =>
   have H:=HA.out
   clear HA
   simp only [impl_rename.j0] at H
   have H':=am H
   clear H
   go_wp2
   go_loopg [27] kj4 (fun kq v27 w'=>∃ (x0_2:List (S45)) (x27_2:Int),v27=.int .i64 x27_2 /\ Aside0 (impl_rename.l0 kq x0_2 a3 l1 (l1.length:Int) x27_2 a2_0 a2_1=some r) /\ Aside0 (kq <= kj4) /\ Aside0 (Kd.R k45 45 w' w0.heap.size (fun k_=>(P0_ k_ \/ w.heap.size <= k_)) u9000_ x0_2) /\ Aside0 (w'.heap[gb176]?=some (.cells #[.int .i64 a2_0,.int .i64 a2_1] 30 (0,0))) /\ Aside0 (Kept w w' (fun k_=>P0_ k_)) /\ Aside0 (Below w0.heap.size w0 w'))
   case atStart=>exact ⟨(x0_4),(0),ez,H',⟨Nat.le_refl _⟩,⟨by refine rq ?_;exact HO_0.out⟩,⟨by refine kq ?_;exact BK176.out⟩,⟨by repeat (first|(with_reducible first|exact HK.out|apply Kept.alloc|apply Kept.drewN|apply Kept.drew|refine Kept.setCell ?_ (.inr GW176.out) _)|exact HK.out)⟩,⟨(bz1 HB.out GE176.out)⟩⟩
   case round =>
    clear H'
    try clear c1
    try clear p1
    try clear q1
    try clear hx1
    try clear p2
    try clear c3
    try clear c8
    try clear c8b0
    try clear c8b1
    try clear c9
    try clear c9b0
    try clear c10
    try clear c10b0
    try clear c11
    try clear p11
    try clear q11
    try clear hx11
    try clear hf11
    try clear c13
    try clear hx13
    try clear hf13
    try clear c15
    try clear c15b0
    try clear c16
    try clear c16b0
    try clear c17
    try clear p17
    try clear q17
    try clear hx17
    try clear hf17
    try clear c19
    try clear hx19
    try clear hf19
    try clear hcz12_0 hcz12_1
    try clear hcz18_0 hcz18_1
    try clear hcz7_0 hcz7_1
    try clear hfz12_0 hfz12_1
    try clear hfz18_0 hfz18_1
    try clear hfz7_0 hfz7_1
    try clear hx11_0
    try clear hx11_1
    try clear hx11_2
    try clear hx11_3
    try clear hx11_4
    try clear hx11_5
    try clear hx11_6
    try clear hx13_5
    try clear hx17_0
    try clear hx17_1
    try clear hx17_2
    try clear hx17_3
    try clear hx17_4
    try clear hx17_5
    try clear hx17_6
    try clear hx19_6
    try clear p1
    try clear p11
    try clear p17
    try clear p2
    try clear q1
    try clear q11
    try clear q17
    obtain ⟨x0_2,x27_2,rfl,HA,HK2,HO_0,BK176,HK,HB⟩:=hrel
    cases gk with
    | zero=>exact absurd HA.out (by simp [impl_rename.l0])
    | succ k2 =>
     have H:=HA.out
     clear HA
     simp only [impl_rename.l0] at H
     by_cases c21:x27_2<(l1.length:Int)
     ·rw [if_pos c21] at H
      have c21b0:=decide_eq_true c21
      clear c21
      replace H:=iz H
      obtain ⟨c22,H⟩:=H
      have c22b0:=decide_eq_true c22
      clear c22
      replace H:=iz H
      obtain ⟨c23,H⟩:=H
      have c23b0:=decide_eq_true c23
      clear c23
      by_cases c24:(((rd_T30 l1 x27_2).f0) == a2_0 && (((rd_T30 l1 x27_2).f1) == a2_1))=true
      ·rw [if_pos c24] at H
       have c24b0:(((rd_T30 l1 x27_2).f0) == a2_0 && (((rd_T30 l1 x27_2).f1) == a2_1))=true:=c24
       (try (have c24b1:decide (((rd_T30 l1 x27_2).f0)=a2_0 && (((rd_T30 l1 x27_2).f1) == a2_1))=true:=by simpa using c24))
       (try (have c24b2:(((rd_T30 l1 x27_2).f0) == a2_0 && (((rd_T30 l1 x27_2).f1) == a2_1))=true:=by simpa using c24))
       clear c24
       replace H:=iz H
       obtain ⟨c25,H⟩:=H
       have c25b0:=decide_eq_true c25
       clear c25
       obtain ⟨y181,hy181⟩:∃ y_:List (S45),y_=(x0_2.set (x27_2:Int).toNat (⟨(rd_T45 x0_2 x27_2).f0,(rd_T45 x0_2 x27_2).f1,(rd_T45 x0_2 x27_2).f2,(rd_T45 x0_2 x27_2).f3,(rd_T45 x0_2 x27_2).f4,a3,(rd_T45 x0_2 x27_2).f6⟩:S45)):=⟨_,rfl⟩
       replace H:(impl_rename.l0 k2 y181 a3 l1 (l1.length:Int) (wrap64 (x27_2+1)) a2_0 a2_1)=some r:=yz hy181 H
       have Ny181:=am hy181
       clear hy181
       have H':=am H
       clear H
       have p179:0 <= (x27_2:Int):=oz
       have q179:x27_2<(l1.length:Int):=oz
       obtain ⟨ad179,e179,hx179_0,hx179_1⟩:=at_T30 (Kd.C_kept_now HR1.out HK.out) x27_2 p179 q179
       cases e179
       replace p179:=eq_true p179
       replace q179:=eq_true q179
       go_wp2_with (first|((with_reducible refine gate_dst (N:=9) rfl ?_);refine box_event ?hg (N:=9) ?hd (cs:=#[.int .i64 0,.int .i64 0]) (t:=30) ?hr ?_;(case hd=>rfl);(case hg=>rfl);(case hr=>exact vz);intro gb180 hg w27 hbox hb;replace HO_0:=qz HO_0 hb;have BK180:=am (hbox);have GW180:=am ((by rw [hg];exact (by first|exact HK.out.1|exact (show Kept w _ (fun k_=>P0_ k_) from by repeat (first|(with_reducible first|exact HK.out|apply Kept.alloc|apply Kept.drewN|apply Kept.drew|refine Kept.setCell ?_ (.inr GW176.out) _)|exact HK.out)).1):w.heap.size <= gb180));replace HK:=am (Kept.below (S:=(fun k_=>P0_ k_)) (by repeat (first|(with_reducible first|exact HK.out|apply Kept.alloc|apply Kept.drewN|apply Kept.drew|refine Kept.setCell ?_ (.inr GW176.out) _)|exact HK.out)) hb);have GE180:=am ((by rw [hg];exact (below_size (bz1 HB.out GE176.out)):w0.heap.size <= gb180));replace HB:=bs (bz1 HB.out GE176.out) hb;have NB176_180:=am ((by rw [hg];exact Nat.ne_of_lt (blk_lt (kz BK176.out)):gb176≠gb180));have NB180_176:=am ((by rw [hg];exact Nat.ne_of_gt (blk_lt (kz BK176.out)):gb180≠gb176));replace BK176:=kb BK176 hb;clear hb hbox hg;have hnb28:=NB180_176.out;have hnc28:=NB176_180.out;obtain ⟨hcz29_0,hcz29_1⟩:=cz2 BK180.out;obtain ⟨hfz29_0,hfz29_1⟩:=fz2 BK180.out)|((with_reducible refine gate_store (t:=30) (p:=9) rfl ?_);refine store_event (t:=30) (p:=9) (v:=?vo_w30) (w1:=((w27.setCell ⟨gb180,0,none⟩ (.int .i64 ((rd_T30 l1 x27_2).f0))).setCell ⟨gb180,1,none⟩ (.int .i64 ((rd_T30 l1 x27_2).f1)))) ?hg ?ho ?hn ?hr ?_;(case ho=>rfl);(case hg=>rfl);(case hn=>rfl);(case hr=>exact vz);intro w30 hw;have n0_:Aside0 (Kd.R k45 45 w30 w0.heap.size (fun k_=>(P0_ k_ \/ w.heap.size <= k_)) u9000_ x0_2):=⟨(by rw [hw];exact (by refine rq ?_;first|(with_reducible exact Kd.R_mono (Kd.R_far (p:=⟨gb180,1,none⟩) (Kd.R_far (p:=⟨gb180,0,none⟩) (Kd.R_types HO_0.out BK180.out (by decide)) (fun _ hk=>hk.2) (.int .i64 ((rd_T30 l1 x27_2).f0))) (fun _ hk=>hk.2) (.int .i64 ((rd_T30 l1 x27_2).f1))) (fun _ hk=>hk.1))|(with_reducible exact Kd.R_mono (Kd.R_far (p:=⟨gb180,1,none⟩) (Kd.R_drewN (Kd.R_far (p:=⟨gb180,0,none⟩) (Kd.R_types HO_0.out BK180.out (by decide)) (fun _ hk=>hk.2) (.int .i64 ((rd_T30 l1 x27_2).f0))) _) (fun _ hk=>hk.2) (.int .i64 ((rd_T30 l1 x27_2).f1))) (fun _ hk=>hk.1))|exact Kd.R_mono (Kd.R_far (p:=⟨gb180,1,none⟩) (Kd.R_drewN (Kd.R_far (p:=⟨gb180,0,none⟩) (Kd.R_types HO_0.out BK180.out (by decide)) (fun _ hk=>hk.2) (.int .i64 ((rd_T30 l1 x27_2).f0))) _) (fun _ hk=>hk.2) (.int .i64 ((rd_T30 l1 x27_2).f1))) (fun _ hk=>hk.1)))⟩;have n1_:Aside0 (w30.heap[gb176]?=some (.cells #[.int .i64 a2_0,.int .i64 a2_1] 30 (0,0))):=⟨(by rw [hw];exact (by refine kq ?_;refine blk_far ?_ NB176_180.out _;refine kq ?_;refine blk_far ?_ NB176_180.out _;refine kq ?_;exact BK176.out))⟩;have n2_:Aside0 (w30.heap[gb180]?=some (.cells #[.int .i64 ((rd_T30 l1 x27_2).f0),.int .i64 ((rd_T30 l1 x27_2).f1)] 30 (0,0))):=⟨(by rw [hw];exact (by refine kq ?_;refine blk_put (cs:=#[.int .i64 ((rd_T30 l1 x27_2).f0),.int .i64 0]) ?_ 1 _ rfl;refine kq ?_;refine blk_put (cs:=#[.int .i64 0,.int .i64 0]) ?_ 0 _ rfl;refine kq ?_;exact BK180.out))⟩;have n3_:Aside0 (Kept w w30 (fun k_=>P0_ k_)):=⟨(by rw [hw];exact (by repeat (first|(with_reducible first|exact HK.out|apply Kept.alloc|apply Kept.drewN|apply Kept.drew|refine Kept.setCell ?_ (.inr GW176.out) _|refine Kept.setCell ?_ (.inr GW180.out) _)|exact HK.out)))⟩;have n4_:Aside0 (Below w0.heap.size w0 w30):=⟨(by rw [hw];exact (bz2 HB.out GE176.out GE180.out))⟩;clear hw;clear HO_0;clear BK176;clear BK180;clear HK;clear HB;have HO_0:=n0_;have BK176:=n1_;have BK180:=n2_;have HK:=n3_;have HB:=n4_;clear n0_ n1_ n2_ n3_ n4_;obtain ⟨hcz31_0,hcz31_1⟩:=cz2 BK180.out;obtain ⟨hfz31_0,hfz31_1⟩:=fz2 BK180.out;obtain ⟨hcz32_0,hcz32_1⟩:=cz2 BK176.out;obtain ⟨hfz32_0,hfz32_1⟩:=fz2 BK176.out;have p26:0 <= (x27_2:Int):=oz;have q26:(x27_2:Int)<((x0_2.length:Int):Int):=oz;obtain ⟨go26,co26,eo26,gb26,gl26,cl26,HG26⟩:=Kd.R_form HO_0.out (by omega);(first|cases eo26|(injection eo26 with ea_ en_ ec_;(first|subst ea_|(injection ea_ with ea_;subst ea_));subst ec_;clear en_));have GB26:=am gb26;have GG26:=am HG26;clear gb26 gl26 HG26;have HMgo26:=am (show (P0_ go26 \/ w.heap.size <= go26) from (HO_0.out.1 _ rfl));obtain ⟨ce26,hcl26,hM26,hcc26,hfr26⟩:=Kd.R_elem HO_0.out z45 (x27_2:Int) p26 q26;obtain rfl:=k45_openM hM26;have hx26_0:w30.cell? ⟨go26,(x27_2:Int).toNat * 7,none⟩=some (.int .i64 ((rd_T45 x0_2 x27_2).f0)):=hcc26 0 _ rfl;have hx26_1:w30.cell? ⟨go26,(x27_2:Int).toNat * 7+1,none⟩=some (.int .i64 ((rd_T45 x0_2 x27_2).f1)):=hcc26 1 _ rfl;have hx26_2:w30.cell? ⟨go26,(x27_2:Int).toNat * 7+2,none⟩=some (.int .i64 ((rd_T45 x0_2 x27_2).f2)):=hcc26 2 _ rfl;have hx26_3:w30.cell? ⟨go26,(x27_2:Int).toNat * 7+3,none⟩=some (.int .i64 ((rd_T45 x0_2 x27_2).f3)):=hcc26 3 _ rfl;have hx26_4:w30.cell? ⟨go26,(x27_2:Int).toNat * 7+4,none⟩=some (.int .i64 ((rd_T45 x0_2 x27_2).f4)):=hcc26 4 _ rfl;have hx26_5:w30.cell? ⟨go26,(x27_2:Int).toNat * 7+5,none⟩=some (.string ((rd_T45 x0_2 x27_2).f5)):=hcc26 5 _ rfl;have hx26_6:w30.cell? ⟨go26,(x27_2:Int).toNat * 7+6,none⟩=some (.string ((rd_T45 x0_2 x27_2).f6)):=hcc26 6 _ rfl;have hf26_0:w30.frozen? ⟨go26,(x27_2:Int).toNat * 7,none⟩=false:=hfr26 0;have hf26_1:w30.frozen? ⟨go26,(x27_2:Int).toNat * 7+1,none⟩=false:=hfr26 1;have hf26_2:w30.frozen? ⟨go26,(x27_2:Int).toNat * 7+2,none⟩=false:=hfr26 2;have hf26_3:w30.frozen? ⟨go26,(x27_2:Int).toNat * 7+3,none⟩=false:=hfr26 3;have hf26_4:w30.frozen? ⟨go26,(x27_2:Int).toNat * 7+4,none⟩=false:=hfr26 4;have hf26_5:w30.frozen? ⟨go26,(x27_2:Int).toNat * 7+5,none⟩=false:=hfr26 5;have hf26_6:w30.frozen? ⟨go26,(x27_2:Int).toNat * 7+6,none⟩=false:=hfr26 6;clear hcl26 hcc26 hfr26 hM26;replace p26:=eq_true p26;replace q26:=eq_true q26;have HX33:=am (show Kd.R k45 45 w30 w0.heap.size (fun k_=>(P0_ k_ \/ w.heap.size <= k_)) (.slice (some ⟨go26,0,none⟩) x0_2.length co26) x0_2 from (rz HO_0.out));obtain ⟨ce33,hcl33,hM33,hcc33,hfr33⟩:=Kd.R_elem HX33.out z45 (x27_2:Int) (of_decide_eq_true az) (by have h_:(x27_2:Int)<((x0_2.length:Int):Int):=oz;first|exact h_|(have e_:=(Kd.R_reads' HO_0.out).1;omega)|simpa using h_);obtain rfl:=k45_openM hM33;have HP33:=Kd.R_seg HX33.out (x27_2:Int) (of_decide_eq_true az) (by have h_:(x27_2:Int)<((x0_2.length:Int):Int):=oz;first|exact h_|(have e_:=(Kd.R_reads' HO_0.out).1;omega)|simpa using h_) (seg:=[.string a3]) (j:=5) hcl33 hcc33 (show 6 <= 7 from by decide) (x':=(⟨(rd_T45 x0_2 x27_2).f0,(rd_T45 x0_2 x27_2).f1,(rd_T45 x0_2 x27_2).f2,(rd_T45 x0_2 x27_2).f3,(rd_T45 x0_2 x27_2).f4,a3,(rd_T45 x0_2 x27_2).f6⟩:S45)) (k45_mkM _ _ _ (⟨(rd_T45 x0_2 x27_2).f0,(rd_T45 x0_2 x27_2).f1,(rd_T45 x0_2 x27_2).f2,(rd_T45 x0_2 x27_2).f3,(rd_T45 x0_2 x27_2).f4,a3,(rd_T45 x0_2 x27_2).f6⟩:S45) ) (fun _ hk=>hk);have hx33_5:=hcc33 5 _ rfl;(try simp only [show (k45).sz=7 from rfl,Nat.mul_one,Nat.add_zero] at hx33_5);have hf33_5:=hfr33 5;(try simp only [show (k45).sz=7 from rfl,Nat.mul_one,Nat.add_zero] at hf33_5);clear hcl33 hcc33 hfr33 hM33)|((with_reducible refine gate_store (t:=9) (p:=39) rfl ?_);refine store_event (t:=9) (p:=39) (v:=?vo_w34) (w1:=(w30.setCell ⟨go26,(x27_2:Int).toNat * 7+5,none⟩ (.string a3))) ?hg ?ho ?hn ?hr ?_;(case ho=>rfl);(case hg=>rfl);(case hn=>rfl);(case hr=>exact vz);intro w34 hw;have hg:w30.grownBy w34 (some go26):=(by rw [hw];exact HP33.2);have hp_:Kd.R k45 45 w34 w0.heap.size (fun k_=>(P0_ k_ \/ w.heap.size <= k_)) (.slice (some ⟨go26,0,none⟩) x0_2.length co26) y181:=(by rw [hw,Ny181.out];exact HP33.1);clear HP33;replace BK176:=am (blk_grown (g:=gb176) (o:=.cells #[.int .i64 a2_0,.int .i64 a2_1] 30 (0,0)) (kz BK176.out) hg (Kd.R_ne HO_0.out BK176.out (by decide)));replace BK180:=am (blk_grown (g:=gb180) (o:=.cells #[.int .i64 ((rd_T30 l1 x27_2).f0),.int .i64 ((rd_T30 l1 x27_2).f1)] 30 (0,0)) (kz BK180.out) hg (Kd.R_ne HO_0.out BK180.out (by decide)));replace HB:=am ((by rw [hw];exact below_set (HB.out) GB26.out:Below w0.heap.size w0 w34));replace HK:=am (Kept.of_grown (S:=(fun k_=>P0_ k_)) hg (by repeat (first|(with_reducible first|exact HK.out|apply Kept.alloc|apply Kept.drewN|apply Kept.drew|refine Kept.setCell ?_ (.inr GW176.out) _|refine Kept.setCell ?_ (.inr GW180.out) _)|exact HK.out)) (fun k_ e_=>(HO_0.out.1 k_ e_)));replace HO_0:=am (hp_);clear hg hw hp_))
       go_roundg k2
       case measure=>have:=HJ4.out;have:=HK2.out;omega
       case rel=>exact ⟨(y181),(wrap64 (x27_2+1)),ez,H',⟨by have:=HJ4.out;have:=HK2.out;omega⟩,⟨by refine rq ?_;exact HO_0.out⟩,⟨by refine kq ?_;exact BK176.out⟩,⟨by repeat (first|(with_reducible first|exact HK.out|apply Kept.alloc|apply Kept.drewN|apply Kept.drew|refine Kept.setCell ?_ (.inr GW176.out) _|refine Kept.setCell ?_ (.inr GW180.out) _)|exact HK.out)⟩,⟨(bz2 HB.out GE176.out GE180.out)⟩⟩
      ·rw [if_neg c24] at H
       have c24b0:(((rd_T30 l1 x27_2).f0) == a2_0 && (((rd_T30 l1 x27_2).f1) == a2_1))=false:=by simpa using c24
       (try (have c24b1:decide (((rd_T30 l1 x27_2).f0)=a2_0 && (((rd_T30 l1 x27_2).f1) == a2_1))=false:=by simpa using c24))
       (try (have c24b2:(((rd_T30 l1 x27_2).f0) == a2_0 && (((rd_T30 l1 x27_2).f1) == a2_1))=false:=by simpa using c24))
       (try (have c24b3:¬ (((rd_T30 l1 x27_2).f0)=a2_0 && (((rd_T30 l1 x27_2).f1) == a2_1)):=by simpa using c24))
       clear c24
       have H':=am H
       clear H
       have p179:0 <= (x27_2:Int):=oz
       have q179:x27_2<(l1.length:Int):=oz
       obtain ⟨ad179,e179,hx179_0,hx179_1⟩:=at_T30 (Kd.C_kept_now HR1.out HK.out) x27_2 p179 q179
       cases e179
       replace p179:=eq_true p179
       replace q179:=eq_true q179
       go_wp2_with (first|((with_reducible refine gate_dst (N:=9) rfl ?_);refine box_event ?hg (N:=9) ?hd (cs:=#[.int .i64 0,.int .i64 0]) (t:=30) ?hr ?_;(case hd=>rfl);(case hg=>rfl);(case hr=>exact vz);intro gb180 hg w35 hbox hb;replace HO_0:=qz HO_0 hb;have BK180:=am (hbox);have GW180:=am ((by rw [hg];exact (by first|exact HK.out.1|exact (show Kept w _ (fun k_=>P0_ k_) from by repeat (first|(with_reducible first|exact HK.out|apply Kept.alloc|apply Kept.drewN|apply Kept.drew|refine Kept.setCell ?_ (.inr GW176.out) _)|exact HK.out)).1):w.heap.size <= gb180));replace HK:=am (Kept.below (S:=(fun k_=>P0_ k_)) (by repeat (first|(with_reducible first|exact HK.out|apply Kept.alloc|apply Kept.drewN|apply Kept.drew|refine Kept.setCell ?_ (.inr GW176.out) _)|exact HK.out)) hb);have GE180:=am ((by rw [hg];exact (below_size (bz1 HB.out GE176.out)):w0.heap.size <= gb180));replace HB:=bs (bz1 HB.out GE176.out) hb;have NB176_180:=am ((by rw [hg];exact Nat.ne_of_lt (blk_lt (kz BK176.out)):gb176≠gb180));have NB180_176:=am ((by rw [hg];exact Nat.ne_of_gt (blk_lt (kz BK176.out)):gb180≠gb176));replace BK176:=kb BK176 hb;clear hb hbox hg;have hnb36:=NB180_176.out;have hnc36:=NB176_180.out;obtain ⟨hcz37_0,hcz37_1⟩:=cz2 BK180.out;obtain ⟨hfz37_0,hfz37_1⟩:=fz2 BK180.out;obtain ⟨hcz38_0,hcz38_1⟩:=cz2 BK176.out;obtain ⟨hfz38_0,hfz38_1⟩:=fz2 BK176.out))
       go_roundg k2
       case measure=>have:=HJ4.out;have:=HK2.out;omega
       case rel=>exact ⟨(x0_2),(wrap64 (x27_2+1)),ez,H',⟨by have:=HJ4.out;have:=HK2.out;omega⟩,⟨by refine rq ?_;first|(with_reducible exact Kd.R_mono (Kd.R_far (p:=⟨gb180,1,none⟩) (Kd.R_far (p:=⟨gb180,0,none⟩) (Kd.R_types HO_0.out BK180.out (by decide)) (fun _ hk=>hk.2) (.int .i64 ((rd_T30 l1 x27_2).f0))) (fun _ hk=>hk.2) (.int .i64 ((rd_T30 l1 x27_2).f1))) (fun _ hk=>hk.1))|exact Kd.R_mono (Kd.R_far (p:=⟨gb180,1,none⟩) (Kd.R_drewN (Kd.R_far (p:=⟨gb180,0,none⟩) (Kd.R_types HO_0.out BK180.out (by decide)) (fun _ hk=>hk.2) (.int .i64 ((rd_T30 l1 x27_2).f0))) _) (fun _ hk=>hk.2) (.int .i64 ((rd_T30 l1 x27_2).f1))) (fun _ hk=>hk.1)⟩,⟨by refine kq ?_;refine blk_far ?_ NB176_180.out _;refine kq ?_;refine blk_far ?_ NB176_180.out _;refine kq ?_;exact BK176.out⟩,⟨by repeat (first|(with_reducible first|exact HK.out|apply Kept.alloc|apply Kept.drewN|apply Kept.drew|refine Kept.setCell ?_ (.inr GW176.out) _|refine Kept.setCell ?_ (.inr GW180.out) _)|exact HK.out)⟩,⟨(bz2 HB.out GE176.out GE180.out)⟩⟩
     ·rw [if_neg c21] at H
      have c21b0:=decide_eq_false c21
      clear c21
      obtain rfl:=Option.some.inj H
      go_wp2
      first|go_end0|((try simp only [Exit.inBlock,Exit.then]);refine bodyPost_ret (results_none rfl _ _ _) rfl ?_)
      exact ⟨gz,by refine rq ?_;exact HO_0.out,(bz1 HB.out GE176.out),by repeat (first|(with_reducible first|exact HK.out|apply Kept.alloc|apply Kept.drewN|apply Kept.drew|refine Kept.setCell ?_ (.inr GW176.out) _)|exact HK.out)⟩
end Go.Proofs.YthmpgocaoccnaaaGreatDoor.PFnFresh
