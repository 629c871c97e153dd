/- PFnFreshx23, of the words and walks that the law FnFresh needs; made by this session's program out of printed texts. -/
import Derived.Test.YthmpgocaoccnaaaGreatDoorVFnFreshPx0
import Derived.Test.YthmpgocaoccnaaaGreatDoorVFnFreshPx18
import Derived.Test.YthmpgocaoccnaaaGreatDoorVFnFreshPx22
namespace Go.Proofs.YthmpgocaoccnaaaGreatDoor.PFnFresh
open Go.RowKit Go.Proofs.YthmpgocaoccnaaaGreatDoorW.PrintWords Go.Proofs.YthmpgocaoccnaaaGreatDoorW.PrintLast Go.Proofs.YthmpgocaoccnaaaGreatDoorW.PrintMore
attribute [local go_sem] max2_int min2_int max_two min_two max_three min_three max_four min_four
set_option linter.unusedVariables false
set_option linter.unusedSimpArgs false
attribute [local go_sem high] eqA30
mutual
def spec_UsesOf.l0:Nat -> List (S45) -> List Int -> Int -> Int -> Int -> Option (List Int)
 | 0,_,_,_,_,_=>none
 | k+1,x0,x5,x6,x708000,x708001=>if x6<(x0.length:Int) then ((spec_NodesOk.f k x0).bind fun t711=>(if t711=true then (spec_UsesOf.j1 k x0 x5 x6 (decide (x708000≥0)) x708000 x708001) else (spec_UsesOf.j1 k x0 x5 x6 false x708000 x708001))) else (spec_UsesOf.j1 k x0 x5 x6 false x708000 x708001)
def spec_UsesOf.j1:Nat -> List (S45) -> List Int -> Int -> Bool -> Int -> Int -> Option (List Int)
 | 0,_,_,_,_,_,_=>none
 | k+1,x0,x5,x6,x20,x708000,x708001=>if x20=true then (if 0 <= x6 then (if x6<(x0.length:Int) then (if ((rd_T45 x0 x6).f0)=1 then ((spec_BinderOf.f k x0 x6).bind fun bt713=>(if (bt713.1 == x708000 && (bt713.2 == x708001))=true then (if x5.length<17592186044416 then (spec_UsesOf.l0 k x0 (x5++[x6]) (wrap64 (x6+1)) x708000 x708001) else (none)) else (spec_UsesOf.l0 k x0 x5 (wrap64 (x6+1)) x708000 x708001))) else (spec_UsesOf.l0 k x0 x5 (wrap64 (x6+1)) x708000 x708001)) else (none)) else (none)) else (some x5)
end
def spec_UsesOf.f (k:Nat) (l0:List (S45)) (a1_0:Int) (a1_1:Int):Option (List Int):=spec_UsesOf.l0 k l0 (([]:List Int)) 0 a1_0 a1_1
theorem spec_UsesOf.mono_l:∀ k,(∀ y0 y1 y2 y3 y4,LeO (spec_UsesOf.l0 k y0 y1 y2 y3 y4) (spec_UsesOf.l0 (k+1) y0 y1 y2 y3 y4)) /\ (∀ y0 y1 y2 y3 y4 y5,LeO (spec_UsesOf.j1 k y0 y1 y2 y3 y4 y5) (spec_UsesOf.j1 (k+1) y0 y1 y2 y3 y4 y5))
 | 0=>⟨fun _ _ _ _ _ r h=>by simp [spec_UsesOf.l0] at h,fun _ _ _ _ _ _ r h=>by simp [spec_UsesOf.j1] at h⟩
 | k+1=>by
  obtain ⟨ih0,ih1⟩:=spec_UsesOf.mono_l k
  refine ⟨?_,?_⟩
  ·intro y0 y1 y2 y3 y4
   unfold spec_UsesOf.l0
   with_reducible repeat' first|exact ih0 _ _ _ _ _|exact ih1 _ _ _ _ _ _|exact spec_BinderOf.mono _ _ _|exact spec_NodesOk.mono _ _|exact lrz _|exact lnz _|refine liz ?_ ?_|refine lbz ?_ fun _=>?_
  ·intro y0 y1 y2 y3 y4 y5
   unfold spec_UsesOf.j1
   with_reducible repeat' first|exact ih0 _ _ _ _ _|exact ih1 _ _ _ _ _ _|exact spec_BinderOf.mono _ _ _|exact spec_NodesOk.mono _ _|exact lrz _|exact lnz _|refine liz ?_ ?_|refine lbz ?_ fun _=>?_
theorem spec_UsesOf.mono:∀ a0 a1 a2 k,LeO (spec_UsesOf.f k a0 a1 a2) (spec_UsesOf.f (k+1) a0 a1 a2):=by
 intro a0 a1 a2 k
 obtain ⟨ih0,ih1⟩:=spec_UsesOf.mono_l k
 unfold spec_UsesOf.f
 with_reducible repeat' first|exact ih0 _ _ _ _ _|exact ih1 _ _ _ _ _ _|exact spec_BinderOf.mono _ _ _|exact spec_NodesOk.mono _ _|exact lrz _|exact lnz _|refine liz ?_ ?_|refine lbz ?_ fun _=>?_
def spec_UsesOf.T5:Bool × List (List Nat × List Nat):=(true,[([],[]),([],[]),([0,1],[0,1]),([2],[2]),([3],[3]),([4],[4]),([5],[5]),([6],[6]),([6],[6]),([7,8,6,6],[6,7,8]),([6],[6]),([9,10,6],[6,9,10]),([6,11],[6,11])])
def spec_UsesOf.B5:List Nat:=[0,0,3,7,15,31,63,127,127,511,127,2047,4095]
theorem spec_UsesOf.tab5:rtab .any (opsOf Tryz.f28 5)=spec_UsesOf.T5:=by kernel_rfl
theorem spec_UsesOf.bits5:waitsOk spec_UsesOf.T5.2 spec_UsesOf.B5=true:=by kernel_rfl
set_option maxHeartbeats 8000000 in
set_option maxRecDepth 100000 in
theorem spec_UsesOf.calls (k:Nat) (A0:Option Addr) (c0:Nat) (l0:List (S45)) (a1_0:Int) (a1_1:Int) (r:List Int) (w:World) (hr0:Kd.C k45 w A0 l0.length l0) (hc0:l0.length <= c0) (h:spec_UsesOf.f k l0 a1_0 a1_1=some r) :
  Calls Tryz.prog 28 #[.slice A0 l0.length c0,.agg #[.int .i64 a1_0,.int .i64 a1_1]] w fun e w'=>∃ v0_:Value,e=.returned (v0_) /\ Kd.R (Kd.int .i64) 3 w' w.heap.size (fun _=>True) v0_ r /\ Below w.heap.size w w':=by
 have hu30:=Tryz.underlying30
 have HR0:=am hr0
 have HC0:=am hc0
 clear hr0 hc0
 have HB:=am (Below.refl w.heap.size w)
 have H:(spec_UsesOf.l0 k l0 (([]:List Int)) 0 a1_0 a1_1)=some r:=h
 clear h
 obtain ⟨y708,hy708⟩:∃ y_:List Int,y_=(([]:List Int)):=⟨_,rfl⟩
 replace H:(spec_UsesOf.l0 k l0 y708 0 a1_0 a1_1)=some r:=yz hy708 H
 have Ny708:=am hy708
 clear hy708
 have H':=am H
 clear H
 go_enter Tryz.func28,Tryz.ntmps28
 go_wp2_with (first|((with_reducible refine gate_dst (N:=3) rfl ?_);refine box_event ?hg (N:=3) ?hd (cs:=#[.int .i64 a1_0,.int .i64 a1_1]) (t:=30) ?hr ?_;(case hd=>rfl);(case hg=>rfl);(case hr=>exact vz);intro gb707 hg w3 hbox hb;have BK707:=am (hbox);have GW707:=am ((by rw [hg];exact (below_size (bz0 HB.out)):w.heap.size <= gb707));have GE707:=GW707;replace HB:=bs (bz0 HB.out) hb;clear hb hbox hg)|((with_reducible refine gate_dst (N:=7) rfl ?_);refine Kd.R_lit (Kd.int .i64) _ 3 ?hg (N:=7) ?hd (xs:=([]:List Int)) (inner:=[]) (ok:=fun _=>True) (okp:=fun _=>True) ?hr ?hp (fun _ hk=>hk) trivial (Below.refl _ _) (Nat.le_refl _) (by simp) ?_;(case hd=>rfl);(case hg=>rfl);(case hr=>exact vz);(case hp=>exact (Reps.none _ _));intro v709 w4 ho5 hb hg_ hnew_;clear hg_ hnew_;(first|rw [<- Ny708.out] at ho5|(simp only [Int.reduceToNat] at ho5;rw [<- Ny708.out] at ho5));have HO710:=am (Kd.R_lower ho5 (below_size (bz1 HB.out GE707.out)));replace BK707:=kb BK707 hb;replace HB:=bs (bz1 HB.out GE707.out) hb;clear hb ho5))
 (try simp only [Act.put,sz1,sz2,sz3])
 go_loopg [5,6] k (fun kq v5 v6 w'=>∃ (x5_1:List Int) (x6_1:Int),v6=.int .i64 x6_1 /\ Aside0 (spec_UsesOf.l0 kq l0 x5_1 x6_1 a1_0 a1_1=some r) /\ Aside0 (kq <= k) /\ Aside0 (Kd.R (Kd.int .i64) 3 w' w.heap.size (fun _=>True) v5 x5_1) /\ Aside0 (w'.heap[gb707]?=some (.cells #[.int .i64 a1_0,.int .i64 a1_1] 30 (0,0))) /\ Aside0 (Below w.heap.size w w'))
 case atStart=>exact ⟨(y708),(0),ez,H',⟨Nat.le_refl _⟩,⟨by refine rq ?_;exact HO710.out⟩,⟨by refine kq ?_;exact BK707.out⟩,⟨(bz1 HB.out GE707.out)⟩⟩
 case round =>
  clear H'
  try clear c2
  try clear p2
  obtain ⟨x5_1,x6_1,rfl,HA,HK1,HO_5,BK707,HB⟩:=hrel
  cases gk with
  | zero=>exact absurd HA.out (by simp [spec_UsesOf.l0])
  | succ k1 =>
   have H:=HA.out
   clear HA
   simp only [spec_UsesOf.l0] at H
   have HC6:=am H
   clear H
   go_upto_region 3 with (fail)
   go_cut [20] (fun v20 wc=>∃ (kq:Nat) (x20_5:Bool),v20=.bool x20_5 /\ Aside0 (spec_UsesOf.j1 kq l0 x5_1 x6_1 x20_5 a1_0 a1_1=some r) /\ Aside0 (kq <= k1) /\ Aside0 (Kd.R (Kd.int .i64) 3 wc w.heap.size (fun _=>True) u5 x5_1) /\ Aside0 (wc.heap[gb707]?=some (.cells #[.int .i64 a1_0,.int .i64 a1_1] 30 (0,0))) /\ Aside0 (Below w.heap.size w wc))
   case first =>
    have H:=HC6.out
    clear HC6
    by_cases c7:x6_1<(l0.length:Int)
    ·rw [if_pos c7] at H
     have c7b0:=decide_eq_true c7
     clear c7
     (first|rw [c7b0]|(simp only [i64_w,i32_w];rw [c7b0])|skip)
     replace H:=bi H
     obtain ⟨t711,A80,H⟩:=H
     try dsimp only at H
     have A8:=am A80
     clear A80
     by_cases c9:t711=true
     ·subst c9
      have H1:=hp H
      clear H
      have H:=H1
      clear H1
      have H':=am H
      clear H
      go_wp2_with (first|(go_at_call 15;(with_reducible refine (spec_NodesOk.calls k1 _ _ l0 true _ ?side1 ?side2 A8.out).mono ?_);(case side1=>exact cz (Kd.C_below HR0.out HB.out));(case side2=>exact HC0.out);rintro e w10 ⟨rfl,hb⟩;replace HO_5:=qz HO_5 hb;replace BK707:=kb BK707 hb;replace HB:=bs (bz1 HB.out GE707.out) hb;(try clear hb);obtain ⟨hcz11_0,hcz11_1⟩:=cz2 BK707.out;obtain ⟨hfz11_0,hfz11_1⟩:=fz2 BK707.out))
      go_meet
      case rel=>exact ⟨_,(decide (a1_0≥0)),ez,H',⟨by have:=HK1.out;first|omega|exact Nat.le_refl _⟩,⟨by refine rq ?_;exact HO_5.out⟩,⟨by refine kq ?_;exact BK707.out⟩,⟨(bz1 HB.out GE707.out)⟩⟩
     ·replace c9:=Bool.eq_false_iff.mpr c9
      subst c9
      have H1:=hq H
      clear H
      have H:=H1
      clear H1
      have H':=am H
      clear H
      go_wp2_with (first|(go_at_call 15;(with_reducible refine (spec_NodesOk.calls k1 _ _ l0 false _ ?side1 ?side2 A8.out).mono ?_);(case side1=>exact cz (Kd.C_below HR0.out HB.out));(case side2=>exact HC0.out);rintro e w12 ⟨rfl,hb⟩;replace HO_5:=qz HO_5 hb;replace BK707:=kb BK707 hb;replace HB:=bs (bz1 HB.out GE707.out) hb;(try clear hb);(try clear hi)))
      go_meet
      case rel=>exact ⟨_,(false),ez,H',⟨by have:=HK1.out;first|omega|exact Nat.le_refl _⟩,⟨by refine rq ?_;exact HO_5.out⟩,⟨by refine kq ?_;exact BK707.out⟩,⟨(bz1 HB.out GE707.out)⟩⟩
    ·rw [if_neg c7] at H
     have c7b0:=decide_eq_false c7
     clear c7
     (first|rw [c7b0]|(simp only [i64_w,i32_w];rw [c7b0])|skip)
     have H':=am H
     clear H
     go_wp2
     go_meet
     case rel=>exact ⟨_,(false),ez,H',⟨by have:=HK1.out;first|omega|exact Nat.le_refl _⟩,⟨by refine rq ?_;exact HO_5.out⟩,⟨by refine kq ?_;exact BK707.out⟩,⟨(bz1 HB.out GE707.out)⟩⟩
   case rest =>
    clear HC6
    try clear c2
    try clear p2
    try clear c7
    try clear c7b0
    try clear c9
    try clear hcz11_0 hcz11_1
    try clear hfz11_0 hfz11_1
    try clear p2
    obtain ⟨kq,x20_5,rfl,HA,HJ5,HO_5,BK707,HB⟩:=hcut
    cases kq with
    | zero=>exact absurd HA.out (by simp [spec_UsesOf.j1])
    | succ kj5 =>
     have H:=HA.out
     clear HA
     simp only [spec_UsesOf.j1] at H
     by_cases c13:x20_5=true
     ·subst c13
      have H1:=hp H
      clear H
      have H:=H1
      clear H1
      replace H:=iz H
      obtain ⟨c14,H⟩:=H
      have c14b0:=decide_eq_true c14
      clear c14
      replace H:=iz H
      obtain ⟨c15,H⟩:=H
      have c15b0:=decide_eq_true c15
      clear c15
      by_cases c16:((rd_T45 l0 x6_1).f0)=1
      ·rw [if_pos c16] at H
       have c16b0:(((rd_T45 l0 x6_1).f0) == 1)=true:=beq_iff_eq.mpr c16
       have c16b1:(((rd_T45 l0 x6_1).f0) != 1)=false:=bne_eq_false_iff_eq.mpr c16
       clear c16
       replace H:=bi H
       obtain ⟨⟨t713,t714⟩,A170,H⟩:=H
       try dsimp only at H
       have A17:=am A170
       clear A170
       by_cases c18:(t713 == a1_0 && (t714 == a1_1))=true
       ·rw [if_pos c18] at H
        have c18b0:(t713 == a1_0 && (t714 == a1_1))=true:=c18
        (try (have c18b1:decide (t713=a1_0 && (t714 == a1_1))=true:=by simpa using c18))
        (try (have c18b2:(t713 == a1_0 && (t714 == a1_1))=true:=by simpa using c18))
        clear c18
        replace H:=iz H
        obtain ⟨c19,H⟩:=H
        have LMc19:=am c19
        clear c19
        obtain ⟨y715,hy715⟩:∃ y_:List Int,y_=(x5_1++[x6_1]):=⟨_,rfl⟩
        replace H:(spec_UsesOf.l0 kj5 l0 y715 (wrap64 (x6_1+1)) a1_0 a1_1)=some r:=yz hy715 H
        have Ny715:=am hy715
        clear hy715
        have H':=am H
        clear H
        try go_wp2
        have n0_:=am (Kd.R_drew HO_5.out)
        have n1_:=am (blk_drew BK707.out)
        have n2_:=am (below_drew1 HB.out)
        clear HO_5
        clear BK707
        clear HB
        have HO_5:=n0_
        have BK707:=n1_
        have HB:=n2_
        clear n0_ n1_ n2_
        have p712:0 <= (x6_1:Int):=oz
        have q712:x6_1<(l0.length:Int):=oz
        obtain ⟨ad712,e712,hx712_0,hx712_1,hx712_2,hx712_3,hx712_4,hx712_5,hx712_6⟩:=at_T45 HR0.out x6_1 p712 q712
        have hw712_6:=hx712_6
        have hw712_5:=hx712_5
        have hw712_4:=hx712_4
        have hw712_3:=hx712_3
        have hw712_2:=hx712_2
        have hw712_1:=hx712_1
        have hw712_0:=hx712_0
        cases e712
        replace hx712_0:=hz HB.out hx712_0
        replace hx712_1:=hz HB.out hx712_1
        replace hx712_2:=hz HB.out hx712_2
        replace hx712_3:=hz HB.out hx712_3
        replace hx712_4:=hz HB.out hx712_4
        replace hx712_5:=hz HB.out hx712_5
        replace hx712_6:=hz HB.out hx712_6
        replace p712:=eq_true p712
        replace q712:=eq_true q712
        refine start_ (n:=13) (S:=fun w'=>w'.cell? ⟨gb707,0,none⟩=some (.int .i64 a1_0) /\ w'.cell? ⟨gb707,1,none⟩=some (.int .i64 a1_1) /\ w'.cell? (ad712.add ((x6_1).toNat * 7))=some (.int .i64 ((rd_T45 l0 x6_1).f0)) /\ w'.cell? ⟨(ad712.add ((x6_1).toNat * 7)).block,(ad712.add ((x6_1).toNat * 7)).off+1,none⟩=some (.int .i64 ((rd_T45 l0 x6_1).f1)) /\ w'.cell? ⟨(ad712.add ((x6_1).toNat * 7)).block,(ad712.add ((x6_1).toNat * 7)).off+2,none⟩=some (.int .i64 ((rd_T45 l0 x6_1).f2)) /\ w'.cell? ⟨(ad712.add ((x6_1).toNat * 7)).block,(ad712.add ((x6_1).toNat * 7)).off+3,none⟩=some (.int .i64 ((rd_T45 l0 x6_1).f3)) /\ w'.cell? ⟨(ad712.add ((x6_1).toNat * 7)).block,(ad712.add ((x6_1).toNat * 7)).off+4,none⟩=some (.int .i64 ((rd_T45 l0 x6_1).f4)) /\ w'.cell? ⟨(ad712.add ((x6_1).toNat * 7)).block,(ad712.add ((x6_1).toNat * 7)).off+5,none⟩=some (.string ((rd_T45 l0 x6_1).f5)) /\ w'.cell? ⟨(ad712.add ((x6_1).toNat * 7)).block,(ad712.add ((x6_1).toNat * 7)).off+6,none⟩=some (.string ((rd_T45 l0 x6_1).f6))) (ds:=[]) (mk_ 0 13) kr rfl rfl ⟨(blk_cell BK707.out 0).trans rfl,(blk_cell BK707.out 1).trans rfl,(hz HB.out hw712_0 :),(hz HB.out hw712_1 :),(hz HB.out hw712_2 :),(hz HB.out hw712_3 :),(hz HB.out hw712_4 :),(hz HB.out hw712_5 :),(hz HB.out hw712_6 :)⟩ (fun hHeld=>?_);refine with_tabW spec_UsesOf.tab5 spec_UsesOf.bits5 (fun HT_ HW_=>?_)
        generalize wc.drew=w20 at HO_5 BK707 HB hx712_0 hx712_1 hx712_2 hx712_3 hx712_4 hx712_5 hx712_6 hHeld ⊢
        refine pv 0 23 (mk_ 1 12) HT_ rfl rfl ?_
        refine pv 1 24 (mk_ 2 11) HT_ rfl rfl ?_
        refine pv 2 25 (mk_ 3 10) HT_ rfl rfl ?_
        refine pv 3 26 (mk_ 4 9) HT_ rfl rfl ?_
        refine tv9 4 27 (mk_ 5 8) HT_ HW_ rfl rfl hHeld ?_
        refine pv 5 28 (mk_ 6 7) HT_ rfl rfl ?_
        refine pv 6 29 (mk_ 7 6) HT_ rfl rfl ?_
        refine pv 7 30 (mk_ 8 5) HT_ rfl rfl ?_
        refine pv 8 31 (mk_ 9 4) HT_ rfl rfl ?_
        refine tv9 10 33 (bm_ 13 1535) HT_ HW_ rfl rfl hHeld ?_
        refine one_ (i:=9) (N:=some 32) (mk_ 11 2) rfl rfl (one_of HT_.out kr) (by decide) (fun K hK=>?_)
        refine goes_ Tryz.func51 kr rfl #[.slice (some ad712) l0.length c0,.int .i64 x6_1] (by rfl) rfl rfl lz ?_
        with_reducible refine (spec_BinderOf.calls kj5 _ _ l0 x6_1 t713 t714 _ ?side1 ?side2 A17.out).mono ?_
        (case side1=>exact cz (Kd.C_below HR0.out HB.out))
        (case side2=>exact HC0.out)
        rintro e w21 ⟨rfl,hb⟩
        refine ⟨_,rfl,?_⟩
        have n0_:=qz HO_5 hb
        have n1_:=am (blk_below (kz BK707.out) hb)
        have n2_:=am (below_step (bz1 HB.out GE707.out) hb)
        clear HO_5
        clear BK707
        clear HB
        have HO_5:=n0_
        have BK707:=n1_
        have HB:=n2_
        clear n0_ n1_ n2_
        (try clear hb)
        (try clear hb2)
        (try clear hk)
        (try clear hi)
        refine hK.out _ _ ⟨(blk_cell BK707.out 0).trans rfl,(blk_cell BK707.out 1).trans rfl,(hz HB.out hw712_0 :),(hz HB.out hw712_1 :),(hz HB.out hw712_2 :),(hz HB.out hw712_3 :),(hz HB.out hw712_4 :),(hz HB.out hw712_5 :),(hz HB.out hw712_6 :)⟩ (fun hHeld=>?_)
        clear hK K
        refine norm_ (a':=?_) ?_ ?_
        rotate_left
        ·show Act.put _ (some 32) _=_
         simp only [Act.put,sz1,sz2,sz3,i64_w,i32_w]
         rfl
        refine pv 11 34 (mk_ 12 1) HT_ rfl rfl ?_
        refine pv 12 35 (mk_ 13 0) HT_ rfl rfl ?_
        refine done_ (done_of HT_.out kr) ?_
        try go_wp2_with (first|((with_reducible refine gate_builtin (b:=.append) (xs:=#[.tmp 36,.tmp 38]) rfl ?_);at_builtin;refine Kd.R_append (Kd.int .i64) (w0:=w) w.heap.size rfl (.tmp 36) (.tmp 38) 53 3 (.int .i64 0) 8 rfl Tryz.underlying53 info3 rfl (by decide) (by omega) u5 x5_1 x6_1 [.int .i64 x6_1] (fun _=>True) (fun _=>False) rfl rfl ?aP (fun _ hk=>hk.elim) ?aF ?aO ?aB ?aS ?aL ?_;(case aP=>exact rfl);(case aB=>exact (bz1 HB.out GE707.out));(case aF=>exact (fun _ _=>trivial));(case aO=>exact (rz HO_5.out));(case aS=>exact (below_size (bz1 HB.out GE707.out)));(case aL=>have:=LMc19.out;omega);intro v716 w22 ho hb hg hat;rw [<- Ny715.out] at ho;have n0_:=am (blk_grown (g:=gb707) (o:=.cells #[.int .i64 a1_0,.int .i64 a1_1] 30 (0,0)) (kz BK707.out) hg (Kd.R_ne HO_5.out BK707.out (by decide)));have n1_:=am (hb);have n2_:=am (ho);clear BK707;clear HB;clear HO_5;have BK707:=n0_;have HB:=n1_;have HO717:=n2_;clear n0_ n1_ n2_;clear ho hb hg hat))
        go_roundg kj5
        case measure=>have:=HK1.out;have:=HJ5.out;omega
        case rel=>exact ⟨(y715),(wrap64 (x6_1+1)),ez,H',⟨by have:=HK1.out;have:=HJ5.out;omega⟩,⟨by refine rq ?_;exact HO717.out⟩,⟨by refine kq ?_;exact BK707.out⟩,⟨(bz1 HB.out GE707.out)⟩⟩
       ·rw [if_neg c18] at H
        have c18b0:(t713 == a1_0 && (t714 == a1_1))=false:=by simpa using c18
        (try (have c18b1:decide (t713=a1_0 && (t714 == a1_1))=false:=by simpa using c18))
        (try (have c18b2:(t713 == a1_0 && (t714 == a1_1))=false:=by simpa using c18))
        (try (have c18b3:¬ (t713=a1_0 && (t714 == a1_1)):=by simpa using c18))
        clear c18
        have H':=am H
        clear H
        try go_wp2
        have n0_:=am (Kd.R_drew HO_5.out)
        have n1_:=am (blk_drew BK707.out)
        have n2_:=am (below_drew1 HB.out)
        clear HO_5
        clear BK707
        clear HB
        have HO_5:=n0_
        have BK707:=n1_
        have HB:=n2_
        clear n0_ n1_ n2_
        have p712:0 <= (x6_1:Int):=oz
        have q712:x6_1<(l0.length:Int):=oz
        obtain ⟨ad712,e712,hx712_0,hx712_1,hx712_2,hx712_3,hx712_4,hx712_5,hx712_6⟩:=at_T45 HR0.out x6_1 p712 q712
        have hw712_6:=hx712_6
        have hw712_5:=hx712_5
        have hw712_4:=hx712_4
        have hw712_3:=hx712_3
        have hw712_2:=hx712_2
        have hw712_1:=hx712_1
        have hw712_0:=hx712_0
        cases e712
        replace hx712_0:=hz HB.out hx712_0
        replace hx712_1:=hz HB.out hx712_1
        replace hx712_2:=hz HB.out hx712_2
        replace hx712_3:=hz HB.out hx712_3
        replace hx712_4:=hz HB.out hx712_4
        replace hx712_5:=hz HB.out hx712_5
        replace hx712_6:=hz HB.out hx712_6
        replace p712:=eq_true p712
        replace q712:=eq_true q712
        refine start_ (n:=13) (S:=fun w'=>w'.cell? ⟨gb707,0,none⟩=some (.int .i64 a1_0) /\ w'.cell? ⟨gb707,1,none⟩=some (.int .i64 a1_1) /\ w'.cell? (ad712.add ((x6_1).toNat * 7))=some (.int .i64 ((rd_T45 l0 x6_1).f0)) /\ w'.cell? ⟨(ad712.add ((x6_1).toNat * 7)).block,(ad712.add ((x6_1).toNat * 7)).off+1,none⟩=some (.int .i64 ((rd_T45 l0 x6_1).f1)) /\ w'.cell? ⟨(ad712.add ((x6_1).toNat * 7)).block,(ad712.add ((x6_1).toNat * 7)).off+2,none⟩=some (.int .i64 ((rd_T45 l0 x6_1).f2)) /\ w'.cell? ⟨(ad712.add ((x6_1).toNat * 7)).block,(ad712.add ((x6_1).toNat * 7)).off+3,none⟩=some (.int .i64 ((rd_T45 l0 x6_1).f3)) /\ w'.cell? ⟨(ad712.add ((x6_1).toNat * 7)).block,(ad712.add ((x6_1).toNat * 7)).off+4,none⟩=some (.int .i64 ((rd_T45 l0 x6_1).f4)) /\ w'.cell? ⟨(ad712.add ((x6_1).toNat * 7)).block,(ad712.add ((x6_1).toNat * 7)).off+5,none⟩=some (.string ((rd_T45 l0 x6_1).f5)) /\ w'.cell? ⟨(ad712.add ((x6_1).toNat * 7)).block,(ad712.add ((x6_1).toNat * 7)).off+6,none⟩=some (.string ((rd_T45 l0 x6_1).f6))) (ds:=[]) (mk_ 0 13) kr rfl rfl ⟨(blk_cell BK707.out 0).trans rfl,(blk_cell BK707.out 1).trans rfl,(hz HB.out hw712_0 :),(hz HB.out hw712_1 :),(hz HB.out hw712_2 :),(hz HB.out hw712_3 :),(hz HB.out hw712_4 :),(hz HB.out hw712_5 :),(hz HB.out hw712_6 :)⟩ (fun hHeld=>?_);refine with_tabW spec_UsesOf.tab5 spec_UsesOf.bits5 (fun HT_ HW_=>?_)
        generalize wc.drew=w23 at HO_5 BK707 HB hx712_0 hx712_1 hx712_2 hx712_3 hx712_4 hx712_5 hx712_6 hHeld ⊢
        refine pv 0 23 (mk_ 1 12) HT_ rfl rfl ?_
        refine pv 1 24 (mk_ 2 11) HT_ rfl rfl ?_
        refine pv 2 25 (mk_ 3 10) HT_ rfl rfl ?_
        refine pv 3 26 (mk_ 4 9) HT_ rfl rfl ?_
        refine tv9 4 27 (mk_ 5 8) HT_ HW_ rfl rfl hHeld ?_
        refine pv 5 28 (mk_ 6 7) HT_ rfl rfl ?_
        refine pv 6 29 (mk_ 7 6) HT_ rfl rfl ?_
        refine pv 7 30 (mk_ 8 5) HT_ rfl rfl ?_
        refine pv 8 31 (mk_ 9 4) HT_ rfl rfl ?_
        refine tv9 10 33 (bm_ 13 1535) HT_ HW_ rfl rfl hHeld ?_
        refine one_ (i:=9) (N:=some 32) (mk_ 11 2) rfl rfl (one_of HT_.out kr) (by decide) (fun K hK=>?_)
        refine goes_ Tryz.func51 kr rfl #[.slice (some ad712) l0.length c0,.int .i64 x6_1] (by rfl) rfl rfl lz ?_
        with_reducible refine (spec_BinderOf.calls kj5 _ _ l0 x6_1 t713 t714 _ ?side1 ?side2 A17.out).mono ?_
        (case side1=>exact cz (Kd.C_below HR0.out HB.out))
        (case side2=>exact HC0.out)
        rintro e w24 ⟨rfl,hb⟩
        refine ⟨_,rfl,?_⟩
        have n0_:=qz HO_5 hb
        have n1_:=am (blk_below (kz BK707.out) hb)
        have n2_:=am (below_step (bz1 HB.out GE707.out) hb)
        clear HO_5
        clear BK707
        clear HB
        have HO_5:=n0_
        have BK707:=n1_
        have HB:=n2_
        clear n0_ n1_ n2_
        (try clear hb)
        (try clear hb2)
        (try clear hk)
        (try clear hi)
        refine hK.out _ _ ⟨(blk_cell BK707.out 0).trans rfl,(blk_cell BK707.out 1).trans rfl,(hz HB.out hw712_0 :),(hz HB.out hw712_1 :),(hz HB.out hw712_2 :),(hz HB.out hw712_3 :),(hz HB.out hw712_4 :),(hz HB.out hw712_5 :),(hz HB.out hw712_6 :)⟩ (fun hHeld=>?_)
        clear hK K
        refine norm_ (a':=?_) ?_ ?_
        rotate_left
        ·show Act.put _ (some 32) _=_
         simp only [Act.put,sz1,sz2,sz3,i64_w,i32_w]
         rfl
        refine pv 11 34 (mk_ 12 1) HT_ rfl rfl ?_
        refine pv 12 35 (mk_ 13 0) HT_ rfl rfl ?_
        refine done_ (done_of HT_.out kr) ?_
        try go_wp2
        go_roundg kj5
        case measure=>have:=HK1.out;have:=HJ5.out;omega
        case rel=>exact ⟨(x5_1),(wrap64 (x6_1+1)),ez,H',⟨by have:=HK1.out;have:=HJ5.out;omega⟩,⟨by refine rq ?_;exact HO_5.out⟩,⟨by refine kq ?_;exact BK707.out⟩,⟨(bz1 HB.out GE707.out)⟩⟩
      ·rw [if_neg c16] at H
       have c16b0:(((rd_T45 l0 x6_1).f0) == 1)=false:=beq_eq_false_iff_ne.mpr c16
       have c16b1:(((rd_T45 l0 x6_1).f0) != 1)=true:=bne_iff_ne.mpr c16
       have H':=am H
       clear H
       try go_wp2
       have n0_:=am (Kd.R_drew HO_5.out)
       have n1_:=am (blk_drew BK707.out)
       have n2_:=am (below_drew1 HB.out)
       clear HO_5
       clear BK707
       clear HB
       have HO_5:=n0_
       have BK707:=n1_
       have HB:=n2_
       clear n0_ n1_ n2_
       have p712:0 <= (x6_1:Int):=oz
       have q712:x6_1<(l0.length:Int):=oz
       obtain ⟨ad712,e712,hx712_0,hx712_1,hx712_2,hx712_3,hx712_4,hx712_5,hx712_6⟩:=at_T45 HR0.out x6_1 p712 q712
       have hw712_6:=hx712_6
       have hw712_5:=hx712_5
       have hw712_4:=hx712_4
       have hw712_3:=hx712_3
       have hw712_2:=hx712_2
       have hw712_1:=hx712_1
       have hw712_0:=hx712_0
       cases e712
       replace hx712_0:=hz HB.out hx712_0
       replace hx712_1:=hz HB.out hx712_1
       replace hx712_2:=hz HB.out hx712_2
       replace hx712_3:=hz HB.out hx712_3
       replace hx712_4:=hz HB.out hx712_4
       replace hx712_5:=hz HB.out hx712_5
       replace hx712_6:=hz HB.out hx712_6
       replace p712:=eq_true p712
       replace q712:=eq_true q712
       refine start_ (n:=13) (S:=fun w'=>w'.cell? (ad712.add ((x6_1).toNat * 7))=some (.int .i64 ((rd_T45 l0 x6_1).f0)) /\ w'.cell? ⟨(ad712.add ((x6_1).toNat * 7)).block,(ad712.add ((x6_1).toNat * 7)).off+1,none⟩=some (.int .i64 ((rd_T45 l0 x6_1).f1)) /\ w'.cell? ⟨(ad712.add ((x6_1).toNat * 7)).block,(ad712.add ((x6_1).toNat * 7)).off+2,none⟩=some (.int .i64 ((rd_T45 l0 x6_1).f2)) /\ w'.cell? ⟨(ad712.add ((x6_1).toNat * 7)).block,(ad712.add ((x6_1).toNat * 7)).off+3,none⟩=some (.int .i64 ((rd_T45 l0 x6_1).f3)) /\ w'.cell? ⟨(ad712.add ((x6_1).toNat * 7)).block,(ad712.add ((x6_1).toNat * 7)).off+4,none⟩=some (.int .i64 ((rd_T45 l0 x6_1).f4)) /\ w'.cell? ⟨(ad712.add ((x6_1).toNat * 7)).block,(ad712.add ((x6_1).toNat * 7)).off+5,none⟩=some (.string ((rd_T45 l0 x6_1).f5)) /\ w'.cell? ⟨(ad712.add ((x6_1).toNat * 7)).block,(ad712.add ((x6_1).toNat * 7)).off+6,none⟩=some (.string ((rd_T45 l0 x6_1).f6))) (ds:=[]) (mk_ 0 13) kr rfl rfl ⟨(hz HB.out hw712_0 :),(hz HB.out hw712_1 :),(hz HB.out hw712_2 :),(hz HB.out hw712_3 :),(hz HB.out hw712_4 :),(hz HB.out hw712_5 :),(hz HB.out hw712_6 :)⟩ (fun hHeld=>?_);refine with_tabW spec_UsesOf.tab5 spec_UsesOf.bits5 (fun HT_ HW_=>?_)
       generalize wc.drew=w25 at HO_5 BK707 HB hx712_0 hx712_1 hx712_2 hx712_3 hx712_4 hx712_5 hx712_6 hHeld ⊢
       refine pv 0 23 (mk_ 1 12) HT_ rfl rfl ?_
       refine pv 1 24 (mk_ 2 11) HT_ rfl rfl ?_
       refine pv 2 25 (mk_ 3 10) HT_ rfl rfl ?_
       refine pv 3 26 (mk_ 4 9) HT_ rfl rfl ?_
       refine tv7 4 27 (mk_ 5 8) HT_ HW_ rfl rfl hHeld ?_
       refine pv 5 28 (mk_ 6 7) HT_ rfl rfl ?_
       refine pv 6 29 (mk_ 7 6) HT_ rfl rfl ?_
       refine pu 7 30 (mk_ 8 5) HT_ rfl rfl ?_
       refine pu 8 31 (mk_ 9 4) HT_ rfl rfl ?_
       refine pu 9 32 (mk_ 10 3) HT_ rfl rfl ?_
       refine pu 10 33 (mk_ 11 2) HT_ rfl rfl ?_
       refine pu 11 34 (mk_ 12 1) HT_ rfl rfl ?_
       refine pv 12 35 (mk_ 13 0) HT_ rfl rfl ?_
       refine done_ (done_of HT_.out kr) ?_
       try go_wp2
       go_roundg kj5
       case measure=>have:=HK1.out;have:=HJ5.out;omega
       case rel=>exact ⟨(x5_1),(wrap64 (x6_1+1)),ez,H',⟨by have:=HK1.out;have:=HJ5.out;omega⟩,⟨by refine rq ?_;exact HO_5.out⟩,⟨by refine kq ?_;exact BK707.out⟩,⟨(bz1 HB.out GE707.out)⟩⟩
     ·replace c13:=Bool.eq_false_iff.mpr c13
      subst c13
      have H1:=hq H
      clear H
      have H:=H1
      clear H1
      obtain rfl:=Option.some.inj H
      go_wp2
      go_ret
      exact ⟨_,gz,by refine rq ?_;exact HO_5.out,(bz1 HB.out GE707.out)⟩
end Go.Proofs.YthmpgocaoccnaaaGreatDoor.PFnFresh
