/- PFnFreshx5, of the words and walks that the law FnFresh needs; made by this session's program out of printed texts. -/
import Derived.Test.YthmpgocaoccnaaaGreatDoorVFnFreshPx0
import Derived.Test.YthmpgocaoccnaaaGreatDoorVFnFreshPx3
import Derived.Test.YthmpgocaoccnaaaGreatDoorVFnFreshPx4
namespace Go.Proofs.YthmpgocaoccnaaaGreatDoor.PFnFresh
open Go.RowKit Go.Proofs.YthmpgocaoccnaaaGreatDoorW.PrintWords Go.Proofs.YthmpgocaoccnaaaGreatDoorW.PrintLast Go.Proofs.YthmpgocaoccnaaaGreatDoorW.PrintMore
attribute [local go_sem] max2_int min2_int max_two min_two max_three min_three max_four min_four
set_option linter.unusedVariables false
set_option linter.unusedSimpArgs false
mutual
def impl_fieldsOk.j0:Nat -> Bool -> Int -> Int -> Int -> Int -> Int -> ByteArray -> ByteArray -> Option (Bool)
 | 0,_,_,_,_,_,_,_,_=>none
 | k+1,x28,x130000,x130001,x130002,x130003,x130004,x130005,x130006=>if x28=true then (some false) else ((some (([x130001,x130002,x130003]:List Int):List Int)).bind fun y135=>(impl_fieldsOk.l0 k y135 (y135.length:Int) 0 x130000 x130001 x130002 x130003 x130004 x130005 x130006))
def impl_fieldsOk.l0:Nat -> List Int -> Int -> Int -> Int -> Int -> Int -> Int -> Int -> ByteArray -> ByteArray -> Option (Bool)
 | 0,_,_,_,_,_,_,_,_,_,_=>none
 | k+1,x35,x36,x37,x130000,x130001,x130002,x130003,x130004,x130005,x130006=>if x37<x36 then (if 0 <= x37 then (if x37<(x35.length:Int) then ((impl_Arity.f k x130000).bind fun t139=>(if x37≥t139 then (if (rd x35 x37)=0 then (impl_fieldsOk.l0 k x35 x36 (wrap64 (x37+1)) x130000 x130001 x130002 x130003 x130004 x130005 x130006) else (some false)) else (impl_fieldsOk.l0 k x35 x36 (wrap64 (x37+1)) x130000 x130001 x130002 x130003 x130004 x130005 x130006))) else (none)) else (none)) else (if x130000=2 then ((impl_in.f x130004 0 65535).bind fun t140=>(some t140)) else (if x130000=8 then ((impl_in.f x130004 0 3).bind fun t141=>(some t141)) else (some (x130004 == 0))))
end
def impl_fieldsOk.f (k:Nat) (a0_0:Int) (a0_1:Int) (a0_2:Int) (a0_3:Int) (a0_4:Int) (a0_5:ByteArray) (a0_6:ByteArray):Option (Bool):=(impl_in.f a0_0 1 19).bind fun t130=>(if t130=true then ((impl_namesOf.f k a0_0).bind fun t131=>((impl_nameFits.f k a0_5 (decide (t131 > 0))).bind fun t132=>(if t132=true then ((impl_namesOf.f k a0_0).bind fun t133=>((impl_nameFits.f k a0_6 (decide (t133 > 1))).bind fun t134=>(impl_fieldsOk.j0 k (!t134) a0_0 a0_1 a0_2 a0_3 a0_4 a0_5 a0_6))) else (impl_fieldsOk.j0 k true a0_0 a0_1 a0_2 a0_3 a0_4 a0_5 a0_6)))) else (impl_fieldsOk.j0 k true a0_0 a0_1 a0_2 a0_3 a0_4 a0_5 a0_6))
theorem impl_fieldsOk.mono_l:∀ k,(∀ y0 y1 y2 y3 y4 y5 y6 y7,LeO (impl_fieldsOk.j0 k y0 y1 y2 y3 y4 y5 y6 y7) (impl_fieldsOk.j0 (k+1) y0 y1 y2 y3 y4 y5 y6 y7)) /\ (∀ y0 y1 y2 y3 y4 y5 y6 y7 y8 y9,LeO (impl_fieldsOk.l0 k y0 y1 y2 y3 y4 y5 y6 y7 y8 y9) (impl_fieldsOk.l0 (k+1) y0 y1 y2 y3 y4 y5 y6 y7 y8 y9))
 | 0=>⟨fun _ _ _ _ _ _ _ _ r h=>by simp [impl_fieldsOk.j0] at h,fun _ _ _ _ _ _ _ _ _ _ r h=>by simp [impl_fieldsOk.l0] at h⟩
 | k+1=>by
  obtain ⟨ih0,ih1⟩:=impl_fieldsOk.mono_l k
  refine ⟨?_,?_⟩
  ·intro y0 y1 y2 y3 y4 y5 y6 y7
   unfold impl_fieldsOk.j0
   with_reducible repeat' first|exact ih0 _ _ _ _ _ _ _ _|exact ih1 _ _ _ _ _ _ _ _ _ _|exact impl_Arity.mono _ _|exact impl_nameFits.mono _ _ _|exact impl_namesOf.mono _ _|exact lrz _|exact lnz _|refine liz ?_ ?_|refine lbz ?_ fun _=>?_
  ·intro y0 y1 y2 y3 y4 y5 y6 y7 y8 y9
   unfold impl_fieldsOk.l0
   with_reducible repeat' first|exact ih0 _ _ _ _ _ _ _ _|exact ih1 _ _ _ _ _ _ _ _ _ _|exact impl_Arity.mono _ _|exact impl_nameFits.mono _ _ _|exact impl_namesOf.mono _ _|exact lrz _|exact lnz _|refine liz ?_ ?_|refine lbz ?_ fun _=>?_
theorem impl_fieldsOk.mono:∀ a0 a1 a2 a3 a4 a5 a6 k,LeO (impl_fieldsOk.f k a0 a1 a2 a3 a4 a5 a6) (impl_fieldsOk.f (k+1) a0 a1 a2 a3 a4 a5 a6):=by
 intro a0 a1 a2 a3 a4 a5 a6 k
 obtain ⟨ih0,ih1⟩:=impl_fieldsOk.mono_l k
 unfold impl_fieldsOk.f
 with_reducible repeat' first|exact ih0 _ _ _ _ _ _ _ _|exact ih1 _ _ _ _ _ _ _ _ _ _|exact impl_Arity.mono _ _|exact impl_nameFits.mono _ _ _|exact impl_namesOf.mono _ _|exact lrz _|exact lnz _|refine liz ?_ ?_|refine lbz ?_ fun _=>?_
def impl_fieldsOk.T1:Bool × List (List Nat × List Nat):=(true,[([],[]),([0],[0]),([1],[1]),([2],[2]),([3,2],[3]),([4],[4]),([5,4],[4,5]),([4],[4]),([7,4],[4,7]),([8,4,4],[4,8]),([9,4],[4,9]),([6,10,9,4],[4,6,10]),([11,4],[4,11]),([4,12],[4,12]),([13,11],[13]),([14],[14]),([15,14],[14,15]),([14],[14]),([17,14],[14,17]),([18,14,14],[14,18]),([19,14],[14,19]),([16,20,19,14],[14,16,20]),([21,14],[14,21]),([14,22],[14,22])])
def impl_fieldsOk.B1:List Nat:=[0,1,3,7,15,31,63,31,159,415,927,2047,4095,8191,16383,32767,65535,32767,163839,425983,950271,2097151,4194303,8388607]
theorem impl_fieldsOk.tab1:rtab .any (opsOf Tryz.f65 1)=impl_fieldsOk.T1:=by kernel_rfl
theorem impl_fieldsOk.bits1:waitsOk impl_fieldsOk.T1.2 impl_fieldsOk.B1=true:=by kernel_rfl
set_option maxHeartbeats 8000000 in
set_option maxRecDepth 100000 in
theorem impl_fieldsOk.calls (k:Nat) (a0_0:Int) (a0_1:Int) (a0_2:Int) (a0_3:Int) (a0_4:Int) (a0_5:ByteArray) (a0_6:ByteArray) (r:Bool) (w:World) (h:impl_fieldsOk.f k a0_0 a0_1 a0_2 a0_3 a0_4 a0_5 a0_6=some r) :
  Calls Tryz.prog 65 #[.agg #[.int .i64 a0_0,.int .i64 a0_1,.int .i64 a0_2,.int .i64 a0_3,.int .i64 a0_4,.string a0_5,.string a0_6]] w fun e w'=>e=.returned (.bool r) /\ Below w.heap.size w w':=by
 have hu45:=Tryz.underlying45
 have HB:=am (Below.refl w.heap.size w)
 have H:((impl_in.f a0_0 1 19).bind fun t130=>(if t130=true then ((impl_namesOf.f k a0_0).bind fun t131=>((impl_nameFits.f k a0_5 (decide (t131 > 0))).bind fun t132=>(if t132=true then ((impl_namesOf.f k a0_0).bind fun t133=>((impl_nameFits.f k a0_6 (decide (t133 > 1))).bind fun t134=>(impl_fieldsOk.j0 k (!t134) a0_0 a0_1 a0_2 a0_3 a0_4 a0_5 a0_6))) else (impl_fieldsOk.j0 k true a0_0 a0_1 a0_2 a0_3 a0_4 a0_5 a0_6)))) else (impl_fieldsOk.j0 k true a0_0 a0_1 a0_2 a0_3 a0_4 a0_5 a0_6)))=some r:=h
 clear h
 have HC2:=am H
 clear H
 go_enter Tryz.func65,Tryz.ntmps65
 go_upto_region 1 with (first|((with_reducible refine gate_dst (N:=1) rfl ?_);refine box_event ?hg (N:=1) ?hd (cs:=#[.int .i64 a0_0,.int .i64 a0_1,.int .i64 a0_2,.int .i64 a0_3,.int .i64 a0_4,.string a0_5,.string a0_6]) (t:=45) ?hr ?_;(case hd=>rfl);(case hg=>rfl);(case hr=>exact vz);intro gb129 hg w3 hbox hb;have BK129:=am (hbox);have GW129:=am ((by rw [hg];exact (below_size (bz0 HB.out)):w.heap.size <= gb129));have GE129:=GW129;replace HB:=bs (bz0 HB.out) hb;clear hb hbox hg))
 (try simp only [Act.put,sz1,sz2,sz3])
 go_cut [28] (fun v28 wc=>∃ (kq:Nat) (x28_1:Bool),v28=.bool x28_1 /\ Aside0 (impl_fieldsOk.j0 kq x28_1 a0_0 a0_1 a0_2 a0_3 a0_4 a0_5 a0_6=some r) /\ Aside0 (kq <= k) /\ Aside0 (wc.heap[gb129]?=some (.cells #[.int .i64 a0_0,.int .i64 a0_1,.int .i64 a0_2,.int .i64 a0_3,.int .i64 a0_4,.string a0_5,.string a0_6] 45 (0,0))) /\ Aside0 (Below w.heap.size w wc))
 case first =>
  have H:=HC2.out
  clear HC2
  replace H:=bi H
  obtain ⟨t130,A40,H⟩:=H
  try dsimp only at H
  have A4:=am A40
  clear A40
  by_cases c5:t130=true
  ·subst c5
   have H1:=hp H
   clear H
   have H:=H1
   clear H1
   replace H:=bi H
   obtain ⟨t131,A60,H⟩:=H
   try dsimp only at H
   have A6:=am A60
   clear A60
   replace H:=bi H
   obtain ⟨t132,A70,H⟩:=H
   try dsimp only at H
   have A7:=am A70
   clear A70
   by_cases c8:t132=true
   ·subst c8
    have H1:=hp H
    clear H
    have H:=H1
    clear H1
    replace H:=bi H
    obtain ⟨t133,A90,H⟩:=H
    try dsimp only at H
    have A9:=am A90
    clear A90
    replace H:=bi H
    obtain ⟨t134,A100,H⟩:=H
    try dsimp only at H
    have A10:=am A100
    clear A100
    have H':=am H
    clear H
    try go_wp2
    have n0_:=am (blk_drew BK129.out)
    have n1_:=am (below_drew1 HB.out)
    clear BK129
    clear HB
    have BK129:=n0_
    have HB:=n1_
    clear n0_ n1_
    refine start_ (n:=24) (S:=fun w'=>w'.cell? ⟨gb129,0,none⟩=some (.int .i64 a0_0) /\ w'.cell? ⟨gb129,1,none⟩=some (.int .i64 a0_1) /\ w'.cell? ⟨gb129,2,none⟩=some (.int .i64 a0_2) /\ w'.cell? ⟨gb129,3,none⟩=some (.int .i64 a0_3) /\ w'.cell? ⟨gb129,4,none⟩=some (.int .i64 a0_4) /\ w'.cell? ⟨gb129,5,none⟩=some (.string a0_5) /\ w'.cell? ⟨gb129,6,none⟩=some (.string a0_6)) (ds:=[]) (mk_ 0 24) kr rfl rfl ⟨(blk_cell BK129.out 0).trans rfl,(blk_cell BK129.out 1).trans rfl,(blk_cell BK129.out 2).trans rfl,(blk_cell BK129.out 3).trans rfl,(blk_cell BK129.out 4).trans rfl,(blk_cell BK129.out 5).trans rfl,(blk_cell BK129.out 6).trans rfl⟩ (fun hHeld=>?_);refine with_tabW impl_fieldsOk.tab1 impl_fieldsOk.bits1 (fun HT_ HW_=>?_)
    generalize w3.drew=w11 at BK129 HB hHeld ⊢
    refine pv 0 5 (mk_ 1 23) HT_ rfl rfl ?_
    refine tv7 1 6 (mk_ 2 22) HT_ HW_ rfl rfl hHeld ?_
    refine one_ (i:=2) (N:=some 7) (mk_ 3 21) rfl rfl (one_of HT_.out kr) (by decide) (fun K hK=>?_)
    refine goes_ Tryz.func47 kr rfl #[.int .i64 a0_0,.int .i64 1,.int .i64 19] (by rfl) rfl rfl lz ?_
    with_reducible refine (impl_in.calls a0_0 1 19 true _ A4.out).mono ?_
    rintro e w' ⟨rfl,⟨nd,rfl⟩⟩
    refine ⟨_,rfl,?_⟩
    refine hK.out _ _ ⟨(blk_cell BK129.out 0).trans rfl,(blk_cell BK129.out 1).trans rfl,(blk_cell BK129.out 2).trans rfl,(blk_cell BK129.out 3).trans rfl,(blk_cell BK129.out 4).trans rfl,(blk_cell BK129.out 5).trans rfl,(blk_cell BK129.out 6).trans rfl⟩ (fun hHeld=>?_)
    clear hK K
    refine norm_ (a':=?_) ?_ ?_
    rotate_left
    ·show Act.put _ (some 7) _=_
     simp only [Act.put,sz1,sz2,sz3,i64_w,i32_w]
     rfl
    refine pv 3 8 (mk_ 4 20) HT_ rfl rfl ?_
    refine pv 4 9 (mk_ 5 19) HT_ rfl rfl ?_
    refine pv 5 10 (mk_ 6 18) HT_ rfl rfl ?_
    refine pv 7 12 (bm_ 24 191) HT_ rfl rfl ?_
    refine tv7 6 11 (mk_ 8 16) HT_ HW_ rfl rfl hHeld ?_
    refine tv7 8 13 (mk_ 9 15) HT_ HW_ rfl rfl hHeld ?_
    refine one_ (i:=9) (N:=some 14) (mk_ 10 14) rfl rfl (one_of HT_.out kr) (by decide) (fun K hK=>?_)
    refine goes_ Tryz.func52 kr rfl #[.int .i64 a0_0] (by rfl) rfl rfl lz ?_
    with_reducible refine (impl_namesOf.calls k a0_0 t131 _ A6.out).mono ?_
    rintro e w' ⟨rfl,⟨nd,rfl⟩⟩
    refine ⟨_,rfl,?_⟩
    refine hK.out _ _ ⟨(blk_cell BK129.out 0).trans rfl,(blk_cell BK129.out 1).trans rfl,(blk_cell BK129.out 2).trans rfl,(blk_cell BK129.out 3).trans rfl,(blk_cell BK129.out 4).trans rfl,(blk_cell BK129.out 5).trans rfl,(blk_cell BK129.out 6).trans rfl⟩ (fun hHeld=>?_)
    clear hK K
    refine norm_ (a':=?_) ?_ ?_
    rotate_left
    ·show Act.put _ (some 14) _=_
     simp only [Act.put,sz1,sz2,sz3,i64_w,i32_w]
     rfl
    refine pv 10 15 (mk_ 11 13) HT_ rfl rfl ?_
    refine one_ (i:=11) (N:=some 16) (mk_ 12 12) rfl rfl (one_of HT_.out kr) (by decide) (fun K hK=>?_)
    refine goes_ Tryz.func82 kr rfl #[.string a0_5,.bool (decide (t131 > 0))] (by rfl) rfl rfl lz ?_
    with_reducible refine (impl_nameFits.calls k a0_5 (decide (t131 > 0)) true _ A7.out).mono ?_
    rintro e w12 ⟨rfl,hb⟩
    refine ⟨_,rfl,?_⟩
    have n0_:=am (blk_below (kz BK129.out) hb)
    have n1_:=am (below_step (bz1 HB.out GE129.out) hb)
    clear BK129
    clear HB
    have BK129:=n0_
    have HB:=n1_
    clear n0_ n1_
    (try clear hb)
    (try clear hb2)
    (try clear hk)
    (try clear hi)
    refine hK.out _ _ ⟨(blk_cell BK129.out 0).trans rfl,(blk_cell BK129.out 1).trans rfl,(blk_cell BK129.out 2).trans rfl,(blk_cell BK129.out 3).trans rfl,(blk_cell BK129.out 4).trans rfl,(blk_cell BK129.out 5).trans rfl,(blk_cell BK129.out 6).trans rfl⟩ (fun hHeld=>?_)
    clear hK K
    refine norm_ (a':=?_) ?_ ?_
    rotate_left
    ·show Act.put _ (some 16) _=_
     simp only [Act.put,sz1,sz2,sz3,i64_w,i32_w]
     rfl
    refine pv 12 17 (mk_ 13 11) HT_ rfl rfl ?_
    refine pv 13 18 (mk_ 14 10) HT_ rfl rfl ?_
    refine pv 14 19 (mk_ 15 9) HT_ rfl rfl ?_
    refine pv 15 20 (mk_ 16 8) HT_ rfl rfl ?_
    refine pv 17 22 (bm_ 24 196607) HT_ rfl rfl ?_
    refine tv7 16 21 (mk_ 18 6) HT_ HW_ rfl rfl hHeld ?_
    refine tv7 18 23 (mk_ 19 5) HT_ HW_ rfl rfl hHeld ?_
    refine one_ (i:=19) (N:=some 24) (mk_ 20 4) rfl rfl (one_of HT_.out kr) (by decide) (fun K hK=>?_)
    refine goes_ Tryz.func52 kr rfl #[.int .i64 a0_0] (by rfl) rfl rfl lz ?_
    with_reducible refine (impl_namesOf.calls k a0_0 t133 _ A9.out).mono ?_
    rintro e w' ⟨rfl,⟨nd,rfl⟩⟩
    refine ⟨_,rfl,?_⟩
    refine hK.out _ _ ⟨(blk_cell BK129.out 0).trans rfl,(blk_cell BK129.out 1).trans rfl,(blk_cell BK129.out 2).trans rfl,(blk_cell BK129.out 3).trans rfl,(blk_cell BK129.out 4).trans rfl,(blk_cell BK129.out 5).trans rfl,(blk_cell BK129.out 6).trans rfl⟩ (fun hHeld=>?_)
    clear hK K
    refine norm_ (a':=?_) ?_ ?_
    rotate_left
    ·show Act.put _ (some 24) _=_
     simp only [Act.put,sz1,sz2,sz3,i64_w,i32_w]
     rfl
    refine pv 20 25 (mk_ 21 3) HT_ rfl rfl ?_
    refine one_ (i:=21) (N:=some 26) (mk_ 22 2) rfl rfl (one_of HT_.out kr) (by decide) (fun K hK=>?_)
    refine goes_ Tryz.func82 kr rfl #[.string a0_6,.bool (decide (t133 > 1))] (by rfl) rfl rfl lz ?_
    with_reducible refine (impl_nameFits.calls k a0_6 (decide (t133 > 1)) t134 _ A10.out).mono ?_
    rintro e w13 ⟨rfl,hb⟩
    refine ⟨_,rfl,?_⟩
    have n0_:=am (blk_below (kz BK129.out) hb)
    have n1_:=am (below_step (bz1 HB.out GE129.out) hb)
    clear BK129
    clear HB
    have BK129:=n0_
    have HB:=n1_
    clear n0_ n1_
    (try clear hb)
    (try clear hb2)
    (try clear hk)
    (try clear hi)
    refine hK.out _ _ ⟨(blk_cell BK129.out 0).trans rfl,(blk_cell BK129.out 1).trans rfl,(blk_cell BK129.out 2).trans rfl,(blk_cell BK129.out 3).trans rfl,(blk_cell BK129.out 4).trans rfl,(blk_cell BK129.out 5).trans rfl,(blk_cell BK129.out 6).trans rfl⟩ (fun hHeld=>?_)
    clear hK K
    refine norm_ (a':=?_) ?_ ?_
    rotate_left
    ·show Act.put _ (some 26) _=_
     simp only [Act.put,sz1,sz2,sz3,i64_w,i32_w]
     rfl
    refine pv 22 27 (mk_ 23 1) HT_ rfl rfl ?_
    refine pv 23 28 (mk_ 24 0) HT_ rfl rfl ?_
    refine done_ (done_of HT_.out kr) ?_
    try go_wp2
    go_meet
    case rel=>exact ⟨_,(!t134),ez,H',⟨by first|omega|exact Nat.le_refl _⟩,⟨by refine kq ?_;exact BK129.out⟩,⟨(bz1 HB.out GE129.out)⟩⟩
   ·replace c8:=Bool.eq_false_iff.mpr c8
    subst c8
    have H1:=hq H
    clear H
    have H:=H1
    clear H1
    have H':=am H
    clear H
    try go_wp2
    have n0_:=am (blk_drew BK129.out)
    have n1_:=am (below_drew1 HB.out)
    clear BK129
    clear HB
    have BK129:=n0_
    have HB:=n1_
    clear n0_ n1_
    refine start_ (n:=24) (S:=fun w'=>w'.cell? ⟨gb129,0,none⟩=some (.int .i64 a0_0) /\ w'.cell? ⟨gb129,1,none⟩=some (.int .i64 a0_1) /\ w'.cell? ⟨gb129,2,none⟩=some (.int .i64 a0_2) /\ w'.cell? ⟨gb129,3,none⟩=some (.int .i64 a0_3) /\ w'.cell? ⟨gb129,4,none⟩=some (.int .i64 a0_4) /\ w'.cell? ⟨gb129,5,none⟩=some (.string a0_5) /\ w'.cell? ⟨gb129,6,none⟩=some (.string a0_6)) (ds:=[]) (mk_ 0 24) kr rfl rfl ⟨(blk_cell BK129.out 0).trans rfl,(blk_cell BK129.out 1).trans rfl,(blk_cell BK129.out 2).trans rfl,(blk_cell BK129.out 3).trans rfl,(blk_cell BK129.out 4).trans rfl,(blk_cell BK129.out 5).trans rfl,(blk_cell BK129.out 6).trans rfl⟩ (fun hHeld=>?_);refine with_tabW impl_fieldsOk.tab1 impl_fieldsOk.bits1 (fun HT_ HW_=>?_)
    generalize w3.drew=w14 at BK129 HB hHeld ⊢
    refine pv 0 5 (mk_ 1 23) HT_ rfl rfl ?_
    refine tv7 1 6 (mk_ 2 22) HT_ HW_ rfl rfl hHeld ?_
    refine one_ (i:=2) (N:=some 7) (mk_ 3 21) rfl rfl (one_of HT_.out kr) (by decide) (fun K hK=>?_)
    refine goes_ Tryz.func47 kr rfl #[.int .i64 a0_0,.int .i64 1,.int .i64 19] (by rfl) rfl rfl lz ?_
    with_reducible refine (impl_in.calls a0_0 1 19 true _ A4.out).mono ?_
    rintro e w' ⟨rfl,⟨nd,rfl⟩⟩
    refine ⟨_,rfl,?_⟩
    refine hK.out _ _ ⟨(blk_cell BK129.out 0).trans rfl,(blk_cell BK129.out 1).trans rfl,(blk_cell BK129.out 2).trans rfl,(blk_cell BK129.out 3).trans rfl,(blk_cell BK129.out 4).trans rfl,(blk_cell BK129.out 5).trans rfl,(blk_cell BK129.out 6).trans rfl⟩ (fun hHeld=>?_)
    clear hK K
    refine norm_ (a':=?_) ?_ ?_
    rotate_left
    ·show Act.put _ (some 7) _=_
     simp only [Act.put,sz1,sz2,sz3,i64_w,i32_w]
     rfl
    refine pv 3 8 (mk_ 4 20) HT_ rfl rfl ?_
    refine pv 4 9 (mk_ 5 19) HT_ rfl rfl ?_
    refine pv 5 10 (mk_ 6 18) HT_ rfl rfl ?_
    refine pv 7 12 (bm_ 24 191) HT_ rfl rfl ?_
    refine tv7 6 11 (mk_ 8 16) HT_ HW_ rfl rfl hHeld ?_
    refine tv7 8 13 (mk_ 9 15) HT_ HW_ rfl rfl hHeld ?_
    refine one_ (i:=9) (N:=some 14) (mk_ 10 14) rfl rfl (one_of HT_.out kr) (by decide) (fun K hK=>?_)
    refine goes_ Tryz.func52 kr rfl #[.int .i64 a0_0] (by rfl) rfl rfl lz ?_
    with_reducible refine (impl_namesOf.calls k a0_0 t131 _ A6.out).mono ?_
    rintro e w' ⟨rfl,⟨nd,rfl⟩⟩
    refine ⟨_,rfl,?_⟩
    refine hK.out _ _ ⟨(blk_cell BK129.out 0).trans rfl,(blk_cell BK129.out 1).trans rfl,(blk_cell BK129.out 2).trans rfl,(blk_cell BK129.out 3).trans rfl,(blk_cell BK129.out 4).trans rfl,(blk_cell BK129.out 5).trans rfl,(blk_cell BK129.out 6).trans rfl⟩ (fun hHeld=>?_)
    clear hK K
    refine norm_ (a':=?_) ?_ ?_
    rotate_left
    ·show Act.put _ (some 14) _=_
     simp only [Act.put,sz1,sz2,sz3,i64_w,i32_w]
     rfl
    refine pv 10 15 (mk_ 11 13) HT_ rfl rfl ?_
    refine one_ (i:=11) (N:=some 16) (mk_ 12 12) rfl rfl (one_of HT_.out kr) (by decide) (fun K hK=>?_)
    refine goes_ Tryz.func82 kr rfl #[.string a0_5,.bool (decide (t131 > 0))] (by rfl) rfl rfl lz ?_
    with_reducible refine (impl_nameFits.calls k a0_5 (decide (t131 > 0)) false _ A7.out).mono ?_
    rintro e w15 ⟨rfl,hb⟩
    refine ⟨_,rfl,?_⟩
    have n0_:=am (blk_below (kz BK129.out) hb)
    have n1_:=am (below_step (bz1 HB.out GE129.out) hb)
    clear BK129
    clear HB
    have BK129:=n0_
    have HB:=n1_
    clear n0_ n1_
    (try clear hb)
    (try clear hb2)
    (try clear hk)
    (try clear hi)
    refine hK.out _ _ ⟨(blk_cell BK129.out 0).trans rfl,(blk_cell BK129.out 1).trans rfl,(blk_cell BK129.out 2).trans rfl,(blk_cell BK129.out 3).trans rfl,(blk_cell BK129.out 4).trans rfl,(blk_cell BK129.out 5).trans rfl,(blk_cell BK129.out 6).trans rfl⟩ (fun hHeld=>?_)
    clear hK K
    refine norm_ (a':=?_) ?_ ?_
    rotate_left
    ·show Act.put _ (some 16) _=_
     simp only [Act.put,sz1,sz2,sz3,i64_w,i32_w]
     rfl
    refine pv 12 17 (mk_ 13 11) HT_ rfl rfl ?_
    refine pv 13 18 (mk_ 14 10) HT_ rfl rfl ?_
    refine pv 14 19 (mk_ 15 9) HT_ rfl rfl ?_
    refine pu 15 20 (mk_ 16 8) HT_ rfl rfl ?_
    refine pu 16 21 (mk_ 17 7) HT_ rfl rfl ?_
    refine pu 17 22 (mk_ 18 6) HT_ rfl rfl ?_
    refine pu 18 23 (mk_ 19 5) HT_ rfl rfl ?_
    refine pu 19 24 (mk_ 20 4) HT_ rfl rfl ?_
    refine pu 20 25 (mk_ 21 3) HT_ rfl rfl ?_
    refine pu 21 26 (mk_ 22 2) HT_ rfl rfl ?_
    refine pu 22 27 (mk_ 23 1) HT_ rfl rfl ?_
    refine pv 23 28 (mk_ 24 0) HT_ rfl rfl ?_
    refine done_ (done_of HT_.out kr) ?_
    try go_wp2
    go_meet
    case rel=>exact ⟨_,(true),ez,H',⟨by first|omega|exact Nat.le_refl _⟩,⟨by refine kq ?_;exact BK129.out⟩,⟨(bz1 HB.out GE129.out)⟩⟩
  ·replace c5:=Bool.eq_false_iff.mpr c5
   subst c5
   have H1:=hq H
   clear H
   have H:=H1
   clear H1
   have H':=am H
   clear H
   try go_wp2
   have n0_:=am (blk_drew BK129.out)
   have n1_:=am (below_drew1 HB.out)
   clear BK129
   clear HB
   have BK129:=n0_
   have HB:=n1_
   clear n0_ n1_
   refine start_ (n:=24) (S:=fun w'=>w'.cell? ⟨gb129,0,none⟩=some (.int .i64 a0_0) /\ w'.cell? ⟨gb129,1,none⟩=some (.int .i64 a0_1) /\ w'.cell? ⟨gb129,2,none⟩=some (.int .i64 a0_2) /\ w'.cell? ⟨gb129,3,none⟩=some (.int .i64 a0_3) /\ w'.cell? ⟨gb129,4,none⟩=some (.int .i64 a0_4) /\ w'.cell? ⟨gb129,5,none⟩=some (.string a0_5) /\ w'.cell? ⟨gb129,6,none⟩=some (.string a0_6)) (ds:=[]) (mk_ 0 24) kr rfl rfl ⟨(blk_cell BK129.out 0).trans rfl,(blk_cell BK129.out 1).trans rfl,(blk_cell BK129.out 2).trans rfl,(blk_cell BK129.out 3).trans rfl,(blk_cell BK129.out 4).trans rfl,(blk_cell BK129.out 5).trans rfl,(blk_cell BK129.out 6).trans rfl⟩ (fun hHeld=>?_);refine with_tabW impl_fieldsOk.tab1 impl_fieldsOk.bits1 (fun HT_ HW_=>?_)
   generalize w3.drew=w16 at BK129 HB hHeld ⊢
   refine pv 0 5 (mk_ 1 23) HT_ rfl rfl ?_
   refine tv7 1 6 (mk_ 2 22) HT_ HW_ rfl rfl hHeld ?_
   refine one_ (i:=2) (N:=some 7) (mk_ 3 21) rfl rfl (one_of HT_.out kr) (by decide) (fun K hK=>?_)
   refine goes_ Tryz.func47 kr rfl #[.int .i64 a0_0,.int .i64 1,.int .i64 19] (by rfl) rfl rfl lz ?_
   with_reducible refine (impl_in.calls a0_0 1 19 false _ A4.out).mono ?_
   rintro e w' ⟨rfl,⟨nd,rfl⟩⟩
   refine ⟨_,rfl,?_⟩
   refine hK.out _ _ ⟨(blk_cell BK129.out 0).trans rfl,(blk_cell BK129.out 1).trans rfl,(blk_cell BK129.out 2).trans rfl,(blk_cell BK129.out 3).trans rfl,(blk_cell BK129.out 4).trans rfl,(blk_cell BK129.out 5).trans rfl,(blk_cell BK129.out 6).trans rfl⟩ (fun hHeld=>?_)
   clear hK K
   refine norm_ (a':=?_) ?_ ?_
   rotate_left
   ·show Act.put _ (some 7) _=_
    simp only [Act.put,sz1,sz2,sz3,i64_w,i32_w]
    rfl
   refine pv 3 8 (mk_ 4 20) HT_ rfl rfl ?_
   refine pv 4 9 (mk_ 5 19) HT_ rfl rfl ?_
   refine pu 5 10 (mk_ 6 18) HT_ rfl rfl ?_
   refine pu 6 11 (mk_ 7 17) HT_ rfl rfl ?_
   refine pu 7 12 (mk_ 8 16) HT_ rfl rfl ?_
   refine pu 8 13 (mk_ 9 15) HT_ rfl rfl ?_
   refine pu 9 14 (mk_ 10 14) HT_ rfl rfl ?_
   refine pu 10 15 (mk_ 11 13) HT_ rfl rfl ?_
   refine pu 11 16 (mk_ 12 12) HT_ rfl rfl ?_
   refine pu 12 17 (mk_ 13 11) HT_ rfl rfl ?_
   refine pv 13 18 (mk_ 14 10) HT_ rfl rfl ?_
   refine pv 14 19 (mk_ 15 9) HT_ rfl rfl ?_
   refine pu 15 20 (mk_ 16 8) HT_ rfl rfl ?_
   refine pu 16 21 (mk_ 17 7) HT_ rfl rfl ?_
   refine pu 17 22 (mk_ 18 6) HT_ rfl rfl ?_
   refine pu 18 23 (mk_ 19 5) HT_ rfl rfl ?_
   refine pu 19 24 (mk_ 20 4) HT_ rfl rfl ?_
   refine pu 20 25 (mk_ 21 3) HT_ rfl rfl ?_
   refine pu 21 26 (mk_ 22 2) HT_ rfl rfl ?_
   refine pu 22 27 (mk_ 23 1) HT_ rfl rfl ?_
   refine pv 23 28 (mk_ 24 0) HT_ rfl rfl ?_
   refine done_ (done_of HT_.out kr) ?_
   try go_wp2
   go_meet
   case rel=>exact ⟨_,(true),ez,H',⟨by first|omega|exact Nat.le_refl _⟩,⟨by refine kq ?_;exact BK129.out⟩,⟨(bz1 HB.out GE129.out)⟩⟩
 case rest =>
  clear HC2
  try clear p2
  try clear c4
  try clear c5
  try clear c8
  obtain ⟨kq,x28_1,rfl,HA,HJ1,BK129,HB⟩:=hcut
  cases kq with
  | zero=>exact absurd HA.out (by simp [impl_fieldsOk.j0])
  | succ kj1 =>
   have H:=HA.out
   clear HA
   simp only [impl_fieldsOk.j0] at H
   by_cases c17:x28_1=true
   ·subst c17
    have H1:=hp H
    clear H
    have H:=H1
    clear H1
    obtain rfl:=Option.some.inj H
    go_wp2
    go_ret
    exact ⟨gz,(bz1 HB.out GE129.out)⟩
   ·replace c17:=Bool.eq_false_iff.mpr c17
    subst c17
    have H1:=hq H
    clear H
    have H:=H1
    clear H1
    obtain ⟨y135,hy135⟩:∃ y_:List Int,y_=(([a0_1,a0_2,a0_3]:List Int)):=⟨_,rfl⟩
    replace H:(impl_fieldsOk.l0 kj1 y135 (y135.length:Int) 0 a0_0 a0_1 a0_2 a0_3 a0_4 a0_5 a0_6)=some r:=yz hy135 H
    have Ny135:=am hy135
    clear hy135
    have H':=am H
    clear H
    obtain ⟨hcz18_0,hcz18_1,hcz18_2,hcz18_3,hcz18_4,hcz18_5,hcz18_6⟩:=cz7 BK129.out
    obtain ⟨hfz18_0,hfz18_1,hfz18_2,hfz18_3,hfz18_4,hfz18_5,hfz18_6⟩:=fz7 BK129.out
    go_wp2_with (first|((with_reducible refine gate_dst (N:=35) rfl ?_);refine Kd.R_lit (Kd.int .i64) _ 3 ?hg (N:=35) ?hd (xs:=([a0_1,a0_2,a0_3]:List Int)) (inner:=[.int .i64 a0_1,.int .i64 a0_2,.int .i64 a0_3]) (ok:=fun _=>True) (okp:=fun _=>True) ?hr ?hp (fun _ hk=>hk) trivial (Below.refl _ _) (Nat.le_refl _) (by simp) ?_;(case hd=>rfl);(case hg=>rfl);(case hr=>exact vz);(case hp=>exact (Reps.one (show Kd.M (Kd.int .i64) _ _ _ a0_1 [.int .i64 a0_1] from rfl) (Reps.one (show Kd.M (Kd.int .i64) _ _ _ a0_2 [.int .i64 a0_2] from rfl) (Reps.one (show Kd.M (Kd.int .i64) _ _ _ a0_3 [.int .i64 a0_3] from rfl) (Reps.none _ _)))));intro v136 w19 ho20 hb hg_ hnew_;clear hg_ hnew_;(first|rw [<- Ny135.out] at ho20|(simp only [Int.reduceToNat] at ho20;rw [<- Ny135.out] at ho20));have HO137:=am (Kd.R_lower ho20 (below_size (bz1 HB.out GE129.out)));replace BK129:=kb BK129 hb;replace HB:=bs (bz1 HB.out GE129.out) hb;clear hb ho20;obtain ⟨Ao21,co21,eo21⟩:=Kd.R_slice HO137.out;subst eo21))
    (try simp only [Act.put,sz1,sz2,sz3])
    go_loopg [37] kj1 (fun kq v37 w'=>∃ (x37_2:Int),v37=.int .i64 x37_2 /\ Aside0 (impl_fieldsOk.l0 kq y135 (y135.length:Int) x37_2 a0_0 a0_1 a0_2 a0_3 a0_4 a0_5 a0_6=some r) /\ Aside0 (kq <= kj1) /\ Aside0 (Kd.R (Kd.int .i64) 3 w' w.heap.size (fun _=>True) (.slice Ao21 y135.length co21) y135) /\ Aside0 (w'.heap[gb129]?=some (.cells #[.int .i64 a0_0,.int .i64 a0_1,.int .i64 a0_2,.int .i64 a0_3,.int .i64 a0_4,.string a0_5,.string a0_6] 45 (0,0))) /\ Aside0 (Below w.heap.size w w'))
    case atStart=>exact ⟨(0),ez,H',⟨Nat.le_refl _⟩,⟨by refine rq ?_;exact HO137.out⟩,⟨by refine kq ?_;exact BK129.out⟩,⟨(bz1 HB.out GE129.out)⟩⟩
    case round =>
     clear H'
     try clear c1
     try clear p2
     try clear c4
     try clear c5
     try clear c8
     try clear c17
     try clear hcz18_0 hcz18_1 hcz18_2 hcz18_3 hcz18_4 hcz18_5 hcz18_6
     try clear hfz18_0 hfz18_1 hfz18_2 hfz18_3 hfz18_4 hfz18_5 hfz18_6
     try clear p2
     obtain ⟨x37_2,rfl,HA,HK2,HO_35,BK129,HB⟩:=hrel
     cases gk with
     | zero=>exact absurd HA.out (by simp [impl_fieldsOk.l0])
     | succ k2 =>
      have H:=HA.out
      clear HA
      simp only [impl_fieldsOk.l0] at H
      by_cases c22:x37_2<(y135.length:Int)
      ·rw [if_pos c22] at H
       have c22b0:=decide_eq_true c22
       clear c22
       replace H:=iz H
       obtain ⟨c23,H⟩:=H
       have c23b0:=decide_eq_true c23
       clear c23
       replace H:=iz H
       obtain ⟨c24,H⟩:=H
       have c24b0:=decide_eq_true c24
       clear c24
       replace H:=bi H
       obtain ⟨t139,A250,H⟩:=H
       try dsimp only at H
       have A25:=am A250
       clear A250
       by_cases c26:x37_2≥t139
       ·rw [if_pos c26] at H
        have c26b0:decide (t139 <= x37_2)=true:=decide_eq_true c26
        clear c26
        by_cases c27:(rd y135 x37_2)=0
        ·rw [if_pos c27] at H
         have c27b0:((rd y135 x37_2) == 0)=true:=beq_iff_eq.mpr c27
         have c27b1:((rd y135 x37_2) != 0)=false:=bne_eq_false_iff_eq.mpr c27
         clear c27
         have H':=am H
         clear H
         have p138:0 <= (x37_2:Int):=oz
         have q138:x37_2<(y135.length:Int):=oz
         obtain ⟨ad138,e138,hx138_0⟩:=Kd.at_int (Kd.R_reads' HO_35.out).2.2 x37_2 p138 q138
         cases e138
         replace p138:=eq_true p138
         replace q138:=eq_true q138
         obtain ⟨hcz28_0,hcz28_1,hcz28_2,hcz28_3,hcz28_4,hcz28_5,hcz28_6⟩:=cz7 BK129.out
         obtain ⟨hfz28_0,hfz28_1,hfz28_2,hfz28_3,hfz28_4,hfz28_5,hfz28_6⟩:=fz7 BK129.out
         go_wp2_with (first|((with_reducible refine gate_callee (f:=83) rfl ?_);refine goesL_ (some 45) rfl rfl Tryz.func83 kr rfl #[.int .i64 a0_0] rfl lz ?_;(with_reducible refine (impl_Arity.calls k2 a0_0 t139 _ A25.out).mono ?_);rintro e w' ⟨rfl,⟨nd,rfl⟩⟩;refine ⟨_,rfl,?_⟩))
         go_roundg k2
         case measure=>have:=HJ1.out;have:=HK2.out;omega
         case rel=>exact ⟨(wrap64 (x37_2+1)),ez,H',⟨by have:=HJ1.out;have:=HK2.out;omega⟩,⟨by refine rq ?_;exact HO_35.out⟩,⟨by refine kq ?_;exact BK129.out⟩,⟨(bz1 HB.out GE129.out)⟩⟩
        ·rw [if_neg c27] at H
         have c27b0:((rd y135 x37_2) == 0)=false:=beq_eq_false_iff_ne.mpr c27
         have c27b1:((rd y135 x37_2) != 0)=true:=bne_iff_ne.mpr c27
         obtain rfl:=Option.some.inj H
         have p138:0 <= (x37_2:Int):=oz
         have q138:x37_2<(y135.length:Int):=oz
         obtain ⟨ad138,e138,hx138_0⟩:=Kd.at_int (Kd.R_reads' HO_35.out).2.2 x37_2 p138 q138
         cases e138
         replace p138:=eq_true p138
         replace q138:=eq_true q138
         obtain ⟨hcz29_0,hcz29_1,hcz29_2,hcz29_3,hcz29_4,hcz29_5,hcz29_6⟩:=cz7 BK129.out
         obtain ⟨hfz29_0,hfz29_1,hfz29_2,hfz29_3,hfz29_4,hfz29_5,hfz29_6⟩:=fz7 BK129.out
         go_wp2_with (first|((with_reducible refine gate_callee (f:=83) rfl ?_);refine goesL_ (some 45) rfl rfl Tryz.func83 kr rfl #[.int .i64 a0_0] rfl lz ?_;(with_reducible refine (impl_Arity.calls k2 a0_0 t139 _ A25.out).mono ?_);rintro e w' ⟨rfl,⟨nd,rfl⟩⟩;refine ⟨_,rfl,?_⟩))
         go_ret
         exact ⟨gz,(bz1 HB.out GE129.out)⟩
       ·rw [if_neg c26] at H
        have c26b0:decide (t139 <= x37_2)=false:=decide_eq_false c26
        clear c26
        have H':=am H
        clear H
        have p138:0 <= (x37_2:Int):=oz
        have q138:x37_2<(y135.length:Int):=oz
        obtain ⟨ad138,e138,hx138_0⟩:=Kd.at_int (Kd.R_reads' HO_35.out).2.2 x37_2 p138 q138
        cases e138
        replace p138:=eq_true p138
        replace q138:=eq_true q138
        obtain ⟨hcz30_0,hcz30_1,hcz30_2,hcz30_3,hcz30_4,hcz30_5,hcz30_6⟩:=cz7 BK129.out
        obtain ⟨hfz30_0,hfz30_1,hfz30_2,hfz30_3,hfz30_4,hfz30_5,hfz30_6⟩:=fz7 BK129.out
        go_wp2_with (first|((with_reducible refine gate_callee (f:=83) rfl ?_);refine goesL_ (some 45) rfl rfl Tryz.func83 kr rfl #[.int .i64 a0_0] rfl lz ?_;(with_reducible refine (impl_Arity.calls k2 a0_0 t139 _ A25.out).mono ?_);rintro e w' ⟨rfl,⟨nd,rfl⟩⟩;refine ⟨_,rfl,?_⟩))
        go_roundg k2
        case measure=>have:=HJ1.out;have:=HK2.out;omega
        case rel=>exact ⟨(wrap64 (x37_2+1)),ez,H',⟨by have:=HJ1.out;have:=HK2.out;omega⟩,⟨by refine rq ?_;exact HO_35.out⟩,⟨by refine kq ?_;exact BK129.out⟩,⟨(bz1 HB.out GE129.out)⟩⟩
      ·rw [if_neg c22] at H
       have c22b0:=decide_eq_false c22
       clear c22
       by_cases c31:a0_0=2
       ·rw [if_pos c31] at H
        have c31b0:(a0_0 == 2)=true:=beq_iff_eq.mpr c31
        have c31b1:(a0_0 != 2)=false:=bne_eq_false_iff_eq.mpr c31
        clear c31
        replace H:=bi H
        obtain ⟨t140,A320,H⟩:=H
        try dsimp only at H
        have A32:=am A320
        clear A320
        obtain rfl:=Option.some.inj H
        obtain ⟨hcz33_0,hcz33_1,hcz33_2,hcz33_3,hcz33_4,hcz33_5,hcz33_6⟩:=cz7 BK129.out
        obtain ⟨hfz33_0,hfz33_1,hfz33_2,hfz33_3,hfz33_4,hfz33_5,hfz33_6⟩:=fz7 BK129.out
        go_wp2_with (first|((with_reducible refine gate_callee (f:=47) rfl ?_);refine goesL_ (some 58) rfl rfl Tryz.func47 kr rfl #[.int .i64 a0_4,.int .i64 0,.int .i64 65535] rfl lz ?_;(with_reducible refine (impl_in.calls a0_4 0 65535 t140 _ A32.out).mono ?_);rintro e w' ⟨rfl,⟨nd,rfl⟩⟩;refine ⟨_,rfl,?_⟩))
        go_ret
        exact ⟨gz,(bz1 HB.out GE129.out)⟩
       ·rw [if_neg c31] at H
        have c31b0:(a0_0 == 2)=false:=beq_eq_false_iff_ne.mpr c31
        have c31b1:(a0_0 != 2)=true:=bne_iff_ne.mpr c31
        by_cases c34:a0_0=8
        ·rw [if_pos c34] at H
         have c34b0:(a0_0 == 8)=true:=beq_iff_eq.mpr c34
         have c34b1:(a0_0 != 8)=false:=bne_eq_false_iff_eq.mpr c34
         clear c34
         replace H:=bi H
         obtain ⟨t141,A350,H⟩:=H
         try dsimp only at H
         have A35:=am A350
         clear A350
         obtain rfl:=Option.some.inj H
         obtain ⟨hcz36_0,hcz36_1,hcz36_2,hcz36_3,hcz36_4,hcz36_5,hcz36_6⟩:=cz7 BK129.out
         obtain ⟨hfz36_0,hfz36_1,hfz36_2,hfz36_3,hfz36_4,hfz36_5,hfz36_6⟩:=fz7 BK129.out
         go_wp2_with (first|((with_reducible refine gate_callee (f:=47) rfl ?_);refine goesL_ (some 63) rfl rfl Tryz.func47 kr rfl #[.int .i64 a0_4,.int .i64 0,.int .i64 3] rfl lz ?_;(with_reducible refine (impl_in.calls a0_4 0 3 t141 _ A35.out).mono ?_);rintro e w' ⟨rfl,⟨nd,rfl⟩⟩;refine ⟨_,rfl,?_⟩))
         go_ret
         exact ⟨gz,(bz1 HB.out GE129.out)⟩
        ·rw [if_neg c34] at H
         have c34b0:(a0_0 == 8)=false:=beq_eq_false_iff_ne.mpr c34
         have c34b1:(a0_0 != 8)=true:=bne_iff_ne.mpr c34
         obtain rfl:=Option.some.inj H
         obtain ⟨hcz37_0,hcz37_1,hcz37_2,hcz37_3,hcz37_4,hcz37_5,hcz37_6⟩:=cz7 BK129.out
         obtain ⟨hfz37_0,hfz37_1,hfz37_2,hfz37_3,hfz37_4,hfz37_5,hfz37_6⟩:=fz7 BK129.out
         go_wp2
         go_ret
         exact ⟨gz,(bz1 HB.out GE129.out)⟩
end Go.Proofs.YthmpgocaoccnaaaGreatDoor.PFnFresh
