/- PFnFreshx18, of the words and walks that the law FnFresh needs; made by this session's program out of printed texts. -/
import Derived.Test.YthmpgocaoccnaaaGreatDoorVFnFreshPx0
import Derived.Test.YthmpgocaoccnaaaGreatDoorVFnFreshPx13
import Derived.Test.YthmpgocaoccnaaaGreatDoorVFnFreshPx16
import Derived.Test.YthmpgocaoccnaaaGreatDoorVFnFreshPx17
namespace Go.Proofs.YthmpgocaoccnaaaGreatDoor.PFnFresh
open Go.RowKit Go.Proofs.YthmpgocaoccnaaaGreatDoorW.PrintWords Go.Proofs.YthmpgocaoccnaaaGreatDoorW.PrintLast Go.Proofs.YthmpgocaoccnaaaGreatDoorW.PrintMore
attribute [local go_sem] max2_int min2_int max_two min_two max_three min_three max_four min_four
set_option linter.unusedVariables false
set_option linter.unusedSimpArgs false
def spec_Kids.f (k:Nat) (a0_0:Int) (a0_1:Int) (a0_2:Int) (a0_3:Int) (a0_4:Int) (a0_5:ByteArray) (a0_6:ByteArray):Option (List Int):=(some (([a0_1,a0_2,a0_3]:List Int):List Int)).bind fun y569=>((spec_Arity.f k a0_0).bind fun t572=>(if 0 <= t572 then (if t572 <= (y569.length:Int) then (some (y569.take (t572:Int).toNat)) else (none)) else (none)))
theorem spec_Kids.mono:∀ a0 a1 a2 a3 a4 a5 a6 k,LeO (spec_Kids.f k a0 a1 a2 a3 a4 a5 a6) (spec_Kids.f (k+1) a0 a1 a2 a3 a4 a5 a6):=by
 intro a0 a1 a2 a3 a4 a5 a6 k
 unfold spec_Kids.f
 with_reducible repeat' first|exact spec_Arity.mono _ _|exact lrz _|exact lnz _|refine liz ?_ ?_|refine lbz ?_ fun _=>?_
def spec_Kids.T1:Bool × List (List Nat × List Nat):=(true,[([],[]),([0],[0]),([],[]),([2],[2]),([],[]),([4],[4]),([1,3,5],[1,3,5]),([],[]),([7],[7]),([8],[8]),([6,9],[6,9]),([10,9,0,1,2,3,4,5,6,7,8,9,10],[10])])
def spec_Kids.B1:List Nat:=[0,1,0,4,0,16,63,0,128,384,1023,2047]
theorem spec_Kids.tab1:rtab .any (opsOf Tryz.f61 1)=spec_Kids.T1:=by kernel_rfl
theorem spec_Kids.bits1:waitsOk spec_Kids.T1.2 spec_Kids.B1=true:=by kernel_rfl
set_option maxHeartbeats 8000000 in
set_option maxRecDepth 100000 in
theorem spec_Kids.calls (k:Nat) (a0_0:Int) (a0_1:Int) (a0_2:Int) (a0_3:Int) (a0_4:Int) (a0_5:ByteArray) (a0_6:ByteArray) (r:List Int) (w:World) (h:spec_Kids.f k a0_0 a0_1 a0_2 a0_3 a0_4 a0_5 a0_6=some r) :
  Calls Tryz.prog 61 #[.agg #[.int .i64 a0_0,.int .i64 a0_1,.int .i64 a0_2,.int .i64 a0_3,.int .i64 a0_4,.string a0_5,.string a0_6]] w fun e w'=>∃ v0_:Value,e=.returned (v0_) /\ Kd.R (Kd.int .i64) 3 w' w.heap.size (fun _=>True) v0_ r /\ Below w.heap.size w w':=by
 have hu45:=Tryz.underlying45
 have HB:=am (Below.refl w.heap.size w)
 have H:((some (([a0_1,a0_2,a0_3]:List Int):List Int)).bind fun y569=>((spec_Arity.f k a0_0).bind fun t572=>(if 0 <= t572 then (if t572 <= (y569.length:Int) then (some (y569.take (t572:Int).toNat)) else (none)) else (none))))=some r:=h
 clear h
 obtain ⟨y569,hy569⟩:∃ y_:List Int,y_=(([a0_1,a0_2,a0_3]:List Int)):=⟨_,rfl⟩
 replace H:((spec_Arity.f k a0_0).bind fun t572=>(if 0 <= t572 then (if t572 <= (y569.length:Int) then (some (y569.take (t572:Int).toNat)) else (none)) else (none)))=some r:=yz hy569 H
 have Ny569:=am hy569
 clear hy569
 replace H:=bi H
 obtain ⟨t572,A20,H⟩:=H
 try dsimp only at H
 have A2:=am A20
 clear A20
 replace H:=iz H
 obtain ⟨c3,H⟩:=H
 have c3b0:=eq_true c3
 have c3b1:decide (0 <= t572)=true:=decide_eq_true c3
 clear c3
 replace H:=iz H
 obtain ⟨c4,H⟩:=H
 have c4b0:=eq_true c4
 have c4b1:decide (t572 <= (y569.length:Int))=true:=decide_eq_true c4
 clear c4
 obtain ⟨y573,hy573⟩:∃ y_:List Int,y_=(y569.take (t572:Int).toNat):=⟨_,rfl⟩
 replace H:(some y573)=some r:=yz hy573 H
 have Ny573:=am hy573
 clear hy573
 obtain rfl:=Option.some.inj H
 go_enter Tryz.func61,Tryz.ntmps61
 try go_wp2_with (first|((with_reducible refine gate_dst (N:=1) rfl ?_);refine box_event ?hg (N:=1) ?hd (cs:=#[.int .i64 a0_0,.int .i64 a0_1,.int .i64 a0_2,.int .i64 a0_3,.int .i64 a0_4,.string a0_5,.string a0_6]) (t:=45) ?hr ?_;(case hd=>rfl);(case hg=>rfl);(case hr=>exact vz);intro gb568 hg w5 hbox hb;have BK568:=am (hbox);have GW568:=am ((by rw [hg];exact (below_size (bz0 HB.out)):w.heap.size <= gb568));have GE568:=GW568;replace HB:=bs (bz0 HB.out) hb;clear hb hbox hg))
 have n0_:=am (blk_drew BK568.out)
 have n1_:=am (below_drew1 HB.out)
 clear BK568
 clear HB
 have BK568:=n0_
 have HB:=n1_
 clear n0_ n1_
 refine start_ (n:=12) (S:=fun w'=>w'.cell? ⟨gb568,0,none⟩=some (.int .i64 a0_0) /\ w'.cell? ⟨gb568,1,none⟩=some (.int .i64 a0_1) /\ w'.cell? ⟨gb568,2,none⟩=some (.int .i64 a0_2) /\ w'.cell? ⟨gb568,3,none⟩=some (.int .i64 a0_3) /\ w'.cell? ⟨gb568,4,none⟩=some (.int .i64 a0_4) /\ w'.cell? ⟨gb568,5,none⟩=some (.string a0_5) /\ w'.cell? ⟨gb568,6,none⟩=some (.string a0_6)) (ds:=[]) (mk_ 0 12) kr rfl rfl ⟨(blk_cell BK568.out 0).trans rfl,(blk_cell BK568.out 1).trans rfl,(blk_cell BK568.out 2).trans rfl,(blk_cell BK568.out 3).trans rfl,(blk_cell BK568.out 4).trans rfl,(blk_cell BK568.out 5).trans rfl,(blk_cell BK568.out 6).trans rfl⟩ (fun hHeld=>?_);refine with_tabW spec_Kids.tab1 spec_Kids.bits1 (fun HT_ HW_=>?_)
 generalize w5.drew=w6 at BK568 HB hHeld ⊢
 refine pv 0 3 (mk_ 1 11) HT_ rfl rfl ?_
 refine pv 2 5 (bm_ 12 5) HT_ rfl rfl ?_
 refine pv 4 7 (bm_ 12 21) HT_ rfl rfl ?_
 refine pv 7 10 (bm_ 12 149) HT_ rfl rfl ?_
 refine tv7 1 4 (bm_ 12 151) HT_ HW_ rfl rfl hHeld ?_
 refine tv7 3 6 (bm_ 12 159) HT_ HW_ rfl rfl hHeld ?_
 refine tv7 5 8 (bm_ 12 191) HT_ HW_ rfl rfl hHeld ?_
 refine tv7 8 11 (bm_ 12 447) HT_ HW_ rfl rfl hHeld ?_
 refine join_ (σ:=Value) 2 #[true,true,true,true,true,true,true,true,true,true,false,false] (fun s_=>[(9,s_),(12,.int .i64 t572)]) (fun s_ w'=>(w'.cell? ⟨gb568,0,none⟩=some (.int .i64 a0_0) /\ w'.cell? ⟨gb568,1,none⟩=some (.int .i64 a0_1) /\ w'.cell? ⟨gb568,2,none⟩=some (.int .i64 a0_2) /\ w'.cell? ⟨gb568,3,none⟩=some (.int .i64 a0_3) /\ w'.cell? ⟨gb568,4,none⟩=some (.int .i64 a0_4) /\ w'.cell? ⟨gb568,5,none⟩=some (.string a0_5) /\ w'.cell? ⟨gb568,6,none⟩=some (.string a0_6)) /\ (Kd.R (Kd.int .i64) 3 w' w.heap.size (fun _=>True) s_ y569) /\ (w'.heap[gb568]?=some (.cells #[.int .i64 a0_0,.int .i64 a0_1,.int .i64 a0_2,.int .i64 a0_3,.int .i64 a0_4,.string a0_5,.string a0_6] 45 (0,0))) /\ (Below w.heap.size w w')) ?_ ?_
 rotate_left
 ·intro hCont
  refine two_ (i:=6) (j:=9) (Ni:=some 9) (Nj:=some 12) #[true,true,true,true,true,true,true,true,true,false,false,false] #[true,true,true,true,true,true,false,true,true,true,false,false] rfl rfl rfl rfl (two_of HT_.out kr) (by decide) (by decide) (fun K hK=>?_) (fun K hK=>?_)
  ·skip
   refine Kd.R_lit_step (Kd.int .i64) _ 3 ?hg (N:=9) ?hd (xs:=([a0_1,a0_2,a0_3]:List Int)) (inner:=[.int .i64 a0_1,.int .i64 a0_2,.int .i64 a0_3]) (ok:=fun _=>True) (okp:=fun _=>True) ?hr ?hp (fun _ hk=>hk) trivial (Below.refl _ _) (Nat.le_refl _) (by simp) ?_;(case hd=>rfl);(case hg=>rfl);(case hr=>exact vz);(case hp=>exact (Reps.one (show Kd.M (Kd.int .i64) _ _ _ a0_1 [.int .i64 a0_1] from rfl) (Reps.one (show Kd.M (Kd.int .i64) _ _ _ a0_2 [.int .i64 a0_2] from rfl) (Reps.one (show Kd.M (Kd.int .i64) _ _ _ a0_3 [.int .i64 a0_3] from rfl) (Reps.none _ _)))))
   intro v570 w7 ho8 hb hg_ hnew_
   clear hg_ hnew_
   (first|rw [<- Ny569.out] at ho8|(simp only [Int.reduceToNat] at ho8;rw [<- Ny569.out] at ho8))
   have n0_:=am (Kd.R_lower ho8 (below_size (bz1 HB.out GE568.out)))
   have n1_:=am (blk_below (kz BK568.out) hb)
   have n2_:=am (below_step (bz1 HB.out GE568.out) hb)
   clear BK568
   clear HB
   have HO571:=n0_
   have BK568:=n1_
   have HB:=n2_
   clear n0_ n1_ n2_
   clear hb ho8
   refine hK.out _ _ ⟨(blk_cell BK568.out 0).trans rfl,(blk_cell BK568.out 1).trans rfl,(blk_cell BK568.out 2).trans rfl,(blk_cell BK568.out 3).trans rfl,(blk_cell BK568.out 4).trans rfl,(blk_cell BK568.out 5).trans rfl,(blk_cell BK568.out 6).trans rfl⟩ (fun hHeld=>?_)
   clear hK K
   refine norm_ (a':=?_) ?_ ?_
   rotate_left
   ·show Act.put _ (some 9) _=_
    simp only [Act.put,sz1,sz2,sz3,i64_w,i32_w]
    rfl
   refine one_ (i:=9) (N:=some 12) (mk_ 10 2) rfl rfl (one_of HT_.out kr) (by decide) (fun K hK=>?_)
   refine goes_ Tryz.func79 kr rfl #[.int .i64 a0_0] (by rfl) rfl rfl lz ?_
   with_reducible refine (spec_Arity.calls k a0_0 t572 _ A2.out).mono ?_
   rintro e w' ⟨rfl,⟨nd,rfl⟩⟩
   refine ⟨_,rfl,?_⟩
   refine hK.out _ _ ⟨(blk_cell BK568.out 0).trans rfl,(blk_cell BK568.out 1).trans rfl,(blk_cell BK568.out 2).trans rfl,(blk_cell BK568.out 3).trans rfl,(blk_cell BK568.out 4).trans rfl,(blk_cell BK568.out 5).trans rfl,(blk_cell BK568.out 6).trans rfl⟩ (fun hHeld=>?_)
   clear hK K
   refine norm_ (a':=?_) ?_ ?_
   rotate_left
   ·show Act.put _ (some 12) _=_
    simp only [Act.put,sz1,sz2,sz3,i64_w,i32_w]
    rfl
   exact norm_ (by simp only [putAll,Act.put,List.setIfInBounds_toArray,List.set_cons_zero,List.set_cons_succ]) (hCont (v570) _ ⟨hHeld,(rz HO571.out),(kz BK568.out),(bz1 HB.out GE568.out)⟩)
  ·skip
   refine goes_ Tryz.func79 kr rfl #[.int .i64 a0_0] (by rfl) rfl rfl lz ?_
   with_reducible refine (spec_Arity.calls k a0_0 t572 _ A2.out).mono ?_
   rintro e w' ⟨rfl,⟨nd,rfl⟩⟩
   refine ⟨_,rfl,?_⟩
   refine hK.out _ _ ⟨(blk_cell BK568.out 0).trans rfl,(blk_cell BK568.out 1).trans rfl,(blk_cell BK568.out 2).trans rfl,(blk_cell BK568.out 3).trans rfl,(blk_cell BK568.out 4).trans rfl,(blk_cell BK568.out 5).trans rfl,(blk_cell BK568.out 6).trans rfl⟩ (fun hHeld=>?_)
   clear hK K
   refine norm_ (a':=?_) ?_ ?_
   rotate_left
   ·show Act.put _ (some 12) _=_
    simp only [Act.put,sz1,sz2,sz3,i64_w,i32_w]
    rfl
   refine one_ (i:=6) (N:=some 9) (mk_ 10 2) rfl rfl (one_of HT_.out kr) (by decide) (fun K hK=>?_)
   refine Kd.R_lit_step (Kd.int .i64) _ 3 ?hg (N:=9) ?hd (xs:=([a0_1,a0_2,a0_3]:List Int)) (inner:=[.int .i64 a0_1,.int .i64 a0_2,.int .i64 a0_3]) (ok:=fun _=>True) (okp:=fun _=>True) ?hr ?hp (fun _ hk=>hk) trivial (Below.refl _ _) (Nat.le_refl _) (by simp) ?_;(case hd=>rfl);(case hg=>rfl);(case hr=>exact vz);(case hp=>exact (Reps.one (show Kd.M (Kd.int .i64) _ _ _ a0_1 [.int .i64 a0_1] from rfl) (Reps.one (show Kd.M (Kd.int .i64) _ _ _ a0_2 [.int .i64 a0_2] from rfl) (Reps.one (show Kd.M (Kd.int .i64) _ _ _ a0_3 [.int .i64 a0_3] from rfl) (Reps.none _ _)))))
   intro v570 w7 ho8 hb hg_ hnew_
   clear hg_ hnew_
   (first|rw [<- Ny569.out] at ho8|(simp only [Int.reduceToNat] at ho8;rw [<- Ny569.out] at ho8))
   have n0_:=am (Kd.R_lower ho8 (below_size (bz1 HB.out GE568.out)))
   have n1_:=am (blk_below (kz BK568.out) hb)
   have n2_:=am (below_step (bz1 HB.out GE568.out) hb)
   clear BK568
   clear HB
   have HO571:=n0_
   have BK568:=n1_
   have HB:=n2_
   clear n0_ n1_ n2_
   clear hb ho8
   refine hK.out _ _ ⟨(blk_cell BK568.out 0).trans rfl,(blk_cell BK568.out 1).trans rfl,(blk_cell BK568.out 2).trans rfl,(blk_cell BK568.out 3).trans rfl,(blk_cell BK568.out 4).trans rfl,(blk_cell BK568.out 5).trans rfl,(blk_cell BK568.out 6).trans rfl⟩ (fun hHeld=>?_)
   clear hK K
   refine norm_ (a':=?_) ?_ ?_
   rotate_left
   ·show Act.put _ (some 9) _=_
    simp only [Act.put,sz1,sz2,sz3,i64_w,i32_w]
    rfl
   exact norm_ (by simp only [putAll,Act.put,List.setIfInBounds_toArray,List.set_cons_zero,List.set_cons_succ]) (hCont (v570) _ ⟨hHeld,(rz HO571.out),(kz BK568.out),(bz1 HB.out GE568.out)⟩)
 rintro v570 w9 ⟨hS_,h0_,h1_,h2_⟩
 have n0_:Aside0 (Kd.R (Kd.int .i64) 3 w9 w.heap.size (fun _=>True) v570 y569):=⟨h0_⟩
 have n1_:Aside0 (w9.heap[gb568]?=some (.cells #[.int .i64 a0_0,.int .i64 a0_1,.int .i64 a0_2,.int .i64 a0_3,.int .i64 a0_4,.string a0_5,.string a0_6] 45 (0,0))):=⟨h1_⟩
 have n2_:Aside0 (Below w.heap.size w w9):=⟨h2_⟩
 clear BK568
 clear HB
 clear h0_ h1_ h2_
 have HO571:=n0_
 have BK568:=n1_
 have HB:=n2_
 clear n0_ n1_ n2_
 have hHeld:w9.cell? ⟨gb568,0,none⟩=some (.int .i64 a0_0) /\ w9.cell? ⟨gb568,1,none⟩=some (.int .i64 a0_1) /\ w9.cell? ⟨gb568,2,none⟩=some (.int .i64 a0_2) /\ w9.cell? ⟨gb568,3,none⟩=some (.int .i64 a0_3) /\ w9.cell? ⟨gb568,4,none⟩=some (.int .i64 a0_4) /\ w9.cell? ⟨gb568,5,none⟩=some (.string a0_5) /\ w9.cell? ⟨gb568,6,none⟩=some (.string a0_6):=hS_
 obtain ⟨Ao10,co10,eo10⟩:=Kd.R_slice HO571.out
 (first|subst eo10|(injection eo10 with f1_ f2_ f3_;have f4_:=f1_.symm;have f5_:=f3_.symm;clear f1_ f2_ f3_;subst f4_;subst f5_))
 have q11:(t572:Int) <= ((y569.length:Int):Int):=oz
 obtain ⟨i011,hi011,_,hsz11,_⟩:=info_parts info3
 have hcut11:=cut_to (P:=Tryz.prog) 53 3 .i64 Tryz.underlying53 hi011 Ao10 y569.length co10 t572 (of_decide_eq_true az) q11 (Kd.R_reads' HO571.out).2.1
 have hr11:=Kd.R_take (m:=(t572:Int).toNat) HO571.out (by omega)
 have hy11:y573.length=(t572:Int).toNat:=(by rw [Ny573.out,List.length_take];omega)
 rw [<- Ny573.out] at hr11
 rw [<- hy11] at hr11 hcut11
 clear hy11 hi011 hsz11 HO571
 have HO575:=am hr11
 clear hr11
 replace q11:=eq_true q11
 refine norm_ (a':=?_) ?_ ?_
 rotate_left
 ·simp only [putAll,Act.put,List.setIfInBounds_toArray,List.set_cons_zero,List.set_cons_succ]
  rfl
 refine pv 10 13 (mk_ 11 1) HT_ rfl rfl ?_
 refine pv 11 2 (mk_ 12 0) HT_ rfl rfl ?_
 refine done_ (done_of HT_.out kr) ?_
 try go_wp2
 go_ret
 exact ⟨_,gz,by refine rq ?_;exact HO575.out,(bz1 HB.out GE568.out)⟩
mutual
def spec_l3Starts.l0:Nat -> List (S45) -> List Int -> Int -> Option (List Int × Bool)
 | 0,_,_,_=>none
 | k+1,x0,x4,x5=>if x5<(x0.length:Int) then (if 0 <= x5 then ((spec_l3Fields.f k ((rd_T45 x0 x5).f0) ((rd_T45 x0 x5).f1) ((rd_T45 x0 x5).f2) ((rd_T45 x0 x5).f3) ((rd_T45 x0 x5).f4) ((rd_T45 x0 x5).f5) ((rd_T45 x0 x5).f6)).bind fun t580=>(if t580=true then ((spec_Kids.f k ((rd_T45 x0 x5).f0) ((rd_T45 x0 x5).f1) ((rd_T45 x0 x5).f2) ((rd_T45 x0 x5).f3) ((rd_T45 x0 x5).f4) ((rd_T45 x0 x5).f5) ((rd_T45 x0 x5).f6)).bind fun t585=>(spec_l3Starts.l1 k x0 x4 x5 x5 t585 (wrap64 ((t585.length:Int) - 1)))) else (some ((([]:List Int)),false)))) else (none)) else (some (x4,true))
def spec_l3Starts.l1:Nat -> List (S45) -> List Int -> Int -> Int -> List Int -> Int -> Option (List Int × Bool)
 | 0,_,_,_,_,_,_=>none
 | k+1,x0,x4,x5,x6,x7,x8=>if x8≥0 then (if 0 <= x8 then (if x8<(x7.length:Int) then (if (rd x7 x8)=(wrap64 (x6 - 1)) then (if (rd x7 x8)<0 then (some ((([]:List Int)),false)) else (if 0 <= (rd x7 x8) then (if (rd x7 x8)<(x4.length:Int) then (spec_l3Starts.l1 k x0 x4 x5 (rd x4 (rd x7 x8)) x7 (wrap64 (x8 - 1))) else (none)) else (none))) else (some ((([]:List Int)),false))) else (none)) else (none)) else (if x4.length<17592186044416 then (spec_l3Starts.l0 k x0 (x4++[x6]) (wrap64 (x5+1))) else (none))
end
def spec_l3Starts.f (k:Nat) (l0:List (S45)):Option (List Int × Bool):=spec_l3Starts.l0 k l0 (([]:List Int)) 0
theorem spec_l3Starts.mono_l:∀ k,(∀ y0 y1 y2,LeO (spec_l3Starts.l0 k y0 y1 y2) (spec_l3Starts.l0 (k+1) y0 y1 y2)) /\ (∀ y0 y1 y2 y3 y4 y5,LeO (spec_l3Starts.l1 k y0 y1 y2 y3 y4 y5) (spec_l3Starts.l1 (k+1) y0 y1 y2 y3 y4 y5))
 | 0=>⟨fun _ _ _ r h=>by simp [spec_l3Starts.l0] at h,fun _ _ _ _ _ _ r h=>by simp [spec_l3Starts.l1] at h⟩
 | k+1=>by
  obtain ⟨ih0,ih1⟩:=spec_l3Starts.mono_l k
  refine ⟨?_,?_⟩
  ·intro y0 y1 y2
   unfold spec_l3Starts.l0
   with_reducible repeat' first|exact ih0 _ _ _|exact ih1 _ _ _ _ _ _|exact spec_Kids.mono _ _ _ _ _ _ _ _|exact spec_l3Fields.mono _ _ _ _ _ _ _ _|exact lrz _|exact lnz _|refine liz ?_ ?_|refine lbz ?_ fun _=>?_
  ·intro y0 y1 y2 y3 y4 y5
   unfold spec_l3Starts.l1
   with_reducible repeat' first|exact ih0 _ _ _|exact ih1 _ _ _ _ _ _|exact spec_Kids.mono _ _ _ _ _ _ _ _|exact spec_l3Fields.mono _ _ _ _ _ _ _ _|exact lrz _|exact lnz _|refine liz ?_ ?_|refine lbz ?_ fun _=>?_
theorem spec_l3Starts.mono:∀ a0 k,LeO (spec_l3Starts.f k a0) (spec_l3Starts.f (k+1) a0):=by
 intro a0 k
 obtain ⟨ih0,ih1⟩:=spec_l3Starts.mono_l k
 unfold spec_l3Starts.f
 with_reducible repeat' first|exact ih0 _ _ _|exact ih1 _ _ _ _ _ _|exact spec_Kids.mono _ _ _ _ _ _ _ _|exact spec_l3Fields.mono _ _ _ _ _ _ _ _|exact lrz _|exact lnz _|refine liz ?_ ?_|refine lbz ?_ fun _=>?_
set_option maxHeartbeats 8000000 in
set_option maxRecDepth 100000 in
theorem spec_l3Starts.calls (k:Nat) (A0:Option Addr) (c0:Nat) (l0:List (S45)) (r1:List Int) (r2:Bool) (w:World) (hr0:Kd.C k45 w A0 l0.length l0) (hc0:l0.length <= c0) (h:spec_l3Starts.f k l0=some (r1,r2)) :
  Calls Tryz.prog 41 #[.slice A0 l0.length c0] w fun e w'=>∃ v0_:Value,e=.returned (.tuple #[v0_,.bool r2]) /\ Kd.R (Kd.int .i64) 3 w' w.heap.size (fun _=>True) v0_ r1 /\ Below w.heap.size w w':=by
 have hu45:=Tryz.underlying45
 have HR0:=am hr0
 have HC0:=am hc0
 clear hr0 hc0
 have HB:=am (Below.refl w.heap.size w)
 have H:(spec_l3Starts.l0 k l0 (([]:List Int)) 0)=some (r1,r2):=h
 clear h
 obtain ⟨y576,hy576⟩:∃ y_:List Int,y_=(([]:List Int)):=⟨_,rfl⟩
 replace H:(spec_l3Starts.l0 k l0 y576 0)=some (r1,r2):=yz hy576 H
 have Ny576:=am hy576
 clear hy576
 have H':=am H
 clear H
 go_enter Tryz.func41,Tryz.ntmps41
 go_wp2_with (first|((with_reducible refine gate_dst (N:=9) rfl ?_);refine Kd.R_lit (Kd.int .i64) _ 3 ?hg (N:=9) ?hd (xs:=([]:List Int)) (inner:=[]) (ok:=fun _=>True) (okp:=fun _=>True) ?hr ?hp (fun _ hk=>hk) trivial (Below.refl _ _) (Nat.le_refl _) (by simp) ?_;(case hd=>rfl);(case hg=>rfl);(case hr=>exact vz);(case hp=>exact (Reps.none _ _));intro v577 w2 ho3 hb hg_ hnew_;clear hg_ hnew_;(first|rw [<- Ny576.out] at ho3|(simp only [Int.reduceToNat] at ho3;rw [<- Ny576.out] at ho3));have HO578:=am (Kd.R_lower ho3 (below_size (bz0 HB.out)));replace HB:=bs (bz0 HB.out) hb;clear hb ho3))
 (try simp only [Act.put,sz1,sz2,sz3])
 go_loopg [4,5] k (fun kq v4 v5 w'=>∃ (x4_1:List Int) (x5_1:Int),v5=.int .i64 x5_1 /\ Aside0 (spec_l3Starts.l0 kq l0 x4_1 x5_1=some (r1,r2)) /\ Aside0 (kq <= k) /\ Aside0 (Kd.R (Kd.int .i64) 3 w' w.heap.size (fun _=>True) v4 x4_1) /\ Aside0 (Below w.heap.size w w'))
 case atStart=>exact ⟨(y576),(0),ez,H',⟨Nat.le_refl _⟩,⟨by refine rq ?_;exact HO578.out⟩,⟨(bz0 HB.out)⟩⟩
 case round =>
  clear H'
  try clear p2
  obtain ⟨x4_1,x5_1,rfl,HA,HK1,HO_4,HB⟩:=hrel
  cases gk with
  | zero=>exact absurd HA.out (by simp [spec_l3Starts.l0])
  | succ k1 =>
   have H:=HA.out
   clear HA
   simp only [spec_l3Starts.l0] at H
   by_cases c4:x5_1<(l0.length:Int)
   ·rw [if_pos c4] at H
    have c4b0:=decide_eq_true c4
    clear c4
    replace H:=iz H
    obtain ⟨c5,H⟩:=H
    have c5b0:=decide_eq_true c5
    clear c5
    replace H:=bi H
    obtain ⟨t580,A60,H⟩:=H
    try dsimp only at H
    have A6:=am A60
    clear A60
    by_cases c7:t580=true
    ·subst c7
     have H1:=hp H
     clear H
     have H:=H1
     clear H1
     replace H:=bi H
     obtain ⟨t585,A80,H⟩:=H
     try dsimp only at H
     have A8:=am A80
     clear A80
     have H':=am H
     clear H
     have p579:0 <= (x5_1:Int):=oz
     have q579:x5_1<(l0.length:Int):=oz
     obtain ⟨ad579,e579,hx579_0,hx579_1,hx579_2,hx579_3,hx579_4,hx579_5,hx579_6⟩:=at_T45 (Kd.C_below HR0.out HB.out) x5_1 p579 q579
     cases e579
     replace p579:=eq_true p579
     replace q579:=eq_true q579
     go_wp2_with (first|((with_reducible refine gate_callee (f:=60) rfl ?_);refine goesL_ (some 20) rfl rfl Tryz.func60 kr rfl #[.agg #[.int .i64 ((rd_T45 l0 x5_1).f0),.int .i64 ((rd_T45 l0 x5_1).f1),.int .i64 ((rd_T45 l0 x5_1).f2),.int .i64 ((rd_T45 l0 x5_1).f3),.int .i64 ((rd_T45 l0 x5_1).f4),.string ((rd_T45 l0 x5_1).f5),.string ((rd_T45 l0 x5_1).f6)]] rfl lz ?_;(with_reducible refine (spec_l3Fields.calls k1 ((rd_T45 l0 x5_1).f0) ((rd_T45 l0 x5_1).f1) ((rd_T45 l0 x5_1).f2) ((rd_T45 l0 x5_1).f3) ((rd_T45 l0 x5_1).f4) ((rd_T45 l0 x5_1).f5) ((rd_T45 l0 x5_1).f6) true _ A6.out).mono ?_);rintro e w9 ⟨rfl,hb⟩;refine ⟨_,rfl,?_⟩;replace HO_4:=qz HO_4 hb;replace HB:=bs (bz0 HB.out) hb;(try clear hb);have p584:0 <= (x5_1:Int):=oz;have q584:x5_1<(l0.length:Int):=oz;obtain ⟨ad584,e584,hx584_0,hx584_1,hx584_2,hx584_3,hx584_4,hx584_5,hx584_6⟩:=at_T45 HR0.out x5_1 p584 q584;obtain rfl:ad579=ad584:=(by injection e584);replace hx584_0:=hz HB.out hx584_0;replace hx584_1:=hz HB.out hx584_1;replace hx584_2:=hz HB.out hx584_2;replace hx584_3:=hz HB.out hx584_3;replace hx584_4:=hz HB.out hx584_4;replace hx584_5:=hz HB.out hx584_5;replace hx584_6:=hz HB.out hx584_6;replace p584:=eq_true p584;replace q584:=eq_true q584)|((with_reducible refine gate_callee (f:=61) rfl ?_);refine goesL_ (some 28) rfl rfl Tryz.func61 kr rfl #[.agg #[.int .i64 ((rd_T45 l0 x5_1).f0),.int .i64 ((rd_T45 l0 x5_1).f1),.int .i64 ((rd_T45 l0 x5_1).f2),.int .i64 ((rd_T45 l0 x5_1).f3),.int .i64 ((rd_T45 l0 x5_1).f4),.string ((rd_T45 l0 x5_1).f5),.string ((rd_T45 l0 x5_1).f6)]] rfl lz ?_;(with_reducible refine (spec_Kids.calls k1 ((rd_T45 l0 x5_1).f0) ((rd_T45 l0 x5_1).f1) ((rd_T45 l0 x5_1).f2) ((rd_T45 l0 x5_1).f3) ((rd_T45 l0 x5_1).f4) ((rd_T45 l0 x5_1).f5) ((rd_T45 l0 x5_1).f6) t585 _ A8.out).mono ?_);rintro e w10 ⟨v586,rfl,ho0,hb⟩;refine ⟨_,rfl,?_⟩;have HO587:=am (Kd.R_lower (Kd.R_new' ho0 (Kd.R_lt (rz HO_4.out))) (below_size (bz0 HB.out)));replace HO_4:=am (Kd.R_elder' (rz HO_4.out) (Kd.R_base ho0) hb);replace HB:=bs (bz0 HB.out) hb;(try clear hb);(try clear ho0);obtain ⟨Ao11,co11,eo11⟩:=Kd.R_slice HO587.out;subst eo11))
     go_loopg [6,8] k1 (fun kq v6 v8 w'=>∃ (x6_2:Int) (x8_2:Int),v6=.int .i64 x6_2 /\ v8=.int .i64 x8_2 /\ Aside0 (spec_l3Starts.l1 kq l0 x4_1 x5_1 x6_2 t585 x8_2=some (r1,r2)) /\ Aside0 (kq <= k1) /\ Aside0 (Kd.R (Kd.int .i64) 3 w' w.heap.size (fun k_=>some k_≠((.slice Ao11 t585.length co11):Value).ownBlock) u4 x4_1) /\ Aside0 (Kd.R (Kd.int .i64) 3 w' w.heap.size (fun k_=>some k_≠(u4:Value).ownBlock) (.slice Ao11 t585.length co11) t585) /\ Aside0 (Below w.heap.size w w'))
     case atStart=>exact ⟨(x5_1),(wrap64 ((t585.length:Int) - 1)),ez,ez,H',⟨Nat.le_refl _⟩,⟨by refine rq ?_;exact Kd.R_mono HO_4.out (fun _ hk=>hk.2)⟩,⟨by refine rq ?_;exact Kd.R_mono HO587.out (fun _ hk=>hk.2)⟩,⟨(bz0 HB.out)⟩⟩
     case round =>
      clear H'
      try clear p2
      try clear c4
      try clear c4b0
      try clear c5
      try clear c5b0
      try clear p5
      try clear q5
      try clear hx5
      try clear c6
      try clear p6
      try clear c7
      try clear hx579_0
      try clear hx579_1
      try clear hx579_2
      try clear hx579_3
      try clear hx579_4
      try clear hx579_5
      try clear hx579_6
      try clear hx584_0
      try clear hx584_1
      try clear hx584_2
      try clear hx584_3
      try clear hx584_4
      try clear hx584_5
      try clear hx584_6
      try clear p2
      try clear p579
      try clear p584
      try clear q579
      try clear q584
      obtain ⟨x6_2,x8_2,rfl,rfl,HA,HK2,HO_4,HO_7,HB⟩:=hrel
      cases gk with
      | zero=>exact absurd HA.out (by simp [spec_l3Starts.l1])
      | succ k2 =>
       have H:=HA.out
       clear HA
       simp only [spec_l3Starts.l1] at H
       by_cases c12:x8_2≥0
       ·rw [if_pos c12] at H
        have c12b0:decide (0 <= x8_2)=true:=decide_eq_true c12
        clear c12
        replace H:=iz H
        obtain ⟨c13,H⟩:=H
        have c13b0:=decide_eq_true c13
        clear c13
        replace H:=iz H
        obtain ⟨c14,H⟩:=H
        have c14b0:=decide_eq_true c14
        clear c14
        by_cases c15:(rd t585 x8_2)=(wrap64 (x6_2 - 1))
        ·rw [if_pos c15] at H
         have c15b0:((rd t585 x8_2) == (wrap64 (x6_2 - 1)))=true:=beq_iff_eq.mpr c15
         have c15b1:((rd t585 x8_2) != (wrap64 (x6_2 - 1)))=false:=bne_eq_false_iff_eq.mpr c15
         clear c15
         by_cases c16:(rd t585 x8_2)<0
         ·rw [if_pos c16] at H
          have c16b0:=decide_eq_true c16
          clear c16
          obtain ⟨y590,hy590⟩:∃ y_:List Int,y_=(([]:List Int)):=⟨_,rfl⟩
          replace H:(some (y590,false))=some (r1,r2):=yz hy590 H
          have Ny590:=am hy590
          clear hy590
          simp only [Option.some.injEq,Prod.mk.injEq] at H
          obtain ⟨rfl,rfl⟩:=H
          have p588:0 <= (x8_2:Int):=oz
          have q588:x8_2<(t585.length:Int):=oz
          obtain ⟨ad588,e588,hx588_0⟩:=Kd.at_int (Kd.R_reads' HO_7.out).2.2 x8_2 p588 q588
          cases e588
          replace p588:=eq_true p588
          replace q588:=eq_true q588
          have p589:0 <= (x8_2:Int):=oz
          have q589:x8_2<(t585.length:Int):=oz
          obtain ⟨ad589,e589,hx589_0⟩:=Kd.at_int (Kd.R_reads' HO_7.out).2.2 x8_2 p589 q589
          obtain rfl:ad588=ad589:=(by injection e589)
          replace p589:=eq_true p589
          replace q589:=eq_true q589
          go_wp2_with (first|((with_reducible refine gate_dst (N:=50) rfl ?_);refine Kd.R_lit (Kd.int .i64) _ 3 ?hg (N:=50) ?hd (xs:=([]:List Int)) (inner:=[]) (ok:=fun _=>True) (okp:=fun _=>True) ?hr ?hp (fun _ hk=>hk) trivial (Below.refl _ _) (Nat.le_refl _) (by simp) ?_;(case hd=>rfl);(case hg=>rfl);(case hr=>exact vz);(case hp=>exact (Reps.none _ _));intro v591 w17 ho18 hb hg_ hnew_;clear hg_ hnew_;(first|rw [<- Ny590.out] at ho18|(simp only [Int.reduceToNat] at ho18;rw [<- Ny590.out] at ho18));have HO592:=am (Kd.R_lower (Kd.R_new' (Kd.R_new' ho18 (Kd.R_lt (rz HO_4.out))) (Kd.R_lt (rz HO_7.out))) (below_size (bz0 HB.out)));replace HO_4:=am (Kd.R_elder' (rz HO_4.out) (Kd.R_base ho18) hb);replace HO_7:=am (Kd.R_elder' (rz HO_7.out) (Kd.R_base ho18) hb);replace HB:=bs (bz0 HB.out) hb;clear hb ho18))
          go_ret2
          exact ⟨_,gz,by refine rq ?_;exact Kd.R_mono HO592.out (fun _ hk=>trivial),(bz0 HB.out)⟩
         ·rw [if_neg c16] at H
          have c16b0:=decide_eq_false c16
          clear c16
          replace H:=iz H
          obtain ⟨c19,H⟩:=H
          have c19b0:=decide_eq_true c19
          clear c19
          replace H:=iz H
          obtain ⟨c20,H⟩:=H
          have c20b0:=decide_eq_true c20
          clear c20
          have H':=am H
          clear H
          have p588:0 <= (x8_2:Int):=oz
          have q588:x8_2<(t585.length:Int):=oz
          obtain ⟨ad588,e588,hx588_0⟩:=Kd.at_int (Kd.R_reads' HO_7.out).2.2 x8_2 p588 q588
          cases e588
          replace p588:=eq_true p588
          replace q588:=eq_true q588
          have p589:0 <= (x8_2:Int):=oz
          have q589:x8_2<(t585.length:Int):=oz
          obtain ⟨ad589,e589,hx589_0⟩:=Kd.at_int (Kd.R_reads' HO_7.out).2.2 x8_2 p589 q589
          obtain rfl:ad588=ad589:=(by injection e589)
          replace p589:=eq_true p589
          replace q589:=eq_true q589
          have p593:0 <= (x8_2:Int):=oz
          have q593:x8_2<(t585.length:Int):=oz
          obtain ⟨ad593,e593,hx593_0⟩:=Kd.at_int (Kd.R_reads' HO_7.out).2.2 x8_2 p593 q593
          obtain rfl:ad588=ad593:=(by injection e593)
          replace p593:=eq_true p593
          replace q593:=eq_true q593
          obtain ⟨Ao21,co21,eo21⟩:=Kd.R_slice HO_4.out
          subst eo21
          have p594:0 <= ((rd t585 x8_2):Int):=oz
          have q594:(rd t585 x8_2)<(x4_1.length:Int):=oz
          obtain ⟨ad594,e594,hx594_0⟩:=Kd.at_int (Kd.R_reads' HO_4.out).2.2 (rd t585 x8_2) p594 q594
          cases e594
          replace p594:=eq_true p594
          replace q594:=eq_true q594
          go_wp2
          go_roundg k2
          case measure=>have:=HK1.out;have:=HK2.out;omega
          case rel=>exact ⟨(rd x4_1 (rd t585 x8_2)),(wrap64 (x8_2 - 1)),ez,ez,H',⟨by have:=HK1.out;have:=HK2.out;omega⟩,⟨by refine rq ?_;exact HO_4.out⟩,⟨by refine rq ?_;exact HO_7.out⟩,⟨(bz0 HB.out)⟩⟩
        ·rw [if_neg c15] at H
         have c15b0:((rd t585 x8_2) == (wrap64 (x6_2 - 1)))=false:=beq_eq_false_iff_ne.mpr c15
         have c15b1:((rd t585 x8_2) != (wrap64 (x6_2 - 1)))=true:=bne_iff_ne.mpr c15
         obtain ⟨y595,hy595⟩:∃ y_:List Int,y_=(([]:List Int)):=⟨_,rfl⟩
         replace H:(some (y595,false))=some (r1,r2):=yz hy595 H
         have Ny595:=am hy595
         clear hy595
         simp only [Option.some.injEq,Prod.mk.injEq] at H
         obtain ⟨rfl,rfl⟩:=H
         have p588:0 <= (x8_2:Int):=oz
         have q588:x8_2<(t585.length:Int):=oz
         obtain ⟨ad588,e588,hx588_0⟩:=Kd.at_int (Kd.R_reads' HO_7.out).2.2 x8_2 p588 q588
         cases e588
         replace p588:=eq_true p588
         replace q588:=eq_true q588
         go_wp2_with (first|((with_reducible refine gate_dst (N:=50) rfl ?_);refine Kd.R_lit (Kd.int .i64) _ 3 ?hg (N:=50) ?hd (xs:=([]:List Int)) (inner:=[]) (ok:=fun _=>True) (okp:=fun _=>True) ?hr ?hp (fun _ hk=>hk) trivial (Below.refl _ _) (Nat.le_refl _) (by simp) ?_;(case hd=>rfl);(case hg=>rfl);(case hr=>exact vz);(case hp=>exact (Reps.none _ _));intro v596 w22 ho23 hb hg_ hnew_;clear hg_ hnew_;(first|rw [<- Ny595.out] at ho23|(simp only [Int.reduceToNat] at ho23;rw [<- Ny595.out] at ho23));have HO597:=am (Kd.R_lower (Kd.R_new' (Kd.R_new' ho23 (Kd.R_lt (rz HO_4.out))) (Kd.R_lt (rz HO_7.out))) (below_size (bz0 HB.out)));replace HO_4:=am (Kd.R_elder' (rz HO_4.out) (Kd.R_base ho23) hb);replace HO_7:=am (Kd.R_elder' (rz HO_7.out) (Kd.R_base ho23) hb);replace HB:=bs (bz0 HB.out) hb;clear hb ho23))
         go_ret2
         exact ⟨_,gz,by refine rq ?_;exact Kd.R_mono HO597.out (fun _ hk=>trivial),(bz0 HB.out)⟩
       ·rw [if_neg c12] at H
        have c12b0:decide (0 <= x8_2)=false:=decide_eq_false c12
        clear c12
        replace H:=iz H
        obtain ⟨c24,H⟩:=H
        have LMc24:=am c24
        clear c24
        obtain ⟨y598,hy598⟩:∃ y_:List Int,y_=(x4_1++[x6_2]):=⟨_,rfl⟩
        replace H:(spec_l3Starts.l0 k2 l0 y598 (wrap64 (x5_1+1)))=some (r1,r2):=yz hy598 H
        have Ny598:=am hy598
        clear hy598
        have H':=am H
        clear H
        go_wp2_with (first|((with_reducible refine gate_builtin (b:=.append) (xs:=#[.tmp 58,.tmp 60]) rfl ?_);at_builtin;refine Kd.R_append (Kd.int .i64) (w0:=w) w.heap.size rfl (.tmp 58) (.tmp 60) 53 3 (.int .i64 0) 8 rfl Tryz.underlying53 info3 rfl (by decide) (by omega) u4 x4_1 x6_2 [.int .i64 x6_2] (fun k_=>some k_≠(.slice Ao11 t585.length co11:Value).ownBlock) (fun _=>False) rfl rfl ?aP (fun _ hk=>hk.elim) ?aF ?aO ?aB ?aS ?aL ?_;(case aP=>exact rfl);(case aB=>exact (bz0 HB.out));(case aF=>exact (fun k_ hk=>Kd.fresh' (Kd.R_lt (rz HO_7.out)) k_ hk));(case aO=>exact (rz HO_4.out));(case aS=>exact (below_size (bz0 HB.out)));(case aL=>have:=LMc24.out;omega);intro v599 w25 ho hb hg hat;rw [<- Ny598.out] at ho;have n0_:=am (Kd.R_after (ok:=(fun _=>True)) (by refine rq ?_;exact Kd.R_mono HO_7.out (fun _ hk=>⟨trivial,hk⟩)) hg hat);have n1_:=am (hb);have n2_:=am (ho);clear HO_7;clear HB;clear HO_4;have HO_7:=n0_;have HB:=n1_;have HO600:=n2_;clear n0_ n1_ n2_;clear ho hb hg hat))
        go_roundg k2
        case measure=>have:=HK1.out;have:=HK2.out;omega
        case rel=>exact ⟨(y598),(wrap64 (x5_1+1)),ez,H',⟨by have:=HK1.out;have:=HK2.out;omega⟩,⟨by refine rq ?_;exact Kd.R_mono HO600.out (fun _ hk=>trivial)⟩,⟨(bz0 HB.out)⟩⟩
    ·replace c7:=Bool.eq_false_iff.mpr c7
     subst c7
     have H1:=hq H
     clear H
     have H:=H1
     clear H1
     obtain ⟨y581,hy581⟩:∃ y_:List Int,y_=(([]:List Int)):=⟨_,rfl⟩
     replace H:(some (y581,false))=some (r1,r2):=yz hy581 H
     have Ny581:=am hy581
     clear hy581
     simp only [Option.some.injEq,Prod.mk.injEq] at H
     obtain ⟨rfl,rfl⟩:=H
     have p579:0 <= (x5_1:Int):=oz
     have q579:x5_1<(l0.length:Int):=oz
     obtain ⟨ad579,e579,hx579_0,hx579_1,hx579_2,hx579_3,hx579_4,hx579_5,hx579_6⟩:=at_T45 (Kd.C_below HR0.out HB.out) x5_1 p579 q579
     cases e579
     replace p579:=eq_true p579
     replace q579:=eq_true q579
     go_wp2_with (first|((with_reducible refine gate_callee (f:=60) rfl ?_);refine goesL_ (some 20) rfl rfl Tryz.func60 kr rfl #[.agg #[.int .i64 ((rd_T45 l0 x5_1).f0),.int .i64 ((rd_T45 l0 x5_1).f1),.int .i64 ((rd_T45 l0 x5_1).f2),.int .i64 ((rd_T45 l0 x5_1).f3),.int .i64 ((rd_T45 l0 x5_1).f4),.string ((rd_T45 l0 x5_1).f5),.string ((rd_T45 l0 x5_1).f6)]] rfl lz ?_;(with_reducible refine (spec_l3Fields.calls k1 ((rd_T45 l0 x5_1).f0) ((rd_T45 l0 x5_1).f1) ((rd_T45 l0 x5_1).f2) ((rd_T45 l0 x5_1).f3) ((rd_T45 l0 x5_1).f4) ((rd_T45 l0 x5_1).f5) ((rd_T45 l0 x5_1).f6) false _ A6.out).mono ?_);rintro e w26 ⟨rfl,hb⟩;refine ⟨_,rfl,?_⟩;replace HO_4:=qz HO_4 hb;replace HB:=bs (bz0 HB.out) hb;(try clear hb);(try clear hk);(try clear hi))|((with_reducible refine gate_dst (N:=22) rfl ?_);refine Kd.R_lit (Kd.int .i64) _ 3 ?hg (N:=22) ?hd (xs:=([]:List Int)) (inner:=[]) (ok:=fun _=>True) (okp:=fun _=>True) ?hr ?hp (fun _ hk=>hk) trivial (Below.refl _ _) (Nat.le_refl _) (by simp) ?_;(case hd=>rfl);(case hg=>rfl);(case hr=>exact vz);(case hp=>exact (Reps.none _ _));intro v582 w27 ho28 hb hg_ hnew_;clear hg_ hnew_;(first|rw [<- Ny581.out] at ho28|(simp only [Int.reduceToNat] at ho28;rw [<- Ny581.out] at ho28));have HO583:=am (Kd.R_lower (Kd.R_new' ho28 (Kd.R_lt (rz HO_4.out))) (below_size (bz0 HB.out)));replace HO_4:=am (Kd.R_elder' (rz HO_4.out) (Kd.R_base ho28) hb);replace HB:=bs (bz0 HB.out) hb;clear hb ho28))
     go_ret2
     exact ⟨_,gz,by refine rq ?_;exact Kd.R_mono HO583.out (fun _ hk=>trivial),(bz0 HB.out)⟩
   ·rw [if_neg c4] at H
    have c4b0:=decide_eq_false c4
    clear c4
    simp only [Option.some.injEq,Prod.mk.injEq] at H
    obtain ⟨rfl,rfl⟩:=H
    go_wp2
    go_ret2
    exact ⟨_,gz,by refine rq ?_;exact HO_4.out,(bz0 HB.out)⟩
def spec_NodesOk.f (k:Nat) (l0:List (S45)):Option (Bool):=(spec_l1In.f (l0.length:Int) 1 150).bind fun t601=>(if t601=true then ((spec_l3Starts.f k l0).bind fun bt602=>(if bt602.2=true then (if 0 <= (wrap64 ((l0.length:Int) - 1)) then (if (wrap64 ((l0.length:Int) - 1))<(bt602.1.length:Int) then (some ((rd bt602.1 (wrap64 ((l0.length:Int) - 1))) == 0)) else (none)) else (none)) else (some false))) else (some false))
theorem spec_NodesOk.mono:∀ a0 k,LeO (spec_NodesOk.f k a0) (spec_NodesOk.f (k+1) a0):=by
 intro a0 k
 unfold spec_NodesOk.f
 with_reducible repeat' first|exact spec_l3Starts.mono _ _|exact lrz _|exact lnz _|refine liz ?_ ?_|refine lbz ?_ fun _=>?_
set_option maxHeartbeats 8000000 in
set_option maxRecDepth 100000 in
theorem spec_NodesOk.calls (k:Nat) (A0:Option Addr) (c0:Nat) (l0:List (S45)) (r:Bool) (w:World) (hr0:Kd.C k45 w A0 l0.length l0) (hc0:l0.length <= c0) (h:spec_NodesOk.f k l0=some r) :
  Calls Tryz.prog 15 #[.slice A0 l0.length c0] w fun e w'=>e=.returned (.bool r) /\ Below w.heap.size w w':=by
 have HR0:=am hr0
 have HC0:=am hc0
 clear hr0 hc0
 have HB:=am (Below.refl w.heap.size w)
 have H:((spec_l1In.f (l0.length:Int) 1 150).bind fun t601=>(if t601=true then ((spec_l3Starts.f k l0).bind fun bt602=>(if bt602.2=true then (if 0 <= (wrap64 ((l0.length:Int) - 1)) then (if (wrap64 ((l0.length:Int) - 1))<(bt602.1.length:Int) then (some ((rd bt602.1 (wrap64 ((l0.length:Int) - 1))) == 0)) else (none)) else (none)) else (some false))) else (some false)))=some r:=h
 clear h
 replace H:=bi H
 obtain ⟨t601,A20,H⟩:=H
 try dsimp only at H
 have A2:=am A20
 clear A20
 by_cases c3:t601=true
 ·subst c3
  have H1:=hp H
  clear H
  have H:=H1
  clear H1
  replace H:=bi H
  obtain ⟨⟨t602,t603⟩,A40,H⟩:=H
  try dsimp only at H
  have A4:=am A40
  clear A40
  by_cases c5:t603=true
  ·subst c5
   have H1:=hp H
   clear H
   have H:=H1
   clear H1
   obtain ⟨ji6,hji6⟩:∃ j_:Int,(wrap64 ((l0.length:Int) - 1))=j_:=⟨_,rfl⟩
   replace H:(if 0 <= (ji6) then (if (ji6)<(t602.length:Int) then (some ((rd t602 (ji6)) == 0)) else (none)) else (none))=some r:=by first|(rw [hji6] at H;exact H)|(simp only [hji6] at H ⊢;exact H)
   (try rw [hji6] at A2)
   (try rw [hji6] at A4)
   have hji6w:(IntKind.i64.wrap ((l0.length:Int) - 1))=ji6:=(i64_w _).trans hji6
   replace H:=iz H
   obtain ⟨c7,H⟩:=H
   have c7b0:=decide_eq_true c7
   clear c7
   replace H:=iz H
   obtain ⟨c8,H⟩:=H
   have c8b0:=decide_eq_true c8
   clear c8
   obtain rfl:=Option.some.inj H
   go_enter Tryz.func15,Tryz.ntmps15
   go_wp2_with (first|((with_reducible refine gate_callee (f:=40) rfl ?_);refine goesL_ (some 7) rfl rfl Tryz.func40 kr rfl #[.int .i64 (l0.length:Int),.int .i64 1,.int .i64 150] rfl lz ?_;(with_reducible refine (spec_l1In.calls (l0.length:Int) 1 150 true _ A2.out).mono ?_);rintro e w' ⟨rfl,⟨nd,rfl⟩⟩;refine ⟨_,rfl,?_⟩)|((with_reducible refine gate_callee (f:=41) rfl ?_);refine goesL_ (some 11) rfl rfl Tryz.func41 kr rfl #[.slice A0 l0.length c0] rfl lz ?_;(with_reducible refine (spec_l3Starts.calls k _ _ l0 t602 true _ ?side1 ?side2 A4.out).mono ?_);(case side1=>repeat (first|exact HR0.out|(with_reducible refine Kd.C_alloc ?_ _)|(with_reducible refine Kd.C_drewN ?_ _)|(with_reducible refine Kd.C_drew ?_)));(case side2=>exact HC0.out);rintro e w9 ⟨v604,rfl,ho0,hb⟩;refine ⟨_,rfl,?_⟩;have HO605:=am (Kd.R_lower ho0 (below_size (bz0 HB.out)));replace HB:=bs (bz0 HB.out) hb;(try clear hb);(try clear ho0);obtain ⟨Ao10,co10,eo10⟩:=Kd.R_slice HO605.out;subst eo10;have p606:0 <= ((ji6):Int):=oz;have q606:(ji6)<(t602.length:Int):=oz;obtain ⟨ad606,e606,hx606_0⟩:=Kd.at_int (Kd.R_reads' HO605.out).2.2 (ji6) p606 q606;cases e606;replace p606:=eq_true p606;replace q606:=eq_true q606))
   go_ret
   exact ⟨by first|rfl|(simp [errW_none,errW_some] <;> rfl)|(simp only [<- hji6];first|rfl|(simp [errW_none,errW_some] <;> rfl))|(simp [*,errW_none,errW_some] <;> rfl),(bz0 HB.out)⟩
  ·replace c5:=Bool.eq_false_iff.mpr c5
   subst c5
   have H1:=hq H
   clear H
   have H:=H1
   clear H1
   obtain rfl:=Option.some.inj H
   go_enter Tryz.func15,Tryz.ntmps15
   go_wp2_with (first|((with_reducible refine gate_callee (f:=40) rfl ?_);refine goesL_ (some 7) rfl rfl Tryz.func40 kr rfl #[.int .i64 (l0.length:Int),.int .i64 1,.int .i64 150] rfl lz ?_;(with_reducible refine (spec_l1In.calls (l0.length:Int) 1 150 true _ A2.out).mono ?_);rintro e w' ⟨rfl,⟨nd,rfl⟩⟩;refine ⟨_,rfl,?_⟩)|((with_reducible refine gate_callee (f:=41) rfl ?_);refine goesL_ (some 11) rfl rfl Tryz.func41 kr rfl #[.slice A0 l0.length c0] rfl lz ?_;(with_reducible refine (spec_l3Starts.calls k _ _ l0 t602 false _ ?side1 ?side2 A4.out).mono ?_);(case side1=>repeat (first|exact HR0.out|(with_reducible refine Kd.C_alloc ?_ _)|(with_reducible refine Kd.C_drewN ?_ _)|(with_reducible refine Kd.C_drew ?_)));(case side2=>exact HC0.out);rintro e w11 ⟨v604,rfl,ho0,hb⟩;refine ⟨_,rfl,?_⟩;have HO605:=am (Kd.R_lower ho0 (below_size (bz0 HB.out)));replace HB:=bs (bz0 HB.out) hb;(try clear hb);(try clear ho0)))
   go_ret
   exact ⟨gz,(bz0 HB.out)⟩
 ·replace c3:=Bool.eq_false_iff.mpr c3
  subst c3
  have H1:=hq H
  clear H
  have H:=H1
  clear H1
  obtain rfl:=Option.some.inj H
  go_enter Tryz.func15,Tryz.ntmps15
  go_wp2_with (first|((with_reducible refine gate_callee (f:=40) rfl ?_);refine goesL_ (some 7) rfl rfl Tryz.func40 kr rfl #[.int .i64 (l0.length:Int),.int .i64 1,.int .i64 150] rfl lz ?_;(with_reducible refine (spec_l1In.calls (l0.length:Int) 1 150 false _ A2.out).mono ?_);rintro e w' ⟨rfl,⟨nd,rfl⟩⟩;refine ⟨_,rfl,?_⟩))
  go_ret
  exact ⟨gz,(bz0 HB.out)⟩
end Go.Proofs.YthmpgocaoccnaaaGreatDoor.PFnFresh
