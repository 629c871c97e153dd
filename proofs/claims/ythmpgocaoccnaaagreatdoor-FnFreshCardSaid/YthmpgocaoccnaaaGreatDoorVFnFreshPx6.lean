/- PFnFreshx6, of the words and walks that the law FnFresh needs; made by this session's program out of printed texts. -/
import Derived.Test.YthmpgocaoccnaaaGreatDoorVFnFreshPx0
import Derived.Test.YthmpgocaoccnaaaGreatDoorVFnFreshPx3
import Derived.Test.YthmpgocaoccnaaaGreatDoorVFnFreshPx4
import Derived.Test.YthmpgocaoccnaaaGreatDoorVFnFreshPx5
namespace Go.Proofs.YthmpgocaoccnaaaGreatDoor.PFnFresh
open Go.RowKit Go.Proofs.YthmpgocaoccnaaaGreatDoorW.PrintWords Go.Proofs.YthmpgocaoccnaaaGreatDoorW.PrintLast Go.Proofs.YthmpgocaoccnaaaGreatDoorW.PrintMore
attribute [local go_sem] max2_int min2_int max_two min_two max_three min_three max_four min_four
set_option linter.unusedVariables false
set_option linter.unusedSimpArgs false
def impl_Kids.f (k:Nat) (a0_0:Int) (a0_1:Int) (a0_2:Int) (a0_3:Int) (a0_4:Int) (a0_5:ByteArray) (a0_6:ByteArray):Option (List Int):=(some (([a0_1,a0_2,a0_3]:List Int):List Int)).bind fun y143=>((impl_Arity.f k a0_0).bind fun t146=>((impl_Arity.f k a0_0).bind fun t147=>(if 0 <= t146 then (if t146 <= t147 then (if t147 <= (y143.length:Int) then (some (y143.take (t146:Int).toNat)) else (none)) else (none)) else (none))))
theorem impl_Kids.mono:∀ a0 a1 a2 a3 a4 a5 a6 k,LeO (impl_Kids.f k a0 a1 a2 a3 a4 a5 a6) (impl_Kids.f (k+1) a0 a1 a2 a3 a4 a5 a6):=by
 intro a0 a1 a2 a3 a4 a5 a6 k
 unfold impl_Kids.f
 with_reducible repeat' first|exact impl_Arity.mono _ _|exact lrz _|exact lnz _|refine liz ?_ ?_|refine lbz ?_ fun _=>?_
def impl_Kids.T1:Bool × List (List Nat × List Nat):=(true,[([],[]),([0],[0]),([],[]),([2],[2]),([],[]),([4],[4]),([1,3,5],[1,3,5]),([],[]),([7],[7]),([8],[8]),([],[]),([10],[10]),([11,9],[11]),([6,9,12],[6,9,12]),([13,12,0,1,2,3,4,5,6,7,8,9,10,11,12,13],[13])])
def impl_Kids.B1:List Nat:=[0,1,0,4,0,16,63,0,128,384,0,1024,3968,8191,16383]
theorem impl_Kids.tab1:rtab .any (opsOf Tryz.f66 1)=impl_Kids.T1:=by kernel_rfl
theorem impl_Kids.bits1:waitsOk impl_Kids.T1.2 impl_Kids.B1=true:=by kernel_rfl
set_option maxHeartbeats 8000000 in
set_option maxRecDepth 100000 in
theorem impl_Kids.calls (k:Nat) (a0_0:Int) (a0_1:Int) (a0_2:Int) (a0_3:Int) (a0_4:Int) (a0_5:ByteArray) (a0_6:ByteArray) (r:List Int) (w:World) (h:impl_Kids.f k a0_0 a0_1 a0_2 a0_3 a0_4 a0_5 a0_6=some r) :
  Calls Tryz.prog 66 #[.agg #[.int .i64 a0_0,.int .i64 a0_1,.int .i64 a0_2,.int .i64 a0_3,.int .i64 a0_4,.string a0_5,.string a0_6]] w fun e w'=>∃ v0_:Value,e=.returned (v0_) /\ Kd.V (Kd.int .i64) 3 w' w.heap.size (fun k_=>(w.heap.size <= k_)) v0_ r /\ Below w.heap.size w w':=by
 have hu45:=Tryz.underlying45
 have HB:=am (Below.refl w.heap.size w)
 have H:((some (([a0_1,a0_2,a0_3]:List Int):List Int)).bind fun y143=>((impl_Arity.f k a0_0).bind fun t146=>((impl_Arity.f k a0_0).bind fun t147=>(if 0 <= t146 then (if t146 <= t147 then (if t147 <= (y143.length:Int) then (some (y143.take (t146:Int).toNat)) else (none)) else (none)) else (none)))))=some r:=h
 clear h
 obtain ⟨y143,hy143⟩:∃ y_:List Int,y_=(([a0_1,a0_2,a0_3]:List Int)):=⟨_,rfl⟩
 replace H:((impl_Arity.f k a0_0).bind fun t146=>((impl_Arity.f k a0_0).bind fun t147=>(if 0 <= t146 then (if t146 <= t147 then (if t147 <= (y143.length:Int) then (some (y143.take (t146:Int).toNat)) else (none)) else (none)) else (none))))=some r:=yz hy143 H
 have Ny143:=am hy143
 clear hy143
 replace H:=bi H
 obtain ⟨t146,A20,H⟩:=H
 try dsimp only at H
 have A2:=am A20
 clear A20
 replace H:=bi H
 obtain ⟨t147,A30,H⟩:=H
 try dsimp only at H
 have A3:=am A30
 clear A30
 replace H:=iz H
 obtain ⟨c4,H⟩:=H
 have c4b0:=eq_true c4
 have c4b1:decide (0 <= t146)=true:=decide_eq_true c4
 clear c4
 replace H:=iz H
 obtain ⟨c5,H⟩:=H
 have c5b0:=eq_true c5
 have c5b1:decide (t146 <= t147)=true:=decide_eq_true c5
 clear c5
 replace H:=iz H
 obtain ⟨c6,H⟩:=H
 have c6b0:=eq_true c6
 have c6b1:decide (t147 <= (y143.length:Int))=true:=decide_eq_true c6
 clear c6
 obtain ⟨y148,hy148⟩:∃ y_:List Int,y_=(y143.take (t146:Int).toNat):=⟨_,rfl⟩
 replace H:(some y148)=some r:=yz hy148 H
 have Ny148:=am hy148
 clear hy148
 obtain rfl:=Option.some.inj H
 go_enter Tryz.func66,Tryz.ntmps66
 try go_wp2_with (first|((with_reducible refine gate_dst (N:=1) rfl ?_);refine box_event ?hg (N:=1) ?hd (cs:=#[.int .i64 a0_0,.int .i64 a0_1,.int .i64 a0_2,.int .i64 a0_3,.int .i64 a0_4,.string a0_5,.string a0_6]) (t:=45) ?hr ?_;(case hd=>rfl);(case hg=>rfl);(case hr=>exact vz);intro gb142 hg w7 hbox hb;have BK142:=am (hbox);have GW142:=am ((by rw [hg];exact (below_size (bz0 HB.out)):w.heap.size <= gb142));have GE142:=GW142;replace HB:=bs (bz0 HB.out) hb;clear hb hbox hg))
 have n0_:=am (blk_drew BK142.out)
 have n1_:=am (below_drew1 HB.out)
 clear BK142
 clear HB
 have BK142:=n0_
 have HB:=n1_
 clear n0_ n1_
 refine start_ (n:=15) (S:=fun w'=>w'.cell? ⟨gb142,0,none⟩=some (.int .i64 a0_0) /\ w'.cell? ⟨gb142,1,none⟩=some (.int .i64 a0_1) /\ w'.cell? ⟨gb142,2,none⟩=some (.int .i64 a0_2) /\ w'.cell? ⟨gb142,3,none⟩=some (.int .i64 a0_3) /\ w'.cell? ⟨gb142,4,none⟩=some (.int .i64 a0_4) /\ w'.cell? ⟨gb142,5,none⟩=some (.string a0_5) /\ w'.cell? ⟨gb142,6,none⟩=some (.string a0_6)) (ds:=[]) (mk_ 0 15) kr rfl rfl ⟨(blk_cell BK142.out 0).trans rfl,(blk_cell BK142.out 1).trans rfl,(blk_cell BK142.out 2).trans rfl,(blk_cell BK142.out 3).trans rfl,(blk_cell BK142.out 4).trans rfl,(blk_cell BK142.out 5).trans rfl,(blk_cell BK142.out 6).trans rfl⟩ (fun hHeld=>?_);refine with_tabW impl_Kids.tab1 impl_Kids.bits1 (fun HT_ HW_=>?_)
 generalize w7.drew=w8 at BK142 HB hHeld ⊢
 refine pv 0 3 (mk_ 1 14) HT_ rfl rfl ?_
 refine pv 2 5 (bm_ 15 5) HT_ rfl rfl ?_
 refine pv 4 7 (bm_ 15 21) HT_ rfl rfl ?_
 refine pv 7 10 (bm_ 15 149) HT_ rfl rfl ?_
 refine pv 10 13 (bm_ 15 1173) HT_ rfl rfl ?_
 refine tv7 1 4 (bm_ 15 1175) HT_ HW_ rfl rfl hHeld ?_
 refine tv7 3 6 (bm_ 15 1183) HT_ HW_ rfl rfl hHeld ?_
 refine tv7 5 8 (bm_ 15 1215) HT_ HW_ rfl rfl hHeld ?_
 refine tv7 8 11 (bm_ 15 1471) HT_ HW_ rfl rfl hHeld ?_
 refine tv7 11 14 (bm_ 15 3519) HT_ HW_ rfl rfl hHeld ?_
 refine join_ (σ:=Value) 2 #[true,true,true,true,true,true,true,true,true,true,true,true,true,false,false] (fun s_=>[(9,s_),(12,.int .i64 t146),(15,.int .i64 t147)]) (fun s_ w'=>(w'.cell? ⟨gb142,0,none⟩=some (.int .i64 a0_0) /\ w'.cell? ⟨gb142,1,none⟩=some (.int .i64 a0_1) /\ w'.cell? ⟨gb142,2,none⟩=some (.int .i64 a0_2) /\ w'.cell? ⟨gb142,3,none⟩=some (.int .i64 a0_3) /\ w'.cell? ⟨gb142,4,none⟩=some (.int .i64 a0_4) /\ w'.cell? ⟨gb142,5,none⟩=some (.string a0_5) /\ w'.cell? ⟨gb142,6,none⟩=some (.string a0_6)) /\ (Kd.R (Kd.int .i64) 3 w' w.heap.size (fun k_=>(w.heap.size <= k_)) s_ y143) /\ (w'.heap[gb142]?=some (.cells #[.int .i64 a0_0,.int .i64 a0_1,.int .i64 a0_2,.int .i64 a0_3,.int .i64 a0_4,.string a0_5,.string a0_6] 45 (0,0))) /\ (Below w.heap.size w w')) ?_ ?_
 rotate_left
 ·intro hCont
  refine two_ (i:=6) (j:=9) (Ni:=some 9) (Nj:=some 12) #[true,true,true,true,true,true,true,true,true,false,true,true,false,false,false] #[true,true,true,true,true,true,false,true,true,true,true,true,false,false,false] rfl rfl rfl rfl (two_of HT_.out kr) (by decide) (by decide) (fun K hK=>?_) (fun K hK=>?_)
  ·skip
   refine Kd.R_lit_step (Kd.int .i64) _ 3 ?hg (N:=9) ?hd (xs:=([a0_1,a0_2,a0_3]:List Int)) (inner:=[.int .i64 a0_1,.int .i64 a0_2,.int .i64 a0_3]) (ok:=fun _=>True) (okp:=fun _=>True) ?hr ?hp (fun _ hk=>hk) trivial (Below.refl _ _) (Nat.le_refl _) (by simp) ?_;(case hd=>rfl);(case hg=>rfl);(case hr=>exact vz);(case hp=>exact (Reps.one (show Kd.M (Kd.int .i64) _ _ _ a0_1 [.int .i64 a0_1] from rfl) (Reps.one (show Kd.M (Kd.int .i64) _ _ _ a0_2 [.int .i64 a0_2] from rfl) (Reps.one (show Kd.M (Kd.int .i64) _ _ _ a0_3 [.int .i64 a0_3] from rfl) (Reps.none _ _)))))
   intro v144 w9 ho10 hb hg_ hnew_
   clear hg_ hnew_
   (first|rw [<- Ny143.out] at ho10|(simp only [Int.reduceToNat] at ho10;rw [<- Ny143.out] at ho10))
   have n0_:=am (Kd.R_lower (Kd.R_newM (M:=fun k_=>(w.heap.size <= k_)) ho10 (below_size (bz1 HB.out GE142.out)) (fun k_ h_=>h_)) (below_size (bz1 HB.out GE142.out)))
   have n1_:=am (blk_below (kz BK142.out) hb)
   have n2_:=am (below_step (bz1 HB.out GE142.out) hb)
   clear BK142
   clear HB
   have HO145:=n0_
   have BK142:=n1_
   have HB:=n2_
   clear n0_ n1_ n2_
   clear hb ho10
   refine hK.out _ _ ⟨(blk_cell BK142.out 0).trans rfl,(blk_cell BK142.out 1).trans rfl,(blk_cell BK142.out 2).trans rfl,(blk_cell BK142.out 3).trans rfl,(blk_cell BK142.out 4).trans rfl,(blk_cell BK142.out 5).trans rfl,(blk_cell BK142.out 6).trans rfl⟩ (fun hHeld=>?_)
   clear hK K
   refine norm_ (a':=?_) ?_ ?_
   rotate_left
   ·show Act.put _ (some 9) _=_
    simp only [Act.put,sz1,sz2,sz3,i64_w,i32_w]
    rfl
   refine one_ (i:=9) (N:=some 12) (mk_ 12 3) rfl rfl (one_of HT_.out kr) (by decide) (fun K hK=>?_)
   refine goes_ Tryz.func83 kr rfl #[.int .i64 a0_0] (by rfl) rfl rfl lz ?_
   with_reducible refine (impl_Arity.calls k a0_0 t146 _ A2.out).mono ?_
   rintro e w' ⟨rfl,⟨nd,rfl⟩⟩
   refine ⟨_,rfl,?_⟩
   refine hK.out _ _ ⟨(blk_cell BK142.out 0).trans rfl,(blk_cell BK142.out 1).trans rfl,(blk_cell BK142.out 2).trans rfl,(blk_cell BK142.out 3).trans rfl,(blk_cell BK142.out 4).trans rfl,(blk_cell BK142.out 5).trans rfl,(blk_cell BK142.out 6).trans rfl⟩ (fun hHeld=>?_)
   clear hK K
   refine norm_ (a':=?_) ?_ ?_
   rotate_left
   ·show Act.put _ (some 12) _=_
    simp only [Act.put,sz1,sz2,sz3,i64_w,i32_w]
    rfl
   refine one_ (i:=12) (N:=some 15) (mk_ 13 2) rfl rfl (one_of HT_.out kr) (by decide) (fun K hK=>?_)
   refine goes_ Tryz.func83 kr rfl #[.int .i64 a0_0] (by rfl) rfl rfl lz ?_
   with_reducible refine (impl_Arity.calls k a0_0 t147 _ A3.out).mono ?_
   rintro e w' ⟨rfl,⟨nd,rfl⟩⟩
   refine ⟨_,rfl,?_⟩
   refine hK.out _ _ ⟨(blk_cell BK142.out 0).trans rfl,(blk_cell BK142.out 1).trans rfl,(blk_cell BK142.out 2).trans rfl,(blk_cell BK142.out 3).trans rfl,(blk_cell BK142.out 4).trans rfl,(blk_cell BK142.out 5).trans rfl,(blk_cell BK142.out 6).trans rfl⟩ (fun hHeld=>?_)
   clear hK K
   refine norm_ (a':=?_) ?_ ?_
   rotate_left
   ·show Act.put _ (some 15) _=_
    simp only [Act.put,sz1,sz2,sz3,i64_w,i32_w]
    rfl
   exact norm_ (by simp only [putAll,Act.put,List.setIfInBounds_toArray,List.set_cons_zero,List.set_cons_succ]) (hCont (v144) _ ⟨hHeld,(by refine rq ?_;exact Kd.R_mono HO145.out (fun _ hk=>hk.1)),(kz BK142.out),(bz1 HB.out GE142.out)⟩)
  ·skip
   refine goes_ Tryz.func83 kr rfl #[.int .i64 a0_0] (by rfl) rfl rfl lz ?_
   with_reducible refine (impl_Arity.calls k a0_0 t146 _ A2.out).mono ?_
   rintro e w' ⟨rfl,⟨nd,rfl⟩⟩
   refine ⟨_,rfl,?_⟩
   refine hK.out _ _ ⟨(blk_cell BK142.out 0).trans rfl,(blk_cell BK142.out 1).trans rfl,(blk_cell BK142.out 2).trans rfl,(blk_cell BK142.out 3).trans rfl,(blk_cell BK142.out 4).trans rfl,(blk_cell BK142.out 5).trans rfl,(blk_cell BK142.out 6).trans rfl⟩ (fun hHeld=>?_)
   clear hK K
   refine norm_ (a':=?_) ?_ ?_
   rotate_left
   ·show Act.put _ (some 12) _=_
    simp only [Act.put,sz1,sz2,sz3,i64_w,i32_w]
    rfl
   refine two_ (i:=6) (j:=12) (Ni:=some 9) (Nj:=some 15) #[true,true,true,true,true,true,true,true,true,true,true,true,false,false,false] #[true,true,true,true,true,true,false,true,true,true,true,true,true,false,false] rfl rfl rfl rfl (two_of HT_.out kr) (by decide) (by decide) (fun K hK=>?_) (fun K hK=>?_)
   ·skip
    refine Kd.R_lit_step (Kd.int .i64) _ 3 ?hg (N:=9) ?hd (xs:=([a0_1,a0_2,a0_3]:List Int)) (inner:=[.int .i64 a0_1,.int .i64 a0_2,.int .i64 a0_3]) (ok:=fun _=>True) (okp:=fun _=>True) ?hr ?hp (fun _ hk=>hk) trivial (Below.refl _ _) (Nat.le_refl _) (by simp) ?_;(case hd=>rfl);(case hg=>rfl);(case hr=>exact vz);(case hp=>exact (Reps.one (show Kd.M (Kd.int .i64) _ _ _ a0_1 [.int .i64 a0_1] from rfl) (Reps.one (show Kd.M (Kd.int .i64) _ _ _ a0_2 [.int .i64 a0_2] from rfl) (Reps.one (show Kd.M (Kd.int .i64) _ _ _ a0_3 [.int .i64 a0_3] from rfl) (Reps.none _ _)))))
    intro v144 w9 ho10 hb hg_ hnew_
    clear hg_ hnew_
    (first|rw [<- Ny143.out] at ho10|(simp only [Int.reduceToNat] at ho10;rw [<- Ny143.out] at ho10))
    have n0_:=am (Kd.R_lower (Kd.R_newM (M:=fun k_=>(w.heap.size <= k_)) ho10 (below_size (bz1 HB.out GE142.out)) (fun k_ h_=>h_)) (below_size (bz1 HB.out GE142.out)))
    have n1_:=am (blk_below (kz BK142.out) hb)
    have n2_:=am (below_step (bz1 HB.out GE142.out) hb)
    clear BK142
    clear HB
    have HO145:=n0_
    have BK142:=n1_
    have HB:=n2_
    clear n0_ n1_ n2_
    clear hb ho10
    refine hK.out _ _ ⟨(blk_cell BK142.out 0).trans rfl,(blk_cell BK142.out 1).trans rfl,(blk_cell BK142.out 2).trans rfl,(blk_cell BK142.out 3).trans rfl,(blk_cell BK142.out 4).trans rfl,(blk_cell BK142.out 5).trans rfl,(blk_cell BK142.out 6).trans rfl⟩ (fun hHeld=>?_)
    clear hK K
    refine norm_ (a':=?_) ?_ ?_
    rotate_left
    ·show Act.put _ (some 9) _=_
     simp only [Act.put,sz1,sz2,sz3,i64_w,i32_w]
     rfl
    refine one_ (i:=12) (N:=some 15) (mk_ 13 2) rfl rfl (one_of HT_.out kr) (by decide) (fun K hK=>?_)
    refine goes_ Tryz.func83 kr rfl #[.int .i64 a0_0] (by rfl) rfl rfl lz ?_
    with_reducible refine (impl_Arity.calls k a0_0 t147 _ A3.out).mono ?_
    rintro e w' ⟨rfl,⟨nd,rfl⟩⟩
    refine ⟨_,rfl,?_⟩
    refine hK.out _ _ ⟨(blk_cell BK142.out 0).trans rfl,(blk_cell BK142.out 1).trans rfl,(blk_cell BK142.out 2).trans rfl,(blk_cell BK142.out 3).trans rfl,(blk_cell BK142.out 4).trans rfl,(blk_cell BK142.out 5).trans rfl,(blk_cell BK142.out 6).trans rfl⟩ (fun hHeld=>?_)
    clear hK K
    refine norm_ (a':=?_) ?_ ?_
    rotate_left
    ·show Act.put _ (some 15) _=_
     simp only [Act.put,sz1,sz2,sz3,i64_w,i32_w]
     rfl
    exact norm_ (by simp only [putAll,Act.put,List.setIfInBounds_toArray,List.set_cons_zero,List.set_cons_succ]) (hCont (v144) _ ⟨hHeld,(by refine rq ?_;exact Kd.R_mono HO145.out (fun _ hk=>hk.1)),(kz BK142.out),(bz1 HB.out GE142.out)⟩)
   ·skip
    refine goes_ Tryz.func83 kr rfl #[.int .i64 a0_0] (by rfl) rfl rfl lz ?_
    with_reducible refine (impl_Arity.calls k a0_0 t147 _ A3.out).mono ?_
    rintro e w' ⟨rfl,⟨nd,rfl⟩⟩
    refine ⟨_,rfl,?_⟩
    refine hK.out _ _ ⟨(blk_cell BK142.out 0).trans rfl,(blk_cell BK142.out 1).trans rfl,(blk_cell BK142.out 2).trans rfl,(blk_cell BK142.out 3).trans rfl,(blk_cell BK142.out 4).trans rfl,(blk_cell BK142.out 5).trans rfl,(blk_cell BK142.out 6).trans rfl⟩ (fun hHeld=>?_)
    clear hK K
    refine norm_ (a':=?_) ?_ ?_
    rotate_left
    ·show Act.put _ (some 15) _=_
     simp only [Act.put,sz1,sz2,sz3,i64_w,i32_w]
     rfl
    refine one_ (i:=6) (N:=some 9) (mk_ 13 2) rfl rfl (one_of HT_.out kr) (by decide) (fun K hK=>?_)
    refine Kd.R_lit_step (Kd.int .i64) _ 3 ?hg (N:=9) ?hd (xs:=([a0_1,a0_2,a0_3]:List Int)) (inner:=[.int .i64 a0_1,.int .i64 a0_2,.int .i64 a0_3]) (ok:=fun _=>True) (okp:=fun _=>True) ?hr ?hp (fun _ hk=>hk) trivial (Below.refl _ _) (Nat.le_refl _) (by simp) ?_;(case hd=>rfl);(case hg=>rfl);(case hr=>exact vz);(case hp=>exact (Reps.one (show Kd.M (Kd.int .i64) _ _ _ a0_1 [.int .i64 a0_1] from rfl) (Reps.one (show Kd.M (Kd.int .i64) _ _ _ a0_2 [.int .i64 a0_2] from rfl) (Reps.one (show Kd.M (Kd.int .i64) _ _ _ a0_3 [.int .i64 a0_3] from rfl) (Reps.none _ _)))))
    intro v144 w9 ho10 hb hg_ hnew_
    clear hg_ hnew_
    (first|rw [<- Ny143.out] at ho10|(simp only [Int.reduceToNat] at ho10;rw [<- Ny143.out] at ho10))
    have n0_:=am (Kd.R_lower (Kd.R_newM (M:=fun k_=>(w.heap.size <= k_)) ho10 (below_size (bz1 HB.out GE142.out)) (fun k_ h_=>h_)) (below_size (bz1 HB.out GE142.out)))
    have n1_:=am (blk_below (kz BK142.out) hb)
    have n2_:=am (below_step (bz1 HB.out GE142.out) hb)
    clear BK142
    clear HB
    have HO145:=n0_
    have BK142:=n1_
    have HB:=n2_
    clear n0_ n1_ n2_
    clear hb ho10
    refine hK.out _ _ ⟨(blk_cell BK142.out 0).trans rfl,(blk_cell BK142.out 1).trans rfl,(blk_cell BK142.out 2).trans rfl,(blk_cell BK142.out 3).trans rfl,(blk_cell BK142.out 4).trans rfl,(blk_cell BK142.out 5).trans rfl,(blk_cell BK142.out 6).trans rfl⟩ (fun hHeld=>?_)
    clear hK K
    refine norm_ (a':=?_) ?_ ?_
    rotate_left
    ·show Act.put _ (some 9) _=_
     simp only [Act.put,sz1,sz2,sz3,i64_w,i32_w]
     rfl
    exact norm_ (by simp only [putAll,Act.put,List.setIfInBounds_toArray,List.set_cons_zero,List.set_cons_succ]) (hCont (v144) _ ⟨hHeld,(by refine rq ?_;exact Kd.R_mono HO145.out (fun _ hk=>hk.1)),(kz BK142.out),(bz1 HB.out GE142.out)⟩)
 rintro v144 w11 ⟨hS_,h0_,h1_,h2_⟩
 have n0_:Aside0 (Kd.R (Kd.int .i64) 3 w11 w.heap.size (fun k_=>(w.heap.size <= k_)) v144 y143):=⟨h0_⟩
 have n1_:Aside0 (w11.heap[gb142]?=some (.cells #[.int .i64 a0_0,.int .i64 a0_1,.int .i64 a0_2,.int .i64 a0_3,.int .i64 a0_4,.string a0_5,.string a0_6] 45 (0,0))):=⟨h1_⟩
 have n2_:Aside0 (Below w.heap.size w w11):=⟨h2_⟩
 clear BK142
 clear HB
 clear h0_ h1_ h2_
 have HO145:=n0_
 have BK142:=n1_
 have HB:=n2_
 clear n0_ n1_ n2_
 have hHeld:w11.cell? ⟨gb142,0,none⟩=some (.int .i64 a0_0) /\ w11.cell? ⟨gb142,1,none⟩=some (.int .i64 a0_1) /\ w11.cell? ⟨gb142,2,none⟩=some (.int .i64 a0_2) /\ w11.cell? ⟨gb142,3,none⟩=some (.int .i64 a0_3) /\ w11.cell? ⟨gb142,4,none⟩=some (.int .i64 a0_4) /\ w11.cell? ⟨gb142,5,none⟩=some (.string a0_5) /\ w11.cell? ⟨gb142,6,none⟩=some (.string a0_6):=hS_
 obtain ⟨Ao13,co13,eo13⟩:=Kd.R_slice HO145.out
 (first|subst eo13|(injection eo13 with f1_ f2_ f3_;have f4_:=f1_.symm;have f5_:=f3_.symm;clear f1_ f2_ f3_;subst f4_;subst f5_))
 have q12:(t146:Int) <= ((y143.length:Int):Int):=Int.le_trans (b:=(t147:Int)) (of_decide_eq_true az) (of_decide_eq_true az)
 obtain ⟨i012,hi012,_,hsz12,_⟩:=info_parts info3
 have hroom12:y143.length <= co13:=(Kd.R_reads' HO145.out).2.1
 have hC12:Kd.F (Kd.int .i64) _ _ Ao13 y143.length y143:=(Kd.V_at (base:=w.heap.size) (Kd.R_V (Kd.R_types (HO145.out) BK142.out (by decide)))).2.2
 have qm12:(t146:Int) <= (t147:Int):=oz
 have qn12:(t147:Int) <= ((y143.length:Int):Int):=oz
 have hcut12:=cut_to3 (P:=Tryz.prog) 53 3 .i64 .i64 Tryz.underlying53 hi012 Ao13 y143.length co13 t146 t147 (of_decide_eq_true az) qm12 qn12 hroom12
 have hr12:=Kd.F_take (m:=(t146:Int).toNat) hC12 (by omega)
 have hy12:y148.length=(t146:Int).toNat:=(by rw [Ny148.out,List.length_take];omega)
 rw [<- Ny148.out] at hr12
 rw [<- hy12] at hcut12
 have HO151:=am (show Kd.V (Kd.int .i64) 3 _ w.heap.size _ (.slice Ao13 y148.length (t147:Int).toNat) y148 from Kd.V_mk (by omega) hr12)
 have HC151:=am (show y148.length <= (t147:Int).toNat from by omega)
 clear hr12 hC12 hroom12 hi012 hsz12 qm12 qn12
 have KY12:=am hy12
 clear hy12
 replace q12:=eq_true q12
 refine norm_ (a':=?_) ?_ ?_
 rotate_left
 ·simp only [putAll,Act.put,List.setIfInBounds_toArray,List.set_cons_zero,List.set_cons_succ]
  rfl
 refine pv 13 16 (mk_ 14 1) HT_ rfl rfl ?_
 refine pv 14 2 (mk_ 15 0) HT_ rfl rfl ?_
 refine done_ (done_of HT_.out kr) ?_
 try go_wp2
 go_ret
 exact ⟨_,gz,by (with_reducible repeat (first|apply Kd.V_alloc|apply Kd.V_drewN|apply Kd.V_drew));exact Kd.V_mono HO151.out (fun _ hk=>hk.1),(bz1 HB.out GE142.out)⟩
mutual
def impl_NodesOk.l0:Nat -> List (S45) -> List Int -> List (S45) -> Int -> Int -> Option (Bool)
 | 0,_,_,_,_,_=>none
 | k+1,x0,x3,x16,x17,x18=>if x18<x17 then (if 0 <= x18 then (if x18<(x16.length:Int) then ((impl_fieldsOk.f k ((rd_T45 x16 x18).f0) ((rd_T45 x16 x18).f1) ((rd_T45 x16 x18).f2) ((rd_T45 x16 x18).f3) ((rd_T45 x16 x18).f4) ((rd_T45 x16 x18).f5) ((rd_T45 x16 x18).f6)).bind fun t159=>(if t159=true then ((impl_Kids.f k ((rd_T45 x16 x18).f0) ((rd_T45 x16 x18).f1) ((rd_T45 x16 x18).f2) ((rd_T45 x16 x18).f3) ((rd_T45 x16 x18).f4) ((rd_T45 x16 x18).f5) ((rd_T45 x16 x18).f6)).bind fun t160=>(impl_NodesOk.l1 k x0 x3 x18 t160 x18 (wrap64 ((t160.length:Int) - 1)) x16 x17 x18)) else (some false))) else (none)) else (none)) else (if 0 <= (wrap64 ((x0.length:Int) - 1)) then (if (wrap64 ((x0.length:Int) - 1))<(x3.length:Int) then (some ((rd x3 (wrap64 ((x0.length:Int) - 1))) == 0)) else (none)) else (none))
def impl_NodesOk.l1:Nat -> List (S45) -> List Int -> Int -> List Int -> Int -> Int -> List (S45) -> Int -> Int -> Option (Bool)
 | 0,_,_,_,_,_,_,_,_,_=>none
 | k+1,x0,x3,x4,x6,x7,x8,x16,x17,x18=>if x8≥0 then (if x7=0 then (some false) else (if 0 <= x8 then (if x8<(x6.length:Int) then (if (rd x6 x8)=(wrap64 (x7 - 1)) then (if 0 <= (wrap64 (x7 - 1)) then (if (wrap64 (x7 - 1))<(x3.length:Int) then (impl_NodesOk.l1 k x0 x3 x4 x6 (rd x3 (wrap64 (x7 - 1))) (wrap64 (x8 - 1)) x16 x17 x18) else (none)) else (none)) else (some false)) else (none)) else (none))) else (if 0 <= x4 then (if x4<(x3.length:Int) then (impl_NodesOk.l0 k x0 (x3.set (x4:Int).toNat x7) x16 x17 (wrap64 (x18+1))) else (none)) else (none))
end
def impl_NodesOk.f (k:Nat) (l0:List (S45)):Option (Bool):=(impl_in.f (l0.length:Int) 1 150).bind fun t152=>(if t152=true then (if 0 <= (l0.length:Int) then (if ((l0.length:Int):Int).toNat <= 35184372088832 then (impl_NodesOk.l0 k l0 (List.replicate ((l0.length:Int):Int).toNat 0) l0 (l0.length:Int) 0) else (none)) else (none)) else (some false))
theorem impl_NodesOk.mono_l:∀ k,(∀ y0 y1 y2 y3 y4,LeO (impl_NodesOk.l0 k y0 y1 y2 y3 y4) (impl_NodesOk.l0 (k+1) y0 y1 y2 y3 y4)) /\ (∀ y0 y1 y2 y3 y4 y5 y6 y7 y8,LeO (impl_NodesOk.l1 k y0 y1 y2 y3 y4 y5 y6 y7 y8) (impl_NodesOk.l1 (k+1) y0 y1 y2 y3 y4 y5 y6 y7 y8))
 | 0=>⟨fun _ _ _ _ _ r h=>by simp [impl_NodesOk.l0] at h,fun _ _ _ _ _ _ _ _ _ r h=>by simp [impl_NodesOk.l1] at h⟩
 | k+1=>by
  obtain ⟨ih0,ih1⟩:=impl_NodesOk.mono_l k
  refine ⟨?_,?_⟩
  ·intro y0 y1 y2 y3 y4
   unfold impl_NodesOk.l0
   with_reducible repeat' first|exact ih0 _ _ _ _ _|exact ih1 _ _ _ _ _ _ _ _ _|exact impl_Kids.mono _ _ _ _ _ _ _ _|exact impl_fieldsOk.mono _ _ _ _ _ _ _ _|exact lrz _|exact lnz _|refine liz ?_ ?_|refine lbz ?_ fun _=>?_
  ·intro y0 y1 y2 y3 y4 y5 y6 y7 y8
   unfold impl_NodesOk.l1
   with_reducible repeat' first|exact ih0 _ _ _ _ _|exact ih1 _ _ _ _ _ _ _ _ _|exact impl_Kids.mono _ _ _ _ _ _ _ _|exact impl_fieldsOk.mono _ _ _ _ _ _ _ _|exact lrz _|exact lnz _|refine liz ?_ ?_|refine lbz ?_ fun _=>?_
theorem impl_NodesOk.mono:∀ a0 k,LeO (impl_NodesOk.f k a0) (impl_NodesOk.f (k+1) a0):=by
 intro a0 k
 obtain ⟨ih0,ih1⟩:=impl_NodesOk.mono_l k
 unfold impl_NodesOk.f
 with_reducible repeat' first|exact ih0 _ _ _ _ _|exact ih1 _ _ _ _ _ _ _ _ _|exact impl_Kids.mono _ _ _ _ _ _ _ _|exact impl_fieldsOk.mono _ _ _ _ _ _ _ _|exact lrz _|exact lnz _|refine liz ?_ ?_|refine lbz ?_ fun _=>?_
set_option maxHeartbeats 8000000 in
set_option maxRecDepth 100000 in
theorem impl_NodesOk.calls (k:Nat) (A0:Option Addr) (c0:Nat) (l0:List (S45)) (r:Bool) (w:World) (hr0:Kd.C k45 w A0 l0.length l0) (hc0:l0.length <= c0) (h:impl_NodesOk.f k l0=some r) :
  Calls Tryz.prog 44 #[.slice A0 l0.length c0] w fun e w'=>e=.returned (.bool r) /\ Below w.heap.size w w':=by
 have hu45:=Tryz.underlying45
 have HR0:=am hr0
 have HC0:=am hc0
 clear hr0 hc0
 have HB:=am (Below.refl w.heap.size w)
 have H:((impl_in.f (l0.length:Int) 1 150).bind fun t152=>(if t152=true then (if 0 <= (l0.length:Int) then (if ((l0.length:Int):Int).toNat <= 35184372088832 then (impl_NodesOk.l0 k l0 (List.replicate ((l0.length:Int):Int).toNat 0) l0 (l0.length:Int) 0) else (none)) else (none)) else (some false)))=some r:=h
 clear h
 replace H:=bi H
 obtain ⟨t152,A20,H⟩:=H
 try dsimp only at H
 have A2:=am A20
 clear A20
 by_cases c3:t152=true
 ·subst c3
  have H1:=hp H
  clear H
  have H:=H1
  clear H1
  replace H:=iz H
  obtain ⟨c4,H⟩:=H
  have c4b0:=eq_true c4
  have c4b1:decide (0 <= (l0.length:Int))=true:=decide_eq_true c4
  clear c4
  replace H:=iz H
  obtain ⟨c5,H⟩:=H
  have c5b0:=eq_true c5
  have c5b1:decide (((l0.length:Int):Int).toNat <= 35184372088832)=true:=decide_eq_true c5
  clear c5
  obtain ⟨y153,hy153⟩:∃ y_:List Int,y_=(List.replicate ((l0.length:Int):Int).toNat 0):=⟨_,rfl⟩
  replace H:(impl_NodesOk.l0 k l0 y153 l0 (l0.length:Int) 0)=some r:=yz hy153 H
  have Ny153:=am hy153
  clear hy153
  have H':=am H
  clear H
  go_enter Tryz.func44,Tryz.ntmps44
  go_wp2_with (first|((with_reducible refine gate_callee (f:=47) rfl ?_);refine goesL_ (some 11) rfl rfl Tryz.func47 kr rfl #[.int .i64 (l0.length:Int),.int .i64 1,.int .i64 150] rfl lz ?_;(with_reducible refine (impl_in.calls (l0.length:Int) 1 150 true _ A2.out).mono ?_);rintro e w' ⟨rfl,⟨nd,rfl⟩⟩;refine ⟨_,rfl,?_⟩)|((with_reducible refine gate_dst (N:=15) rfl ?_);refine Kd.R_make (Kd.int .i64) _ 3 rfl (N:=15) rfl 53 _ _ rfl (l0.length:Int) rfl rfl Tryz.underlying53 (.int .i64 0) 8 info3 rfl (by decide) (by omega) 0 (ok:=fun _=>True) (okp:=fun _=>True) rfl (fun _ hk=>hk) trivial (of_decide_eq_true az) (Nat.le_trans (Nat.mul_le_mul_right _ (of_decide_eq_true az:(l0.length:Int).toNat <= 35184372088832)) (by omega)) (Below.refl _ _) (Nat.le_refl _) ?_;intro v154 w6 ho7 hb hg_ hnew_;clear hg_ hnew_;(first|rw [<- Ny153.out] at ho7|(simp only [Int.reduceToNat] at ho7;rw [<- Ny153.out] at ho7));have HO155:=am (Kd.R_lower ho7 (below_size (bz0 HB.out)));replace HB:=bs (bz0 HB.out) hb;clear hb ho7))
  go_loopg [18] k (fun kq v18 w'=>∃ (x3_1:List Int) (x18_1:Int),v18=.int .i64 x18_1 /\ Aside0 (impl_NodesOk.l0 kq l0 x3_1 l0 (l0.length:Int) x18_1=some r) /\ Aside0 (kq <= k) /\ Aside0 (Kd.R (Kd.int .i64) 3 w' w.heap.size (fun _=>True) v154 x3_1) /\ Aside0 (Below w.heap.size w w'))
  case atStart=>exact ⟨(y153),(0),ez,H',⟨Nat.le_refl _⟩,⟨by refine rq ?_;exact HO155.out⟩,⟨(bz0 HB.out)⟩⟩
  case round =>
   clear H'
   try clear p2
   try clear c3
   try clear c4
   try clear c4b0
   try clear c4b1
   try clear c5
   try clear c5b0
   try clear c5b1
   obtain ⟨x3_1,x18_1,rfl,HA,HK1,HO_3,HB⟩:=hrel
   cases gk with
   | zero=>exact absurd HA.out (by simp [impl_NodesOk.l0])
   | succ k1 =>
    have H:=HA.out
    clear HA
    simp only [impl_NodesOk.l0] at H
    by_cases c8:x18_1<(l0.length:Int)
    ·rw [if_pos c8] at H
     have c8b0:=decide_eq_true c8
     clear c8
     replace H:=iz H
     obtain ⟨c9,H⟩:=H
     have c9b0:=decide_eq_true c9
     clear c9
     replace H:=iz H
     obtain ⟨c10,H⟩:=H
     have c10b0:=decide_eq_true c10
     clear c10
     replace H:=bi H
     obtain ⟨t159,A110,H⟩:=H
     try dsimp only at H
     have A11:=am A110
     clear A110
     by_cases c12:t159=true
     ·subst c12
      have H1:=hp H
      clear H
      have H:=H1
      clear H1
      replace H:=bi H
      obtain ⟨t160,A130,H⟩:=H
      try dsimp only at H
      have A13:=am A130
      clear A130
      have H':=am H
      clear H
      have p157:0 <= (x18_1:Int):=oz
      have q157:x18_1<(l0.length:Int):=oz
      obtain ⟨ad157,e157,hx157_0,hx157_1,hx157_2,hx157_3,hx157_4,hx157_5,hx157_6⟩:=at_T45 (Kd.C_below HR0.out HB.out) x18_1 p157 q157
      cases e157
      replace p157:=eq_true p157
      replace q157:=eq_true q157
      go_wp2_with (first|((with_reducible refine gate_dst (N:=5) rfl ?_);refine box_event ?hg (N:=5) ?hd (cs:=#[.int .i64 0,.int .i64 0,.int .i64 0,.int .i64 0,.int .i64 0,.string (⟨#[]⟩:ByteArray),.string (⟨#[]⟩:ByteArray)]) (t:=45) ?hr ?_;(case hd=>rfl);(case hg=>rfl);(case hr=>exact vz);intro gb158 hg w14 hbox hb;replace HO_3:=qz HO_3 hb;have BK158:=am (hbox);have GW158:=am ((by rw [hg];exact (below_size (bz0 HB.out)):w.heap.size <= gb158));have GE158:=GW158;replace HB:=bs (bz0 HB.out) hb;clear hb hbox hg;obtain ⟨hcz15_0,hcz15_1,hcz15_2,hcz15_3,hcz15_4,hcz15_5,hcz15_6⟩:=cz7 BK158.out;obtain ⟨hfz15_0,hfz15_1,hfz15_2,hfz15_3,hfz15_4,hfz15_5,hfz15_6⟩:=fz7 BK158.out)|((with_reducible refine gate_callee (f:=65) rfl ?_);refine goesL_ (some 24) rfl rfl Tryz.func65 kr rfl #[.agg #[.int .i64 ((rd_T45 l0 x18_1).f0),.int .i64 ((rd_T45 l0 x18_1).f1),.int .i64 ((rd_T45 l0 x18_1).f2),.int .i64 ((rd_T45 l0 x18_1).f3),.int .i64 ((rd_T45 l0 x18_1).f4),.string ((rd_T45 l0 x18_1).f5),.string ((rd_T45 l0 x18_1).f6)]] rfl lz ?_;(with_reducible refine (impl_fieldsOk.calls k1 ((rd_T45 l0 x18_1).f0) ((rd_T45 l0 x18_1).f1) ((rd_T45 l0 x18_1).f2) ((rd_T45 l0 x18_1).f3) ((rd_T45 l0 x18_1).f4) ((rd_T45 l0 x18_1).f5) ((rd_T45 l0 x18_1).f6) true _ A11.out).mono ?_);rintro e w16 ⟨rfl,hb⟩;refine ⟨_,rfl,?_⟩;replace HO_3:=am (Kd.R_below (by refine rq ?_;exact (Kd.R_mono (Kd.R_far (p:=⟨gb158,6,none⟩) (Kd.R_far (p:=⟨gb158,5,none⟩) (Kd.R_far (p:=⟨gb158,4,none⟩) (Kd.R_far (p:=⟨gb158,3,none⟩) (Kd.R_far (p:=⟨gb158,2,none⟩) (Kd.R_far (p:=⟨gb158,1,none⟩) (Kd.R_far (p:=⟨gb158,0,none⟩) (Kd.R_types HO_3.out BK158.out (by decide)) (fun _ hk=>hk.2) (.int .i64 ((rd_T45 l0 x18_1).f0))) (fun _ hk=>hk.2) (.int .i64 ((rd_T45 l0 x18_1).f1))) (fun _ hk=>hk.2) (.int .i64 ((rd_T45 l0 x18_1).f2))) (fun _ hk=>hk.2) (.int .i64 ((rd_T45 l0 x18_1).f3))) (fun _ hk=>hk.2) (.int .i64 ((rd_T45 l0 x18_1).f4))) (fun _ hk=>hk.2) (.string ((rd_T45 l0 x18_1).f5))) (fun _ hk=>hk.2) (.string ((rd_T45 l0 x18_1).f6))) (fun _ h_=>h_.1))) hb);replace BK158:=am (blk_below (g:=gb158) (o:=.cells #[.int .i64 ((rd_T45 l0 x18_1).f0),.int .i64 ((rd_T45 l0 x18_1).f1),.int .i64 ((rd_T45 l0 x18_1).f2),.int .i64 ((rd_T45 l0 x18_1).f3),.int .i64 ((rd_T45 l0 x18_1).f4),.string ((rd_T45 l0 x18_1).f5),.string ((rd_T45 l0 x18_1).f6)] 45 (0,0)) (by refine kq ?_;refine blk_put (cs:=#[.int .i64 ((rd_T45 l0 x18_1).f0),.int .i64 ((rd_T45 l0 x18_1).f1),.int .i64 ((rd_T45 l0 x18_1).f2),.int .i64 ((rd_T45 l0 x18_1).f3),.int .i64 ((rd_T45 l0 x18_1).f4),.string ((rd_T45 l0 x18_1).f5),.string (⟨#[]⟩:ByteArray)]) ?_ 6 _ rfl;refine kq ?_;refine blk_put (cs:=#[.int .i64 ((rd_T45 l0 x18_1).f0),.int .i64 ((rd_T45 l0 x18_1).f1),.int .i64 ((rd_T45 l0 x18_1).f2),.int .i64 ((rd_T45 l0 x18_1).f3),.int .i64 ((rd_T45 l0 x18_1).f4),.string (⟨#[]⟩:ByteArray),.string (⟨#[]⟩:ByteArray)]) ?_ 5 _ rfl;refine kq ?_;refine blk_put (cs:=#[.int .i64 ((rd_T45 l0 x18_1).f0),.int .i64 ((rd_T45 l0 x18_1).f1),.int .i64 ((rd_T45 l0 x18_1).f2),.int .i64 ((rd_T45 l0 x18_1).f3),.int .i64 0,.string (⟨#[]⟩:ByteArray),.string (⟨#[]⟩:ByteArray)]) ?_ 4 _ rfl;refine kq ?_;refine blk_put (cs:=#[.int .i64 ((rd_T45 l0 x18_1).f0),.int .i64 ((rd_T45 l0 x18_1).f1),.int .i64 ((rd_T45 l0 x18_1).f2),.int .i64 0,.int .i64 0,.string (⟨#[]⟩:ByteArray),.string (⟨#[]⟩:ByteArray)]) ?_ 3 _ rfl;refine kq ?_;refine blk_put (cs:=#[.int .i64 ((rd_T45 l0 x18_1).f0),.int .i64 ((rd_T45 l0 x18_1).f1),.int .i64 0,.int .i64 0,.int .i64 0,.string (⟨#[]⟩:ByteArray),.string (⟨#[]⟩:ByteArray)]) ?_ 2 _ rfl;refine kq ?_;refine blk_put (cs:=#[.int .i64 ((rd_T45 l0 x18_1).f0),.int .i64 0,.int .i64 0,.int .i64 0,.int .i64 0,.string (⟨#[]⟩:ByteArray),.string (⟨#[]⟩:ByteArray)]) ?_ 1 _ rfl;refine kq ?_;refine blk_put (cs:=#[.int .i64 0,.int .i64 0,.int .i64 0,.int .i64 0,.int .i64 0,.string (⟨#[]⟩:ByteArray),.string (⟨#[]⟩:ByteArray)]) ?_ 0 _ rfl;refine kq ?_;exact BK158.out) hb);replace HB:=bs (bz1 HB.out GE158.out) hb;(try clear hb);(try clear hk);obtain ⟨hcz17_0,hcz17_1,hcz17_2,hcz17_3,hcz17_4,hcz17_5,hcz17_6⟩:=cz7 BK158.out;obtain ⟨hfz17_0,hfz17_1,hfz17_2,hfz17_3,hfz17_4,hfz17_5,hfz17_6⟩:=fz7 BK158.out)|((with_reducible refine gate_callee (f:=66) rfl ?_);refine goesL_ (some 27) rfl rfl Tryz.func66 kr rfl #[.agg #[.int .i64 ((rd_T45 l0 x18_1).f0),.int .i64 ((rd_T45 l0 x18_1).f1),.int .i64 ((rd_T45 l0 x18_1).f2),.int .i64 ((rd_T45 l0 x18_1).f3),.int .i64 ((rd_T45 l0 x18_1).f4),.string ((rd_T45 l0 x18_1).f5),.string ((rd_T45 l0 x18_1).f6)]] rfl lz ?_;(with_reducible refine (impl_Kids.calls k1 ((rd_T45 l0 x18_1).f0) ((rd_T45 l0 x18_1).f1) ((rd_T45 l0 x18_1).f2) ((rd_T45 l0 x18_1).f3) ((rd_T45 l0 x18_1).f4) ((rd_T45 l0 x18_1).f5) ((rd_T45 l0 x18_1).f6) t160 _ A13.out).mono ?_);rintro e w18 ⟨v161,rfl,ho0,hb⟩;refine ⟨_,rfl,?_⟩;have HO162:=am (Kd.V_lower (Kd.V_mono (ok':=fun k_=>some k_≠(v154:Value).ownBlock /\ k_≠gb158) ho0 (fun k_ hk_=>⟨(Kd.fresh' (Kd.R_lt (rz HO_3.out)) k_ hk_),(Kd.freshB (g:=gb158) (o:=.cells #[.int .i64 ((rd_T45 l0 x18_1).f0),.int .i64 ((rd_T45 l0 x18_1).f1),.int .i64 ((rd_T45 l0 x18_1).f2),.int .i64 ((rd_T45 l0 x18_1).f3),.int .i64 ((rd_T45 l0 x18_1).f4),.string ((rd_T45 l0 x18_1).f5),.string ((rd_T45 l0 x18_1).f6)] 45 (0,0)) (kz BK158.out) k_ hk_)⟩)) (below_size (bz1 HB.out GE158.out)));replace HO_3:=qz HO_3 hb;replace BK158:=kb BK158 hb;replace HB:=bs (bz1 HB.out GE158.out) hb;(try clear hb);(try clear hk);(try clear ho0);obtain ⟨Ao19,co19,eo19⟩:=Kd.V_slice HO162.out;subst eo19))
      (try simp only [Act.put,sz1,sz2,sz3])
      go_loopg [7,8] k1 (fun kq v7 v8 w'=>∃ (x7_2:Int) (x8_2:Int),v7=.int .i64 x7_2 /\ v8=.int .i64 x8_2 /\ Aside0 (impl_NodesOk.l1 kq l0 x3_1 x18_1 t160 x7_2 x8_2 l0 (l0.length:Int) x18_1=some r) /\ Aside0 (kq <= k1) /\ Aside0 (Kd.R (Kd.int .i64) 3 w' w.heap.size (fun _=>True) v154 x3_1) /\ Aside0 (Kd.V (Kd.int .i64) 3 w' w.heap.size (fun k_=>some k_≠(v154:Value).ownBlock /\ k_≠gb158) (.slice Ao19 t160.length co19) t160) /\ Aside0 (w'.heap[gb158]?=some (.cells #[.int .i64 ((rd_T45 l0 x18_1).f0),.int .i64 ((rd_T45 l0 x18_1).f1),.int .i64 ((rd_T45 l0 x18_1).f2),.int .i64 ((rd_T45 l0 x18_1).f3),.int .i64 ((rd_T45 l0 x18_1).f4),.string ((rd_T45 l0 x18_1).f5),.string ((rd_T45 l0 x18_1).f6)] 45 (0,0))) /\ Aside0 (Below w.heap.size w w'))
      case atStart=>exact ⟨(x18_1),(wrap64 ((t160.length:Int) - 1)),ez,ez,H',⟨Nat.le_refl _⟩,⟨by refine rq ?_;exact HO_3.out⟩,⟨by (with_reducible repeat (first|apply Kd.V_alloc|apply Kd.V_drewN|apply Kd.V_drew));exact HO162.out⟩,⟨by refine kq ?_;exact BK158.out⟩,⟨(bz1 HB.out GE158.out)⟩⟩
      case round =>
       clear H'
       try clear c1
       try clear p1
       try clear q1
       try clear hx1
       try clear p2
       try clear c3
       try clear c4
       try clear c4b0
       try clear c4b1
       try clear c5
       try clear c5b0
       try clear c5b1
       try clear c6
       try clear p6
       try clear c8
       try clear c8b0
       try clear c9
       try clear c9b0
       try clear c10
       try clear c10b0
       try clear c12
       try clear p15
       try clear q15
       try clear hx15
       try clear hcz15_0 hcz15_1 hcz15_2 hcz15_3 hcz15_4 hcz15_5 hcz15_6
       try clear hcz17_0 hcz17_1 hcz17_2 hcz17_3 hcz17_4 hcz17_5 hcz17_6
       try clear hfz15_0 hfz15_1 hfz15_2 hfz15_3 hfz15_4 hfz15_5 hfz15_6
       try clear hfz17_0 hfz17_1 hfz17_2 hfz17_3 hfz17_4 hfz17_5 hfz17_6
       try clear hx157_0
       try clear hx157_1
       try clear hx157_2
       try clear hx157_3
       try clear hx157_4
       try clear hx157_5
       try clear hx157_6
       try clear p157
       try clear p2
       try clear q157
       obtain ⟨x7_2,x8_2,rfl,rfl,HA,HK2,HO_3,HO_6,BK158,HB⟩:=hrel
       cases gk with
       | zero=>exact absurd HA.out (by simp [impl_NodesOk.l1])
       | succ k2 =>
        have H:=HA.out
        clear HA
        simp only [impl_NodesOk.l1] at H
        by_cases c20:x8_2≥0
        ·rw [if_pos c20] at H
         have c20b0:decide (0 <= x8_2)=true:=decide_eq_true c20
         clear c20
         by_cases c21:x7_2=0
         ·rw [if_pos c21] at H
          have c21b0:(x7_2 == 0)=true:=beq_iff_eq.mpr c21
          have c21b1:(x7_2 != 0)=false:=bne_eq_false_iff_eq.mpr c21
          clear c21
          obtain rfl:=Option.some.inj H
          go_wp2
          go_ret
          exact ⟨gz,(bz1 HB.out GE158.out)⟩
         ·rw [if_neg c21] at H
          have c21b0:(x7_2 == 0)=false:=beq_eq_false_iff_ne.mpr c21
          have c21b1:(x7_2 != 0)=true:=bne_iff_ne.mpr c21
          replace H:=iz H
          obtain ⟨c22,H⟩:=H
          have c22b0:=decide_eq_true c22
          clear c22
          replace H:=iz H
          obtain ⟨c23,H⟩:=H
          have c23b0:=decide_eq_true c23
          clear c23
          by_cases c24:(rd t160 x8_2)=(wrap64 (x7_2 - 1))
          ·rw [if_pos c24] at H
           have c24b0:((rd t160 x8_2) == (wrap64 (x7_2 - 1)))=true:=beq_iff_eq.mpr c24
           have c24b1:((rd t160 x8_2) != (wrap64 (x7_2 - 1)))=false:=bne_eq_false_iff_eq.mpr c24
           clear c24
           obtain ⟨ji25,hji25⟩:∃ j_:Int,(wrap64 (x7_2 - 1))=j_:=⟨_,rfl⟩
           replace H:(if 0 <= (ji25) then (if (ji25)<(x3_1.length:Int) then (impl_NodesOk.l1 k2 l0 x3_1 x18_1 t160 (rd x3_1 (ji25)) (wrap64 (x8_2 - 1)) l0 (l0.length:Int) x18_1) else (none)) else (none))=some r:=by first|(rw [hji25] at H;exact H)|(simp only [hji25] at H ⊢;exact H)
           (try rw [hji25] at c24b0)
           (try rw [hji25] at c24b1)
           have hji25w:(IntKind.i64.wrap (x7_2 - 1))=ji25:=(i64_w _).trans hji25
           replace H:=iz H
           obtain ⟨c26,H⟩:=H
           have c26b0:=decide_eq_true c26
           clear c26
           replace H:=iz H
           obtain ⟨c27,H⟩:=H
           have c27b0:=decide_eq_true c27
           clear c27
           have H':=am H
           clear H
           have p163:0 <= (x8_2:Int):=oz
           have q163:x8_2<(t160.length:Int):=oz
           obtain ⟨ad163,e163,hx163_0⟩:=Kd.at_int (Kd.V_reads' HO_6.out).2.2 x8_2 p163 q163
           cases e163
           replace p163:=eq_true p163
           replace q163:=eq_true q163
           obtain ⟨Ao28,co28,eo28⟩:=Kd.R_slice HO_3.out
           subst eo28
           have p164:0 <= ((ji25):Int):=oz
           have q164:(ji25)<(x3_1.length:Int):=oz
           obtain ⟨ad164,e164,hx164_0⟩:=Kd.at_int (Kd.R_reads' HO_3.out).2.2 (ji25) p164 q164
           cases e164
           replace p164:=eq_true p164
           replace q164:=eq_true q164
           go_wp2
           go_roundg k2
           case measure=>have:=HK1.out;have:=HK2.out;omega
           case rel=>exact ⟨(rd x3_1 (ji25)),(wrap64 (x8_2 - 1)),(by first|rfl|(simp;done)|(simp only [<- hji25] <;> (first|rfl|simp))|(simp [*];done)),ez,H',⟨by have:=HK1.out;have:=HK2.out;omega⟩,⟨by refine rq ?_;exact HO_3.out⟩,⟨by (with_reducible repeat (first|apply Kd.V_alloc|apply Kd.V_drewN|apply Kd.V_drew));exact HO_6.out⟩,⟨by refine kq ?_;exact BK158.out⟩,⟨(bz1 HB.out GE158.out)⟩⟩
          ·rw [if_neg c24] at H
           have c24b0:((rd t160 x8_2) == (wrap64 (x7_2 - 1)))=false:=beq_eq_false_iff_ne.mpr c24
           have c24b1:((rd t160 x8_2) != (wrap64 (x7_2 - 1)))=true:=bne_iff_ne.mpr c24
           obtain rfl:=Option.some.inj H
           have p163:0 <= (x8_2:Int):=oz
           have q163:x8_2<(t160.length:Int):=oz
           obtain ⟨ad163,e163,hx163_0⟩:=Kd.at_int (Kd.V_reads' HO_6.out).2.2 x8_2 p163 q163
           cases e163
           replace p163:=eq_true p163
           replace q163:=eq_true q163
           go_wp2
           go_ret
           exact ⟨gz,(bz1 HB.out GE158.out)⟩
        ·rw [if_neg c20] at H
         have c20b0:decide (0 <= x8_2)=false:=decide_eq_false c20
         clear c20
         replace H:=iz H
         obtain ⟨c29,H⟩:=H
         have c29b0:=decide_eq_true c29
         clear c29
         replace H:=iz H
         obtain ⟨c30,H⟩:=H
         have c30b0:=decide_eq_true c30
         clear c30
         obtain ⟨y165,hy165⟩:∃ y_:List Int,y_=(x3_1.set (x18_1:Int).toNat x7_2):=⟨_,rfl⟩
         replace H:(impl_NodesOk.l0 k2 l0 y165 l0 (l0.length:Int) (wrap64 (x18_1+1)))=some r:=yz hy165 H
         have Ny165:=am hy165
         clear hy165
         have H':=am H
         clear H
         have p31:0 <= (x18_1:Int):=oz
         have q31:(x18_1:Int)<((x3_1.length:Int):Int):=oz
         obtain ⟨go31,co31,eo31,gb31,gl31,cl31,HG31⟩:=Kd.R_form HO_3.out (by omega)
         (first|cases eo31|(injection eo31 with ea_ en_ ec_;(first|subst ea_|(injection ea_ with ea_;subst ea_));subst ec_;clear en_))
         have GB31:=am gb31
         have GG31:=am HG31
         clear gb31 gl31 HG31
         obtain ⟨hx31_0,hf31_0⟩:=Kd.R_celln 0 HO_3.out (x18_1:Int) p31 q31
         replace p31:=eq_true p31
         replace q31:=eq_true q31
         have HP32:=Kd.R_putg HO_3.out (x18_1:Int) x7_2
         go_wp2_with (first|((with_reducible refine gate_store (t:=3) (p:=55) rfl ?_);refine store_event (t:=3) (p:=55) (v:=?vo_w33) (w1:=(wr.setCell ⟨go31,(x18_1:Int).toNat,none⟩ (.int .i64 x7_2))) ?hg ?ho ?hn ?hr ?_;(case ho=>rfl);(case hg=>rfl);(case hn=>rfl);(case hr=>exact vz);intro w33 hw;have hg:wr.grownBy w33 (some go31):=(by rw [hw];exact HP32.2);have hp_:Kd.R (Kd.int .i64) 3 w33 w.heap.size (fun _=>True) (.slice (some ⟨go31,0,none⟩) x3_1.length co31) y165:=(by rw [hw,Ny165.out];exact HP32.1);clear HP32;replace HO_6:=am (Kd.V_afterv (v:=(.slice (some ⟨go31,0,none⟩) x3_1.length co31)) (v1:=(.slice (some ⟨go31,0,none⟩) x3_1.length co31)) (ok:=(fun k_=>k_≠gb158)) (by (with_reducible repeat (first|apply Kd.V_alloc|apply Kd.V_drewN|apply Kd.V_drew));exact Kd.V_mono HO_6.out (fun _ hk=>⟨hk.2,hk.1⟩)) hg (.inl rfl));replace BK158:=am (blk_grown (g:=gb158) (o:=.cells #[.int .i64 ((rd_T45 l0 x18_1).f0),.int .i64 ((rd_T45 l0 x18_1).f1),.int .i64 ((rd_T45 l0 x18_1).f2),.int .i64 ((rd_T45 l0 x18_1).f3),.int .i64 ((rd_T45 l0 x18_1).f4),.string ((rd_T45 l0 x18_1).f5),.string ((rd_T45 l0 x18_1).f6)] 45 (0,0)) (kz BK158.out) hg (Kd.R_ne HO_3.out BK158.out (by decide)));replace HO_3:=am (hp_);replace HB:=am ((by rw [hw];exact below_set (HB.out) GB31.out:Below w.heap.size w w33));clear hg hw hp_))
         go_roundg k2
         case measure=>have:=HK1.out;have:=HK2.out;omega
         case rel=>exact ⟨(y165),(wrap64 (x18_1+1)),ez,H',⟨by have:=HK1.out;have:=HK2.out;omega⟩,⟨by refine rq ?_;exact HO_3.out⟩,⟨(bz1 HB.out GE158.out)⟩⟩
     ·replace c12:=Bool.eq_false_iff.mpr c12
      subst c12
      have H1:=hq H
      clear H
      have H:=H1
      clear H1
      obtain rfl:=Option.some.inj H
      have p157:0 <= (x18_1:Int):=oz
      have q157:x18_1<(l0.length:Int):=oz
      obtain ⟨ad157,e157,hx157_0,hx157_1,hx157_2,hx157_3,hx157_4,hx157_5,hx157_6⟩:=at_T45 (Kd.C_below HR0.out HB.out) x18_1 p157 q157
      cases e157
      replace p157:=eq_true p157
      replace q157:=eq_true q157
      go_wp2_with (first|((with_reducible refine gate_dst (N:=5) rfl ?_);refine box_event ?hg (N:=5) ?hd (cs:=#[.int .i64 0,.int .i64 0,.int .i64 0,.int .i64 0,.int .i64 0,.string (⟨#[]⟩:ByteArray),.string (⟨#[]⟩:ByteArray)]) (t:=45) ?hr ?_;(case hd=>rfl);(case hg=>rfl);(case hr=>exact vz);intro gb158 hg w34 hbox hb;replace HO_3:=qz HO_3 hb;have BK158:=am (hbox);have GW158:=am ((by rw [hg];exact (below_size (bz0 HB.out)):w.heap.size <= gb158));have GE158:=GW158;replace HB:=bs (bz0 HB.out) hb;clear hb hbox hg;obtain ⟨hcz35_0,hcz35_1,hcz35_2,hcz35_3,hcz35_4,hcz35_5,hcz35_6⟩:=cz7 BK158.out;obtain ⟨hfz35_0,hfz35_1,hfz35_2,hfz35_3,hfz35_4,hfz35_5,hfz35_6⟩:=fz7 BK158.out)|((with_reducible refine gate_callee (f:=65) rfl ?_);refine goesL_ (some 24) rfl rfl Tryz.func65 kr rfl #[.agg #[.int .i64 ((rd_T45 l0 x18_1).f0),.int .i64 ((rd_T45 l0 x18_1).f1),.int .i64 ((rd_T45 l0 x18_1).f2),.int .i64 ((rd_T45 l0 x18_1).f3),.int .i64 ((rd_T45 l0 x18_1).f4),.string ((rd_T45 l0 x18_1).f5),.string ((rd_T45 l0 x18_1).f6)]] rfl lz ?_;(with_reducible refine (impl_fieldsOk.calls k1 ((rd_T45 l0 x18_1).f0) ((rd_T45 l0 x18_1).f1) ((rd_T45 l0 x18_1).f2) ((rd_T45 l0 x18_1).f3) ((rd_T45 l0 x18_1).f4) ((rd_T45 l0 x18_1).f5) ((rd_T45 l0 x18_1).f6) false _ A11.out).mono ?_);rintro e w36 ⟨rfl,hb⟩;refine ⟨_,rfl,?_⟩;replace HO_3:=am (Kd.R_below (by refine rq ?_;exact (Kd.R_mono (Kd.R_far (p:=⟨gb158,6,none⟩) (Kd.R_far (p:=⟨gb158,5,none⟩) (Kd.R_far (p:=⟨gb158,4,none⟩) (Kd.R_far (p:=⟨gb158,3,none⟩) (Kd.R_far (p:=⟨gb158,2,none⟩) (Kd.R_far (p:=⟨gb158,1,none⟩) (Kd.R_far (p:=⟨gb158,0,none⟩) (Kd.R_types HO_3.out BK158.out (by decide)) (fun _ hk=>hk.2) (.int .i64 ((rd_T45 l0 x18_1).f0))) (fun _ hk=>hk.2) (.int .i64 ((rd_T45 l0 x18_1).f1))) (fun _ hk=>hk.2) (.int .i64 ((rd_T45 l0 x18_1).f2))) (fun _ hk=>hk.2) (.int .i64 ((rd_T45 l0 x18_1).f3))) (fun _ hk=>hk.2) (.int .i64 ((rd_T45 l0 x18_1).f4))) (fun _ hk=>hk.2) (.string ((rd_T45 l0 x18_1).f5))) (fun _ hk=>hk.2) (.string ((rd_T45 l0 x18_1).f6))) (fun _ h_=>h_.1))) hb);replace BK158:=am (blk_below (g:=gb158) (o:=.cells #[.int .i64 ((rd_T45 l0 x18_1).f0),.int .i64 ((rd_T45 l0 x18_1).f1),.int .i64 ((rd_T45 l0 x18_1).f2),.int .i64 ((rd_T45 l0 x18_1).f3),.int .i64 ((rd_T45 l0 x18_1).f4),.string ((rd_T45 l0 x18_1).f5),.string ((rd_T45 l0 x18_1).f6)] 45 (0,0)) (by refine kq ?_;refine blk_put (cs:=#[.int .i64 ((rd_T45 l0 x18_1).f0),.int .i64 ((rd_T45 l0 x18_1).f1),.int .i64 ((rd_T45 l0 x18_1).f2),.int .i64 ((rd_T45 l0 x18_1).f3),.int .i64 ((rd_T45 l0 x18_1).f4),.string ((rd_T45 l0 x18_1).f5),.string (⟨#[]⟩:ByteArray)]) ?_ 6 _ rfl;refine kq ?_;refine blk_put (cs:=#[.int .i64 ((rd_T45 l0 x18_1).f0),.int .i64 ((rd_T45 l0 x18_1).f1),.int .i64 ((rd_T45 l0 x18_1).f2),.int .i64 ((rd_T45 l0 x18_1).f3),.int .i64 ((rd_T45 l0 x18_1).f4),.string (⟨#[]⟩:ByteArray),.string (⟨#[]⟩:ByteArray)]) ?_ 5 _ rfl;refine kq ?_;refine blk_put (cs:=#[.int .i64 ((rd_T45 l0 x18_1).f0),.int .i64 ((rd_T45 l0 x18_1).f1),.int .i64 ((rd_T45 l0 x18_1).f2),.int .i64 ((rd_T45 l0 x18_1).f3),.int .i64 0,.string (⟨#[]⟩:ByteArray),.string (⟨#[]⟩:ByteArray)]) ?_ 4 _ rfl;refine kq ?_;refine blk_put (cs:=#[.int .i64 ((rd_T45 l0 x18_1).f0),.int .i64 ((rd_T45 l0 x18_1).f1),.int .i64 ((rd_T45 l0 x18_1).f2),.int .i64 0,.int .i64 0,.string (⟨#[]⟩:ByteArray),.string (⟨#[]⟩:ByteArray)]) ?_ 3 _ rfl;refine kq ?_;refine blk_put (cs:=#[.int .i64 ((rd_T45 l0 x18_1).f0),.int .i64 ((rd_T45 l0 x18_1).f1),.int .i64 0,.int .i64 0,.int .i64 0,.string (⟨#[]⟩:ByteArray),.string (⟨#[]⟩:ByteArray)]) ?_ 2 _ rfl;refine kq ?_;refine blk_put (cs:=#[.int .i64 ((rd_T45 l0 x18_1).f0),.int .i64 0,.int .i64 0,.int .i64 0,.int .i64 0,.string (⟨#[]⟩:ByteArray),.string (⟨#[]⟩:ByteArray)]) ?_ 1 _ rfl;refine kq ?_;refine blk_put (cs:=#[.int .i64 0,.int .i64 0,.int .i64 0,.int .i64 0,.int .i64 0,.string (⟨#[]⟩:ByteArray),.string (⟨#[]⟩:ByteArray)]) ?_ 0 _ rfl;refine kq ?_;exact BK158.out) hb);replace HB:=bs (bz1 HB.out GE158.out) hb;(try clear hb);(try clear hk);(try clear hi)))
      go_ret
      exact ⟨gz,(bz1 HB.out GE158.out)⟩
    ·rw [if_neg c8] at H
     have c8b0:=decide_eq_false c8
     clear c8
     obtain ⟨ji37,hji37⟩:∃ j_:Int,(wrap64 ((l0.length:Int) - 1))=j_:=⟨_,rfl⟩
     replace H:(if 0 <= (ji37) then (if (ji37)<(x3_1.length:Int) then (some ((rd x3_1 (ji37)) == 0)) else (none)) else (none))=some r:=by first|(rw [hji37] at H;exact H)|(simp only [hji37] at H ⊢;exact H)
     have hji37w:(IntKind.i64.wrap ((l0.length:Int) - 1))=ji37:=(i64_w _).trans hji37
     replace H:=iz H
     obtain ⟨c38,H⟩:=H
     have c38b0:=decide_eq_true c38
     clear c38
     replace H:=iz H
     obtain ⟨c39,H⟩:=H
     have c39b0:=decide_eq_true c39
     clear c39
     obtain rfl:=Option.some.inj H
     obtain ⟨Ao40,co40,eo40⟩:=Kd.R_slice HO_3.out
     subst eo40
     have p156:0 <= ((ji37):Int):=oz
     have q156:(ji37)<(x3_1.length:Int):=oz
     obtain ⟨ad156,e156,hx156_0⟩:=Kd.at_int (Kd.R_reads' HO_3.out).2.2 (ji37) p156 q156
     cases e156
     replace p156:=eq_true p156
     replace q156:=eq_true q156
     go_wp2
     go_ret
     exact ⟨by first|rfl|(simp [errW_none,errW_some] <;> rfl)|(simp only [<- hji37];first|rfl|(simp [errW_none,errW_some] <;> rfl))|(simp [*,errW_none,errW_some] <;> rfl),(bz0 HB.out)⟩
 ·replace c3:=Bool.eq_false_iff.mpr c3
  subst c3
  have H1:=hq H
  clear H
  have H:=H1
  clear H1
  obtain rfl:=Option.some.inj H
  go_enter Tryz.func44,Tryz.ntmps44
  go_wp2_with (first|((with_reducible refine gate_callee (f:=47) rfl ?_);refine goesL_ (some 11) rfl rfl Tryz.func47 kr rfl #[.int .i64 (l0.length:Int),.int .i64 1,.int .i64 150] rfl lz ?_;(with_reducible refine (impl_in.calls (l0.length:Int) 1 150 false _ A2.out).mono ?_);rintro e w' ⟨rfl,⟨nd,rfl⟩⟩;refine ⟨_,rfl,?_⟩))
  go_ret
  exact ⟨gz,(bz0 HB.out)⟩
end Go.Proofs.YthmpgocaoccnaaaGreatDoor.PFnFresh
