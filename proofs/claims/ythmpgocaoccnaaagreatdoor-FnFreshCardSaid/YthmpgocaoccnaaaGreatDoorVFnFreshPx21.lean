/- PFnFreshx21, of the words and walks that the law FnFresh needs; made by this session's program out of printed texts. -/
import Derived.Test.YthmpgocaoccnaaaGreatDoorVFnFreshPx0
namespace Go.Proofs.YthmpgocaoccnaaaGreatDoor.PFnFresh
open Go.RowKit Go.Proofs.YthmpgocaoccnaaaGreatDoorW.PrintWords Go.Proofs.YthmpgocaoccnaaaGreatDoorW.PrintLast Go.Proofs.YthmpgocaoccnaaaGreatDoorW.PrintMore
attribute [local go_sem] max2_int min2_int max_two min_two max_three min_three max_four min_four
set_option linter.unusedVariables false
set_option linter.unusedSimpArgs false
def spec_l6Bound.j0:Nat -> Int -> Int -> Bool -> Int -> Int -> Int -> Int -> Int -> ByteArray -> ByteArray -> Option (List ByteArray × List Int)
 | 0,_,_,_,_,_,_,_,_,_,_=>none
 | k+1,x1,x7,x14,x642000,x642001,x642002,x642003,x642004,x642005,x642006=>if x14=true then (if x1=x642002 then (some ((([x642005]:List ByteArray)),(([0]:List Int)))) else (some ((([]:List ByteArray)),(([]:List Int))))) else (if x7=6 then (if x1=x642001 then (some ((([x642006,x642005]:List ByteArray)),(([1,0]:List Int)))) else (some ((([x642005]:List ByteArray)),(([0]:List Int))))) else (if x7=14 then (if x1=x642003 then (some ((([x642006,x642005]:List ByteArray)),(([1,0]:List Int)))) else (some ((([]:List ByteArray)),(([]:List Int))))) else (some ((([]:List ByteArray)),(([]:List Int))))))
def spec_l6Bound.f (k:Nat) (a0_0:Int) (a0_1:Int) (a0_2:Int) (a0_3:Int) (a0_4:Int) (a0_5:ByteArray) (a0_6:ByteArray) (a1:Int):Option (List ByteArray × List Int):=if a0_0=3 then (some ((([a0_5]:List ByteArray)),(([0]:List Int)))) else (if a0_0=5 then (spec_l6Bound.j0 k a1 a0_0 (a0_0 == 5) a0_0 a0_1 a0_2 a0_3 a0_4 a0_5 a0_6) else (spec_l6Bound.j0 k a1 a0_0 (a0_0 == 19) a0_0 a0_1 a0_2 a0_3 a0_4 a0_5 a0_6))
theorem spec_l6Bound.mono_l:∀ k,(∀ y0 y1 y2 y3 y4 y5 y6 y7 y8 y9,LeO (spec_l6Bound.j0 k y0 y1 y2 y3 y4 y5 y6 y7 y8 y9) (spec_l6Bound.j0 (k+1) y0 y1 y2 y3 y4 y5 y6 y7 y8 y9))
 | 0=>fun _ _ _ _ _ _ _ _ _ _ r h=>by simp [spec_l6Bound.j0] at h
 | k+1=>by
  have ih0:=spec_l6Bound.mono_l k
  ·intro y0 y1 y2 y3 y4 y5 y6 y7 y8 y9
   unfold spec_l6Bound.j0
   with_reducible repeat' first|exact ih0 _ _ _ _ _ _ _ _ _ _|exact lrz _|exact lnz _|refine liz ?_ ?_|refine lbz ?_ fun _=>?_
theorem spec_l6Bound.mono:∀ a0 a1 a2 a3 a4 a5 a6 a7 k,LeO (spec_l6Bound.f k a0 a1 a2 a3 a4 a5 a6 a7) (spec_l6Bound.f (k+1) a0 a1 a2 a3 a4 a5 a6 a7):=by
 intro a0 a1 a2 a3 a4 a5 a6 a7 k
 have ih0:=spec_l6Bound.mono_l k
 unfold spec_l6Bound.f
 with_reducible repeat' first|exact ih0 _ _ _ _ _ _ _ _ _ _|exact lrz _|exact lnz _|refine liz ?_ ?_|refine lbz ?_ fun _=>?_
set_option maxHeartbeats 8000000 in
set_option maxRecDepth 100000 in
theorem spec_l6Bound.calls (k:Nat) (a0_0:Int) (a0_1:Int) (a0_2:Int) (a0_3:Int) (a0_4:Int) (a0_5:ByteArray) (a0_6:ByteArray) (a1:Int) (r1:List ByteArray) (r2:List Int) (w:World) (h:spec_l6Bound.f k a0_0 a0_1 a0_2 a0_3 a0_4 a0_5 a0_6 a1=some (r1,r2)) :
  Calls Tryz.prog 72 #[.agg #[.int .i64 a0_0,.int .i64 a0_1,.int .i64 a0_2,.int .i64 a0_3,.int .i64 a0_4,.string a0_5,.string a0_6],.int .i64 a1] w fun e w'=>∃ v0_ v1_:Value,e=.returned (.tuple #[v0_,v1_]) /\ Kd.R Kd.string 9 w' w.heap.size (fun _=>True) v0_ r1 /\ Kd.R (Kd.int .i64) 3 w' w.heap.size (fun _=>True) v1_ r2 /\ Below w.heap.size w w':=by
 have hu45:=Tryz.underlying45
 have HB:=am (Below.refl w.heap.size w)
 have H:(if a0_0=3 then (some ((([a0_5]:List ByteArray)),(([0]:List Int)))) else (if a0_0=5 then (spec_l6Bound.j0 k a1 a0_0 (a0_0 == 5) a0_0 a0_1 a0_2 a0_3 a0_4 a0_5 a0_6) else (spec_l6Bound.j0 k a1 a0_0 (a0_0 == 19) a0_0 a0_1 a0_2 a0_3 a0_4 a0_5 a0_6)))=some (r1,r2):=h
 clear h
 by_cases c3:a0_0=3
 ·rw [if_pos c3] at H
  have c3b0:(a0_0 == 3)=true:=beq_iff_eq.mpr c3
  have c3b1:(a0_0 != 3)=false:=bne_eq_false_iff_eq.mpr c3
  clear c3
  obtain ⟨y642,hy642⟩:∃ y_:List ByteArray,y_=(([a0_5]:List ByteArray)):=⟨_,rfl⟩
  replace H:(some (y642,(([0]:List Int))))=some (r1,r2):=yz hy642 H
  have Ny642:=am hy642
  clear hy642
  obtain ⟨y645,hy645⟩:∃ y_:List Int,y_=(([0]:List Int)):=⟨_,rfl⟩
  replace H:(some (y642,y645))=some (r1,r2):=yz hy645 H
  have Ny645:=am hy645
  clear hy645
  simp only [Option.some.injEq,Prod.mk.injEq] at H
  obtain ⟨rfl,rfl⟩:=H
  go_enter Tryz.func72,Tryz.ntmps72
  go_wp2_with (first|((with_reducible refine gate_dst (N:=2) rfl ?_);refine box_event ?hg (N:=2) ?hd (cs:=#[.int .i64 a0_0,.int .i64 a0_1,.int .i64 a0_2,.int .i64 a0_3,.int .i64 a0_4,.string a0_5,.string a0_6]) (t:=45) ?hr ?_;(case hd=>rfl);(case hg=>rfl);(case hr=>exact vz);intro gb641 hg w4 hbox hb;have BK641:=am (hbox);have GW641:=am ((by rw [hg];exact (below_size (bz0 HB.out)):w.heap.size <= gb641));have GE641:=GW641;replace HB:=bs (bz0 HB.out) hb;clear hb hbox hg;obtain ⟨hcz5_0,hcz5_1,hcz5_2,hcz5_3,hcz5_4,hcz5_5,hcz5_6⟩:=cz7 BK641.out;obtain ⟨hfz5_0,hfz5_1,hfz5_2,hfz5_3,hfz5_4,hfz5_5,hfz5_6⟩:=fz7 BK641.out)|((with_reducible refine gate_dst (N:=12) rfl ?_);refine Kd.R_lit Kd.string _ 9 ?hg (N:=12) ?hd (xs:=([a0_5]:List ByteArray)) (inner:=[.string a0_5]) (ok:=fun _=>True) (okp:=fun _=>True) ?hr ?hp (fun _ hk=>hk) trivial (Below.refl _ _) (Nat.le_refl _) (by simp) ?_;(case hd=>rfl);(case hg=>rfl);(case hr=>exact vz);(case hp=>exact (Reps.one (show Kd.M Kd.string _ _ _ a0_5 [.string a0_5] from rfl) (Reps.none _ _)));intro v643 w6 ho7 hb hg_ hnew_;clear hg_ hnew_;(first|rw [<- Ny642.out] at ho7|(simp only [Int.reduceToNat] at ho7;rw [<- Ny642.out] at ho7));have HO644:=am (Kd.R_lower ho7 (below_size (bz1 HB.out GE641.out)));replace BK641:=kb BK641 hb;replace HB:=bs (bz1 HB.out GE641.out) hb;clear hb ho7)|((with_reducible refine gate_dst (N:=13) rfl ?_);refine Kd.R_lit (Kd.int .i64) _ 3 ?hg (N:=13) ?hd (xs:=([0]:List Int)) (inner:=[.int .i64 0]) (ok:=fun _=>True) (okp:=fun _=>True) ?hr ?hp (fun _ hk=>hk) trivial (Below.refl _ _) (Nat.le_refl _) (by simp) ?_;(case hd=>rfl);(case hg=>rfl);(case hr=>exact vz);(case hp=>exact (Reps.one (show Kd.M (Kd.int .i64) _ _ _ 0 [.int .i64 0] from rfl) (Reps.none _ _)));intro v646 w8 ho9 hb hg_ hnew_;clear hg_ hnew_;(first|rw [<- Ny645.out] at ho9|(simp only [Int.reduceToNat] at ho9;rw [<- Ny645.out] at ho9));replace HO644:=qz HO644 hb;have HO647:=am (Kd.R_lower ho9 (below_size (bz1 HB.out GE641.out)));replace BK641:=kb BK641 hb;replace HB:=bs (bz1 HB.out GE641.out) hb;clear hb ho9))
  go_ret2
  exact ⟨_,_,gz,by refine rq ?_;exact HO644.out,by refine rq ?_;exact HO647.out,(bz1 HB.out GE641.out)⟩
 ·rw [if_neg c3] at H
  have c3b0:(a0_0 == 3)=false:=beq_eq_false_iff_ne.mpr c3
  have c3b1:(a0_0 != 3)=true:=bne_iff_ne.mpr c3
  have HC10:=am H
  clear H
  go_enter Tryz.func72,Tryz.ntmps72
  go_upto_if 14 with (first|((with_reducible refine gate_dst (N:=2) rfl ?_);refine box_event ?hg (N:=2) ?hd (cs:=#[.int .i64 a0_0,.int .i64 a0_1,.int .i64 a0_2,.int .i64 a0_3,.int .i64 a0_4,.string a0_5,.string a0_6]) (t:=45) ?hr ?_;(case hd=>rfl);(case hg=>rfl);(case hr=>exact vz);intro gb641 hg w11 hbox hb;have BK641:=am (hbox);have GW641:=am ((by rw [hg];exact (below_size (bz0 HB.out)):w.heap.size <= gb641));have GE641:=GW641;replace HB:=bs (bz0 HB.out) hb;clear hb hbox hg;obtain ⟨hcz12_0,hcz12_1,hcz12_2,hcz12_3,hcz12_4,hcz12_5,hcz12_6⟩:=cz7 BK641.out;obtain ⟨hfz12_0,hfz12_1,hfz12_2,hfz12_3,hfz12_4,hfz12_5,hfz12_6⟩:=fz7 BK641.out))
  (try simp only [Act.put,sz1,sz2,sz3])
  go_cut [14] (fun v14 wc=>∃ (kq:Nat) (x14_9:Bool),v14=.bool x14_9 /\ Aside0 (spec_l6Bound.j0 kq a1 a0_0 x14_9 a0_0 a0_1 a0_2 a0_3 a0_4 a0_5 a0_6=some (r1,r2)) /\ Aside0 (kq <= k) /\ Aside0 (wc.heap[gb641]?=some (.cells #[.int .i64 a0_0,.int .i64 a0_1,.int .i64 a0_2,.int .i64 a0_3,.int .i64 a0_4,.string a0_5,.string a0_6] 45 (0,0))) /\ Aside0 (Below w.heap.size w wc))
  case first =>
   have H:=HC10.out
   clear HC10
   by_cases c13:a0_0=5
   ·rw [if_pos c13] at H
    have c13b0:(a0_0 == 5)=true:=beq_iff_eq.mpr c13
    have c13b1:(a0_0 != 5)=false:=bne_eq_false_iff_eq.mpr c13
    clear c13
    (first|rw [c13b0]|(simp only [i64_w,i32_w];rw [c13b0])|skip)
    have H':=am H
    clear H
    go_wp2
    go_meet
    case rel=>exact ⟨_,((a0_0 == 5)),ez,H',⟨by first|omega|exact Nat.le_refl _⟩,⟨by refine kq ?_;exact BK641.out⟩,⟨(bz1 HB.out GE641.out)⟩⟩
   ·rw [if_neg c13] at H
    have c13b0:(a0_0 == 5)=false:=beq_eq_false_iff_ne.mpr c13
    have c13b1:(a0_0 != 5)=true:=bne_iff_ne.mpr c13
    (first|rw [c13b0]|(simp only [i64_w,i32_w];rw [c13b0])|skip)
    have H':=am H
    clear H
    go_wp2
    go_meet
    case rel=>exact ⟨_,((a0_0 == 19)),ez,H',⟨by first|omega|exact Nat.le_refl _⟩,⟨by refine kq ?_;exact BK641.out⟩,⟨(bz1 HB.out GE641.out)⟩⟩
  case rest =>
   clear HC10
   try clear c1
   try clear p2
   try clear c3
   try clear c3b0
   try clear c3b1
   try clear c7
   try clear c13
   try clear c13b0
   try clear c13b1
   try clear hcz12_0 hcz12_1 hcz12_2 hcz12_3 hcz12_4 hcz12_5 hcz12_6
   try clear hcz5_0 hcz5_1 hcz5_2 hcz5_3 hcz5_4 hcz5_5 hcz5_6
   try clear hfz12_0 hfz12_1 hfz12_2 hfz12_3 hfz12_4 hfz12_5 hfz12_6
   try clear hfz5_0 hfz5_1 hfz5_2 hfz5_3 hfz5_4 hfz5_5 hfz5_6
   obtain ⟨kq,x14_9,rfl,HA,HJ9,BK641,HB⟩:=hcut
   cases kq with
   | zero=>exact absurd HA.out (by simp [spec_l6Bound.j0])
   | succ kj9 =>
    have H:=HA.out
    clear HA
    simp only [spec_l6Bound.j0] at H
    by_cases c14:x14_9=true
    ·subst c14
     have H1:=hp H
     clear H
     have H:=H1
     clear H1
     by_cases c15:a1=a0_2
     ·rw [if_pos c15] at H
      have c15b0:(a1 == a0_2)=true:=beq_iff_eq.mpr c15
      have c15b1:(a1 != a0_2)=false:=bne_eq_false_iff_eq.mpr c15
      clear c15
      obtain ⟨y648,hy648⟩:∃ y_:List ByteArray,y_=(([a0_5]:List ByteArray)):=⟨_,rfl⟩
      replace H:(some (y648,(([0]:List Int))))=some (r1,r2):=yz hy648 H
      have Ny648:=am hy648
      clear hy648
      obtain ⟨y651,hy651⟩:∃ y_:List Int,y_=(([0]:List Int)):=⟨_,rfl⟩
      replace H:(some (y648,y651))=some (r1,r2):=yz hy651 H
      have Ny651:=am hy651
      clear hy651
      simp only [Option.some.injEq,Prod.mk.injEq] at H
      obtain ⟨rfl,rfl⟩:=H
      obtain ⟨hcz16_0,hcz16_1,hcz16_2,hcz16_3,hcz16_4,hcz16_5,hcz16_6⟩:=cz7 BK641.out
      obtain ⟨hfz16_0,hfz16_1,hfz16_2,hfz16_3,hfz16_4,hfz16_5,hfz16_6⟩:=fz7 BK641.out
      go_wp2_with (first|((with_reducible refine gate_dst (N:=23) rfl ?_);refine Kd.R_lit Kd.string _ 9 ?hg (N:=23) ?hd (xs:=([a0_5]:List ByteArray)) (inner:=[.string a0_5]) (ok:=fun _=>True) (okp:=fun _=>True) ?hr ?hp (fun _ hk=>hk) trivial (Below.refl _ _) (Nat.le_refl _) (by simp) ?_;(case hd=>rfl);(case hg=>rfl);(case hr=>exact vz);(case hp=>exact (Reps.one (show Kd.M Kd.string _ _ _ a0_5 [.string a0_5] from rfl) (Reps.none _ _)));intro v649 w17 ho18 hb hg_ hnew_;clear hg_ hnew_;(first|rw [<- Ny648.out] at ho18|(simp only [Int.reduceToNat] at ho18;rw [<- Ny648.out] at ho18));have HO650:=am (Kd.R_lower ho18 (below_size (bz1 HB.out GE641.out)));replace BK641:=kb BK641 hb;replace HB:=bs (bz1 HB.out GE641.out) hb;clear hb ho18)|((with_reducible refine gate_dst (N:=24) rfl ?_);refine Kd.R_lit (Kd.int .i64) _ 3 ?hg (N:=24) ?hd (xs:=([0]:List Int)) (inner:=[.int .i64 0]) (ok:=fun _=>True) (okp:=fun _=>True) ?hr ?hp (fun _ hk=>hk) trivial (Below.refl _ _) (Nat.le_refl _) (by simp) ?_;(case hd=>rfl);(case hg=>rfl);(case hr=>exact vz);(case hp=>exact (Reps.one (show Kd.M (Kd.int .i64) _ _ _ 0 [.int .i64 0] from rfl) (Reps.none _ _)));intro v652 w19 ho20 hb hg_ hnew_;clear hg_ hnew_;(first|rw [<- Ny651.out] at ho20|(simp only [Int.reduceToNat] at ho20;rw [<- Ny651.out] at ho20));replace HO650:=qz HO650 hb;have HO653:=am (Kd.R_lower ho20 (below_size (bz1 HB.out GE641.out)));replace BK641:=kb BK641 hb;replace HB:=bs (bz1 HB.out GE641.out) hb;clear hb ho20))
      go_ret2
      exact ⟨_,_,gz,by refine rq ?_;exact HO650.out,by refine rq ?_;exact HO653.out,(bz1 HB.out GE641.out)⟩
     ·rw [if_neg c15] at H
      have c15b0:(a1 == a0_2)=false:=beq_eq_false_iff_ne.mpr c15
      have c15b1:(a1 != a0_2)=true:=bne_iff_ne.mpr c15
      obtain ⟨y654,hy654⟩:∃ y_:List ByteArray,y_=(([]:List ByteArray)):=⟨_,rfl⟩
      replace H:(some (y654,(([]:List Int))))=some (r1,r2):=yz hy654 H
      have Ny654:=am hy654
      clear hy654
      obtain ⟨y657,hy657⟩:∃ y_:List Int,y_=(([]:List Int)):=⟨_,rfl⟩
      replace H:(some (y654,y657))=some (r1,r2):=yz hy657 H
      have Ny657:=am hy657
      clear hy657
      simp only [Option.some.injEq,Prod.mk.injEq] at H
      obtain ⟨rfl,rfl⟩:=H
      obtain ⟨hcz21_0,hcz21_1,hcz21_2,hcz21_3,hcz21_4,hcz21_5,hcz21_6⟩:=cz7 BK641.out
      obtain ⟨hfz21_0,hfz21_1,hfz21_2,hfz21_3,hfz21_4,hfz21_5,hfz21_6⟩:=fz7 BK641.out
      go_wp2_with (first|((with_reducible refine gate_dst (N:=53) rfl ?_);refine Kd.R_lit Kd.string _ 9 ?hg (N:=53) ?hd (xs:=([]:List ByteArray)) (inner:=[]) (ok:=fun _=>True) (okp:=fun _=>True) ?hr ?hp (fun _ hk=>hk) trivial (Below.refl _ _) (Nat.le_refl _) (by simp) ?_;(case hd=>rfl);(case hg=>rfl);(case hr=>exact vz);(case hp=>exact (Reps.none _ _));intro v655 w22 ho23 hb hg_ hnew_;clear hg_ hnew_;(first|rw [<- Ny654.out] at ho23|(simp only [Int.reduceToNat] at ho23;rw [<- Ny654.out] at ho23));have HO656:=am (Kd.R_lower ho23 (below_size (bz1 HB.out GE641.out)));replace BK641:=kb BK641 hb;replace HB:=bs (bz1 HB.out GE641.out) hb;clear hb ho23)|((with_reducible refine gate_dst (N:=54) rfl ?_);refine Kd.R_lit (Kd.int .i64) _ 3 ?hg (N:=54) ?hd (xs:=([]:List Int)) (inner:=[]) (ok:=fun _=>True) (okp:=fun _=>True) ?hr ?hp (fun _ hk=>hk) trivial (Below.refl _ _) (Nat.le_refl _) (by simp) ?_;(case hd=>rfl);(case hg=>rfl);(case hr=>exact vz);(case hp=>exact (Reps.none _ _));intro v658 w24 ho25 hb hg_ hnew_;clear hg_ hnew_;(first|rw [<- Ny657.out] at ho25|(simp only [Int.reduceToNat] at ho25;rw [<- Ny657.out] at ho25));replace HO656:=qz HO656 hb;have HO659:=am (Kd.R_lower ho25 (below_size (bz1 HB.out GE641.out)));replace BK641:=kb BK641 hb;replace HB:=bs (bz1 HB.out GE641.out) hb;clear hb ho25))
      go_ret2
      exact ⟨_,_,gz,by refine rq ?_;exact HO656.out,by refine rq ?_;exact HO659.out,(bz1 HB.out GE641.out)⟩
    ·replace c14:=Bool.eq_false_iff.mpr c14
     subst c14
     have H1:=hq H
     clear H
     have H:=H1
     clear H1
     by_cases c26:a0_0=6
     ·rw [if_pos c26] at H
      have c26b0:(a0_0 == 6)=true:=beq_iff_eq.mpr c26
      have c26b1:(a0_0 != 6)=false:=bne_eq_false_iff_eq.mpr c26
      clear c26
      by_cases c27:a1=a0_1
      ·rw [if_pos c27] at H
       have c27b0:(a1 == a0_1)=true:=beq_iff_eq.mpr c27
       have c27b1:(a1 != a0_1)=false:=bne_eq_false_iff_eq.mpr c27
       clear c27
       obtain ⟨y660,hy660⟩:∃ y_:List ByteArray,y_=(([a0_6,a0_5]:List ByteArray)):=⟨_,rfl⟩
       replace H:(some (y660,(([1,0]:List Int))))=some (r1,r2):=yz hy660 H
       have Ny660:=am hy660
       clear hy660
       obtain ⟨y663,hy663⟩:∃ y_:List Int,y_=(([1,0]:List Int)):=⟨_,rfl⟩
       replace H:(some (y660,y663))=some (r1,r2):=yz hy663 H
       have Ny663:=am hy663
       clear hy663
       simp only [Option.some.injEq,Prod.mk.injEq] at H
       obtain ⟨rfl,rfl⟩:=H
       obtain ⟨hcz28_0,hcz28_1,hcz28_2,hcz28_3,hcz28_4,hcz28_5,hcz28_6⟩:=cz7 BK641.out
       obtain ⟨hfz28_0,hfz28_1,hfz28_2,hfz28_3,hfz28_4,hfz28_5,hfz28_6⟩:=fz7 BK641.out
       go_wp2_with (first|((with_reducible refine gate_dst (N:=35) rfl ?_);refine Kd.R_lit Kd.string _ 9 ?hg (N:=35) ?hd (xs:=([a0_6,a0_5]:List ByteArray)) (inner:=[.string a0_6,.string a0_5]) (ok:=fun _=>True) (okp:=fun _=>True) ?hr ?hp (fun _ hk=>hk) trivial (Below.refl _ _) (Nat.le_refl _) (by simp) ?_;(case hd=>rfl);(case hg=>rfl);(case hr=>exact vz);(case hp=>exact (Reps.one (show Kd.M Kd.string _ _ _ a0_6 [.string a0_6] from rfl) (Reps.one (show Kd.M Kd.string _ _ _ a0_5 [.string a0_5] from rfl) (Reps.none _ _))));intro v661 w29 ho30 hb hg_ hnew_;clear hg_ hnew_;(first|rw [<- Ny660.out] at ho30|(simp only [Int.reduceToNat] at ho30;rw [<- Ny660.out] at ho30));have HO662:=am (Kd.R_lower ho30 (below_size (bz1 HB.out GE641.out)));replace BK641:=kb BK641 hb;replace HB:=bs (bz1 HB.out GE641.out) hb;clear hb ho30)|((with_reducible refine gate_dst (N:=36) rfl ?_);refine Kd.R_lit (Kd.int .i64) _ 3 ?hg (N:=36) ?hd (xs:=([1,0]:List Int)) (inner:=[.int .i64 1,.int .i64 0]) (ok:=fun _=>True) (okp:=fun _=>True) ?hr ?hp (fun _ hk=>hk) trivial (Below.refl _ _) (Nat.le_refl _) (by simp) ?_;(case hd=>rfl);(case hg=>rfl);(case hr=>exact vz);(case hp=>exact (Reps.one (show Kd.M (Kd.int .i64) _ _ _ 1 [.int .i64 1] from rfl) (Reps.one (show Kd.M (Kd.int .i64) _ _ _ 0 [.int .i64 0] from rfl) (Reps.none _ _))));intro v664 w31 ho32 hb hg_ hnew_;clear hg_ hnew_;(first|rw [<- Ny663.out] at ho32|(simp only [Int.reduceToNat] at ho32;rw [<- Ny663.out] at ho32));replace HO662:=qz HO662 hb;have HO665:=am (Kd.R_lower ho32 (below_size (bz1 HB.out GE641.out)));replace BK641:=kb BK641 hb;replace HB:=bs (bz1 HB.out GE641.out) hb;clear hb ho32))
       go_ret2
       exact ⟨_,_,gz,by refine rq ?_;exact HO662.out,by refine rq ?_;exact HO665.out,(bz1 HB.out GE641.out)⟩
      ·rw [if_neg c27] at H
       have c27b0:(a1 == a0_1)=false:=beq_eq_false_iff_ne.mpr c27
       have c27b1:(a1 != a0_1)=true:=bne_iff_ne.mpr c27
       obtain ⟨y666,hy666⟩:∃ y_:List ByteArray,y_=(([a0_5]:List ByteArray)):=⟨_,rfl⟩
       replace H:(some (y666,(([0]:List Int))))=some (r1,r2):=yz hy666 H
       have Ny666:=am hy666
       clear hy666
       obtain ⟨y669,hy669⟩:∃ y_:List Int,y_=(([0]:List Int)):=⟨_,rfl⟩
       replace H:(some (y666,y669))=some (r1,r2):=yz hy669 H
       have Ny669:=am hy669
       clear hy669
       simp only [Option.some.injEq,Prod.mk.injEq] at H
       obtain ⟨rfl,rfl⟩:=H
       obtain ⟨hcz33_0,hcz33_1,hcz33_2,hcz33_3,hcz33_4,hcz33_5,hcz33_6⟩:=cz7 BK641.out
       obtain ⟨hfz33_0,hfz33_1,hfz33_2,hfz33_3,hfz33_4,hfz33_5,hfz33_6⟩:=fz7 BK641.out
       go_wp2_with (first|((with_reducible refine gate_dst (N:=39) rfl ?_);refine Kd.R_lit Kd.string _ 9 ?hg (N:=39) ?hd (xs:=([a0_5]:List ByteArray)) (inner:=[.string a0_5]) (ok:=fun _=>True) (okp:=fun _=>True) ?hr ?hp (fun _ hk=>hk) trivial (Below.refl _ _) (Nat.le_refl _) (by simp) ?_;(case hd=>rfl);(case hg=>rfl);(case hr=>exact vz);(case hp=>exact (Reps.one (show Kd.M Kd.string _ _ _ a0_5 [.string a0_5] from rfl) (Reps.none _ _)));intro v667 w34 ho35 hb hg_ hnew_;clear hg_ hnew_;(first|rw [<- Ny666.out] at ho35|(simp only [Int.reduceToNat] at ho35;rw [<- Ny666.out] at ho35));have HO668:=am (Kd.R_lower ho35 (below_size (bz1 HB.out GE641.out)));replace BK641:=kb BK641 hb;replace HB:=bs (bz1 HB.out GE641.out) hb;clear hb ho35)|((with_reducible refine gate_dst (N:=40) rfl ?_);refine Kd.R_lit (Kd.int .i64) _ 3 ?hg (N:=40) ?hd (xs:=([0]:List Int)) (inner:=[.int .i64 0]) (ok:=fun _=>True) (okp:=fun _=>True) ?hr ?hp (fun _ hk=>hk) trivial (Below.refl _ _) (Nat.le_refl _) (by simp) ?_;(case hd=>rfl);(case hg=>rfl);(case hr=>exact vz);(case hp=>exact (Reps.one (show Kd.M (Kd.int .i64) _ _ _ 0 [.int .i64 0] from rfl) (Reps.none _ _)));intro v670 w36 ho37 hb hg_ hnew_;clear hg_ hnew_;(first|rw [<- Ny669.out] at ho37|(simp only [Int.reduceToNat] at ho37;rw [<- Ny669.out] at ho37));replace HO668:=qz HO668 hb;have HO671:=am (Kd.R_lower ho37 (below_size (bz1 HB.out GE641.out)));replace BK641:=kb BK641 hb;replace HB:=bs (bz1 HB.out GE641.out) hb;clear hb ho37))
       go_ret2
       exact ⟨_,_,gz,by refine rq ?_;exact HO668.out,by refine rq ?_;exact HO671.out,(bz1 HB.out GE641.out)⟩
     ·rw [if_neg c26] at H
      have c26b0:(a0_0 == 6)=false:=beq_eq_false_iff_ne.mpr c26
      have c26b1:(a0_0 != 6)=true:=bne_iff_ne.mpr c26
      by_cases c38:a0_0=14
      ·rw [if_pos c38] at H
       have c38b0:(a0_0 == 14)=true:=beq_iff_eq.mpr c38
       have c38b1:(a0_0 != 14)=false:=bne_eq_false_iff_eq.mpr c38
       clear c38
       by_cases c39:a1=a0_3
       ·rw [if_pos c39] at H
        have c39b0:(a1 == a0_3)=true:=beq_iff_eq.mpr c39
        have c39b1:(a1 != a0_3)=false:=bne_eq_false_iff_eq.mpr c39
        clear c39
        obtain ⟨y672,hy672⟩:∃ y_:List ByteArray,y_=(([a0_6,a0_5]:List ByteArray)):=⟨_,rfl⟩
        replace H:(some (y672,(([1,0]:List Int))))=some (r1,r2):=yz hy672 H
        have Ny672:=am hy672
        clear hy672
        obtain ⟨y675,hy675⟩:∃ y_:List Int,y_=(([1,0]:List Int)):=⟨_,rfl⟩
        replace H:(some (y672,y675))=some (r1,r2):=yz hy675 H
        have Ny675:=am hy675
        clear hy675
        simp only [Option.some.injEq,Prod.mk.injEq] at H
        obtain ⟨rfl,rfl⟩:=H
        obtain ⟨hcz40_0,hcz40_1,hcz40_2,hcz40_3,hcz40_4,hcz40_5,hcz40_6⟩:=cz7 BK641.out
        obtain ⟨hfz40_0,hfz40_1,hfz40_2,hfz40_3,hfz40_4,hfz40_5,hfz40_6⟩:=fz7 BK641.out
        go_wp2_with (first|((with_reducible refine gate_dst (N:=51) rfl ?_);refine Kd.R_lit Kd.string _ 9 ?hg (N:=51) ?hd (xs:=([a0_6,a0_5]:List ByteArray)) (inner:=[.string a0_6,.string a0_5]) (ok:=fun _=>True) (okp:=fun _=>True) ?hr ?hp (fun _ hk=>hk) trivial (Below.refl _ _) (Nat.le_refl _) (by simp) ?_;(case hd=>rfl);(case hg=>rfl);(case hr=>exact vz);(case hp=>exact (Reps.one (show Kd.M Kd.string _ _ _ a0_6 [.string a0_6] from rfl) (Reps.one (show Kd.M Kd.string _ _ _ a0_5 [.string a0_5] from rfl) (Reps.none _ _))));intro v673 w41 ho42 hb hg_ hnew_;clear hg_ hnew_;(first|rw [<- Ny672.out] at ho42|(simp only [Int.reduceToNat] at ho42;rw [<- Ny672.out] at ho42));have HO674:=am (Kd.R_lower ho42 (below_size (bz1 HB.out GE641.out)));replace BK641:=kb BK641 hb;replace HB:=bs (bz1 HB.out GE641.out) hb;clear hb ho42)|((with_reducible refine gate_dst (N:=52) rfl ?_);refine Kd.R_lit (Kd.int .i64) _ 3 ?hg (N:=52) ?hd (xs:=([1,0]:List Int)) (inner:=[.int .i64 1,.int .i64 0]) (ok:=fun _=>True) (okp:=fun _=>True) ?hr ?hp (fun _ hk=>hk) trivial (Below.refl _ _) (Nat.le_refl _) (by simp) ?_;(case hd=>rfl);(case hg=>rfl);(case hr=>exact vz);(case hp=>exact (Reps.one (show Kd.M (Kd.int .i64) _ _ _ 1 [.int .i64 1] from rfl) (Reps.one (show Kd.M (Kd.int .i64) _ _ _ 0 [.int .i64 0] from rfl) (Reps.none _ _))));intro v676 w43 ho44 hb hg_ hnew_;clear hg_ hnew_;(first|rw [<- Ny675.out] at ho44|(simp only [Int.reduceToNat] at ho44;rw [<- Ny675.out] at ho44));replace HO674:=qz HO674 hb;have HO677:=am (Kd.R_lower ho44 (below_size (bz1 HB.out GE641.out)));replace BK641:=kb BK641 hb;replace HB:=bs (bz1 HB.out GE641.out) hb;clear hb ho44))
        go_ret2
        exact ⟨_,_,gz,by refine rq ?_;exact HO674.out,by refine rq ?_;exact HO677.out,(bz1 HB.out GE641.out)⟩
       ·rw [if_neg c39] at H
        have c39b0:(a1 == a0_3)=false:=beq_eq_false_iff_ne.mpr c39
        have c39b1:(a1 != a0_3)=true:=bne_iff_ne.mpr c39
        obtain ⟨y678,hy678⟩:∃ y_:List ByteArray,y_=(([]:List ByteArray)):=⟨_,rfl⟩
        replace H:(some (y678,(([]:List Int))))=some (r1,r2):=yz hy678 H
        have Ny678:=am hy678
        clear hy678
        obtain ⟨y681,hy681⟩:∃ y_:List Int,y_=(([]:List Int)):=⟨_,rfl⟩
        replace H:(some (y678,y681))=some (r1,r2):=yz hy681 H
        have Ny681:=am hy681
        clear hy681
        simp only [Option.some.injEq,Prod.mk.injEq] at H
        obtain ⟨rfl,rfl⟩:=H
        obtain ⟨hcz45_0,hcz45_1,hcz45_2,hcz45_3,hcz45_4,hcz45_5,hcz45_6⟩:=cz7 BK641.out
        obtain ⟨hfz45_0,hfz45_1,hfz45_2,hfz45_3,hfz45_4,hfz45_5,hfz45_6⟩:=fz7 BK641.out
        go_wp2_with (first|((with_reducible refine gate_dst (N:=53) rfl ?_);refine Kd.R_lit Kd.string _ 9 ?hg (N:=53) ?hd (xs:=([]:List ByteArray)) (inner:=[]) (ok:=fun _=>True) (okp:=fun _=>True) ?hr ?hp (fun _ hk=>hk) trivial (Below.refl _ _) (Nat.le_refl _) (by simp) ?_;(case hd=>rfl);(case hg=>rfl);(case hr=>exact vz);(case hp=>exact (Reps.none _ _));intro v679 w46 ho47 hb hg_ hnew_;clear hg_ hnew_;(first|rw [<- Ny678.out] at ho47|(simp only [Int.reduceToNat] at ho47;rw [<- Ny678.out] at ho47));have HO680:=am (Kd.R_lower ho47 (below_size (bz1 HB.out GE641.out)));replace BK641:=kb BK641 hb;replace HB:=bs (bz1 HB.out GE641.out) hb;clear hb ho47)|((with_reducible refine gate_dst (N:=54) rfl ?_);refine Kd.R_lit (Kd.int .i64) _ 3 ?hg (N:=54) ?hd (xs:=([]:List Int)) (inner:=[]) (ok:=fun _=>True) (okp:=fun _=>True) ?hr ?hp (fun _ hk=>hk) trivial (Below.refl _ _) (Nat.le_refl _) (by simp) ?_;(case hd=>rfl);(case hg=>rfl);(case hr=>exact vz);(case hp=>exact (Reps.none _ _));intro v682 w48 ho49 hb hg_ hnew_;clear hg_ hnew_;(first|rw [<- Ny681.out] at ho49|(simp only [Int.reduceToNat] at ho49;rw [<- Ny681.out] at ho49));replace HO680:=qz HO680 hb;have HO683:=am (Kd.R_lower ho49 (below_size (bz1 HB.out GE641.out)));replace BK641:=kb BK641 hb;replace HB:=bs (bz1 HB.out GE641.out) hb;clear hb ho49))
        go_ret2
        exact ⟨_,_,gz,by refine rq ?_;exact HO680.out,by refine rq ?_;exact HO683.out,(bz1 HB.out GE641.out)⟩
      ·rw [if_neg c38] at H
       have c38b0:(a0_0 == 14)=false:=beq_eq_false_iff_ne.mpr c38
       have c38b1:(a0_0 != 14)=true:=bne_iff_ne.mpr c38
       obtain ⟨y684,hy684⟩:∃ y_:List ByteArray,y_=(([]:List ByteArray)):=⟨_,rfl⟩
       replace H:(some (y684,(([]:List Int))))=some (r1,r2):=yz hy684 H
       have Ny684:=am hy684
       clear hy684
       obtain ⟨y687,hy687⟩:∃ y_:List Int,y_=(([]:List Int)):=⟨_,rfl⟩
       replace H:(some (y684,y687))=some (r1,r2):=yz hy687 H
       have Ny687:=am hy687
       clear hy687
       simp only [Option.some.injEq,Prod.mk.injEq] at H
       obtain ⟨rfl,rfl⟩:=H
       go_wp2_with (first|((with_reducible refine gate_dst (N:=53) rfl ?_);refine Kd.R_lit Kd.string _ 9 ?hg (N:=53) ?hd (xs:=([]:List ByteArray)) (inner:=[]) (ok:=fun _=>True) (okp:=fun _=>True) ?hr ?hp (fun _ hk=>hk) trivial (Below.refl _ _) (Nat.le_refl _) (by simp) ?_;(case hd=>rfl);(case hg=>rfl);(case hr=>exact vz);(case hp=>exact (Reps.none _ _));intro v685 w50 ho51 hb hg_ hnew_;clear hg_ hnew_;(first|rw [<- Ny684.out] at ho51|(simp only [Int.reduceToNat] at ho51;rw [<- Ny684.out] at ho51));have HO686:=am (Kd.R_lower ho51 (below_size (bz1 HB.out GE641.out)));replace BK641:=kb BK641 hb;replace HB:=bs (bz1 HB.out GE641.out) hb;clear hb ho51)|((with_reducible refine gate_dst (N:=54) rfl ?_);refine Kd.R_lit (Kd.int .i64) _ 3 ?hg (N:=54) ?hd (xs:=([]:List Int)) (inner:=[]) (ok:=fun _=>True) (okp:=fun _=>True) ?hr ?hp (fun _ hk=>hk) trivial (Below.refl _ _) (Nat.le_refl _) (by simp) ?_;(case hd=>rfl);(case hg=>rfl);(case hr=>exact vz);(case hp=>exact (Reps.none _ _));intro v688 w52 ho53 hb hg_ hnew_;clear hg_ hnew_;(first|rw [<- Ny687.out] at ho53|(simp only [Int.reduceToNat] at ho53;rw [<- Ny687.out] at ho53));replace HO686:=qz HO686 hb;have HO689:=am (Kd.R_lower ho53 (below_size (bz1 HB.out GE641.out)));replace BK641:=kb BK641 hb;replace HB:=bs (bz1 HB.out GE641.out) hb;clear hb ho53))
       go_ret2
       exact ⟨_,_,gz,by refine rq ?_;exact HO686.out,by refine rq ?_;exact HO689.out,(bz1 HB.out GE641.out)⟩
end Go.Proofs.YthmpgocaoccnaaaGreatDoor.PFnFresh
