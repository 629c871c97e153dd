/- PFnFreshx9, of the words and walks that the law FnFresh needs; made by this session's program out of printed texts. -/
import Derived.Test.YthmpgocaoccnaaaGreatDoorVFnFreshPx0
namespace Go.Proofs.YthmpgocaoccnaaaGreatDoor.PFnFresh
open Go.RowKit Go.Proofs.YthmpgocaoccnaaaGreatDoorW.PrintWords Go.Proofs.YthmpgocaoccnaaaGreatDoorW.PrintLast Go.Proofs.YthmpgocaoccnaaaGreatDoorW.PrintMore
attribute [local go_sem] max2_int min2_int max_two min_two max_three min_three max_four min_four
set_option linter.unusedVariables false
set_option linter.unusedSimpArgs false
mutual
def impl_bindsIn.j0:Nat -> Int -> Bool -> Int -> Int -> Int -> Int -> Int -> ByteArray -> ByteArray -> Option (List ByteArray × List Int)
 | 0,_,_,_,_,_,_,_,_,_=>none
 | k+1,x1,x6,x194000,x194001,x194002,x194003,x194004,x194005,x194006=>if x6=true then (some ((([x194005]:List ByteArray)),(([0]:List Int)))) else (if x194000=6 then (impl_bindsIn.j1 k x1 (x1 == x194001) x194000 x194001 x194002 x194003 x194004 x194005 x194006) else (impl_bindsIn.j1 k x1 false x194000 x194001 x194002 x194003 x194004 x194005 x194006))
def impl_bindsIn.j1:Nat -> Int -> Bool -> Int -> Int -> Int -> Int -> Int -> ByteArray -> ByteArray -> Option (List ByteArray × List Int)
 | 0,_,_,_,_,_,_,_,_,_=>none
 | k+1,x1,x28,x194000,x194001,x194002,x194003,x194004,x194005,x194006=>if x28=true then (impl_bindsIn.j2 k x28 x194000 x194001 x194002 x194003 x194004 x194005 x194006) else (if x194000=14 then (impl_bindsIn.j2 k (x1 == x194003) x194000 x194001 x194002 x194003 x194004 x194005 x194006) else (impl_bindsIn.j2 k false x194000 x194001 x194002 x194003 x194004 x194005 x194006))
def impl_bindsIn.j2:Nat -> Bool -> Int -> Int -> Int -> Int -> Int -> ByteArray -> ByteArray -> Option (List ByteArray × List Int)
 | 0,_,_,_,_,_,_,_,_=>none
 | k+1,x28,x194000,x194001,x194002,x194003,x194004,x194005,x194006=>if x28=true then (some ((([x194006,x194005]:List ByteArray)),(([1,0]:List Int)))) else (if x194000=6 then (some ((([x194005]:List ByteArray)),(([0]:List Int)))) else (some (([]:List ByteArray),([]:List Int))))
end
def impl_bindsIn.f (k:Nat) (a0_0:Int) (a0_1:Int) (a0_2:Int) (a0_3:Int) (a0_4:Int) (a0_5:ByteArray) (a0_6:ByteArray) (a1:Int):Option (List ByteArray × List Int):=if a0_0=3 then (impl_bindsIn.j0 k a1 (a0_0 == 3) a0_0 a0_1 a0_2 a0_3 a0_4 a0_5 a0_6) else (if a0_0=5 then (impl_bindsIn.j0 k a1 (a1 == a0_2) a0_0 a0_1 a0_2 a0_3 a0_4 a0_5 a0_6) else (if a0_0=19 then (impl_bindsIn.j0 k a1 (a1 == a0_2) a0_0 a0_1 a0_2 a0_3 a0_4 a0_5 a0_6) else (impl_bindsIn.j0 k a1 false a0_0 a0_1 a0_2 a0_3 a0_4 a0_5 a0_6)))
theorem impl_bindsIn.mono_l:∀ k,(∀ y0 y1 y2 y3 y4 y5 y6 y7 y8,LeO (impl_bindsIn.j0 k y0 y1 y2 y3 y4 y5 y6 y7 y8) (impl_bindsIn.j0 (k+1) y0 y1 y2 y3 y4 y5 y6 y7 y8)) /\ (∀ y0 y1 y2 y3 y4 y5 y6 y7 y8,LeO (impl_bindsIn.j1 k y0 y1 y2 y3 y4 y5 y6 y7 y8) (impl_bindsIn.j1 (k+1) y0 y1 y2 y3 y4 y5 y6 y7 y8)) /\ (∀ y0 y1 y2 y3 y4 y5 y6 y7,LeO (impl_bindsIn.j2 k y0 y1 y2 y3 y4 y5 y6 y7) (impl_bindsIn.j2 (k+1) y0 y1 y2 y3 y4 y5 y6 y7))
 | 0=>⟨fun _ _ _ _ _ _ _ _ _ r h=>by simp [impl_bindsIn.j0] at h,fun _ _ _ _ _ _ _ _ _ r h=>by simp [impl_bindsIn.j1] at h,fun _ _ _ _ _ _ _ _ r h=>by simp [impl_bindsIn.j2] at h⟩
 | k+1=>by
  obtain ⟨ih0,ih1,ih2⟩:=impl_bindsIn.mono_l k
  refine ⟨?_,?_,?_⟩
  ·intro y0 y1 y2 y3 y4 y5 y6 y7 y8
   unfold impl_bindsIn.j0
   with_reducible repeat' first|exact ih0 _ _ _ _ _ _ _ _ _|exact ih1 _ _ _ _ _ _ _ _ _|exact ih2 _ _ _ _ _ _ _ _|exact lrz _|exact lnz _|refine liz ?_ ?_|refine lbz ?_ fun _=>?_
  ·intro y0 y1 y2 y3 y4 y5 y6 y7 y8
   unfold impl_bindsIn.j1
   with_reducible repeat' first|exact ih0 _ _ _ _ _ _ _ _ _|exact ih1 _ _ _ _ _ _ _ _ _|exact ih2 _ _ _ _ _ _ _ _|exact lrz _|exact lnz _|refine liz ?_ ?_|refine lbz ?_ fun _=>?_
  ·intro y0 y1 y2 y3 y4 y5 y6 y7
   unfold impl_bindsIn.j2
   with_reducible repeat' first|exact ih0 _ _ _ _ _ _ _ _ _|exact ih1 _ _ _ _ _ _ _ _ _|exact ih2 _ _ _ _ _ _ _ _|exact lrz _|exact lnz _|refine liz ?_ ?_|refine lbz ?_ fun _=>?_
theorem impl_bindsIn.mono:∀ a0 a1 a2 a3 a4 a5 a6 a7 k,LeO (impl_bindsIn.f k a0 a1 a2 a3 a4 a5 a6 a7) (impl_bindsIn.f (k+1) a0 a1 a2 a3 a4 a5 a6 a7):=by
 intro a0 a1 a2 a3 a4 a5 a6 a7 k
 obtain ⟨ih0,ih1,ih2⟩:=impl_bindsIn.mono_l k
 unfold impl_bindsIn.f
 with_reducible repeat' first|exact ih0 _ _ _ _ _ _ _ _ _|exact ih1 _ _ _ _ _ _ _ _ _|exact ih2 _ _ _ _ _ _ _ _|exact lrz _|exact lnz _|refine liz ?_ ?_|refine lbz ?_ fun _=>?_
set_option maxHeartbeats 8000000 in
set_option maxRecDepth 100000 in
theorem impl_bindsIn.calls (k:Nat) (a0_0:Int) (a0_1:Int) (a0_2:Int) (a0_3:Int) (a0_4:Int) (a0_5:ByteArray) (a0_6:ByteArray) (a1:Int) (r1:List ByteArray) (r2:List Int) (w:World) (h:impl_bindsIn.f k a0_0 a0_1 a0_2 a0_3 a0_4 a0_5 a0_6 a1=some (r1,r2)) :
  Calls Tryz.prog 73 #[.agg #[.int .i64 a0_0,.int .i64 a0_1,.int .i64 a0_2,.int .i64 a0_3,.int .i64 a0_4,.string a0_5,.string a0_6],.int .i64 a1] w fun e w'=>∃ v0_ v1_:Value,e=.returned (.tuple #[v0_,v1_]) /\ Kd.R Kd.string 9 w' w.heap.size (fun _=>True) v0_ r1 /\ Kd.R (Kd.int .i64) 3 w' w.heap.size (fun _=>True) v1_ r2 /\ Below w.heap.size w w':=by
 have hu45:=Tryz.underlying45
 have HB:=am (Below.refl w.heap.size w)
 have H:(if a0_0=3 then (impl_bindsIn.j0 k a1 (a0_0 == 3) a0_0 a0_1 a0_2 a0_3 a0_4 a0_5 a0_6) else (if a0_0=5 then (impl_bindsIn.j0 k a1 (a1 == a0_2) a0_0 a0_1 a0_2 a0_3 a0_4 a0_5 a0_6) else (if a0_0=19 then (impl_bindsIn.j0 k a1 (a1 == a0_2) a0_0 a0_1 a0_2 a0_3 a0_4 a0_5 a0_6) else (impl_bindsIn.j0 k a1 false a0_0 a0_1 a0_2 a0_3 a0_4 a0_5 a0_6))))=some (r1,r2):=h
 clear h
 have HC3:=am H
 clear H
 go_enter Tryz.func73,Tryz.ntmps73
 go_upto_if 6 with (first|((with_reducible refine gate_dst (N:=2) rfl ?_);refine box_event ?hg (N:=2) ?hd (cs:=#[.int .i64 a0_0,.int .i64 a0_1,.int .i64 a0_2,.int .i64 a0_3,.int .i64 a0_4,.string a0_5,.string a0_6]) (t:=45) ?hr ?_;(case hd=>rfl);(case hg=>rfl);(case hr=>exact vz);intro gb193 hg w4 hbox hb;have BK193:=am (hbox);have GW193:=am ((by rw [hg];exact (below_size (bz0 HB.out)):w.heap.size <= gb193));have GE193:=GW193;replace HB:=bs (bz0 HB.out) hb;clear hb hbox hg;obtain ⟨hcz5_0,hcz5_1,hcz5_2,hcz5_3,hcz5_4,hcz5_5,hcz5_6⟩:=cz7 BK193.out;obtain ⟨hfz5_0,hfz5_1,hfz5_2,hfz5_3,hfz5_4,hfz5_5,hfz5_6⟩:=fz7 BK193.out))
 (try simp only [Act.put,sz1,sz2,sz3])
 go_cut [6] (fun v6 wc=>∃ (kq:Nat) (x6_2:Bool),v6=.bool x6_2 /\ Aside0 (impl_bindsIn.j0 kq a1 x6_2 a0_0 a0_1 a0_2 a0_3 a0_4 a0_5 a0_6=some (r1,r2)) /\ Aside0 (kq <= k) /\ Aside0 (wc.heap[gb193]?=some (.cells #[.int .i64 a0_0,.int .i64 a0_1,.int .i64 a0_2,.int .i64 a0_3,.int .i64 a0_4,.string a0_5,.string a0_6] 45 (0,0))) /\ Aside0 (Below w.heap.size w wc))
 case first =>
  have H:=HC3.out
  clear HC3
  by_cases c6:a0_0=3
  ·rw [if_pos c6] at H
   have c6b0:(a0_0 == 3)=true:=beq_iff_eq.mpr c6
   have c6b1:(a0_0 != 3)=false:=bne_eq_false_iff_eq.mpr c6
   clear c6
   (first|rw [c6b0]|(simp only [i64_w,i32_w];rw [c6b0])|skip)
   have H':=am H
   clear H
   go_wp2
   go_meet
   case rel=>exact ⟨_,((a0_0 == 3)),ez,H',⟨by first|omega|exact Nat.le_refl _⟩,⟨by refine kq ?_;exact BK193.out⟩,⟨(bz1 HB.out GE193.out)⟩⟩
  ·rw [if_neg c6] at H
   have c6b0:(a0_0 == 3)=false:=beq_eq_false_iff_ne.mpr c6
   have c6b1:(a0_0 != 3)=true:=bne_iff_ne.mpr c6
   (first|rw [c6b0]|(simp only [i64_w,i32_w];rw [c6b0])|skip)
   by_cases c7:a0_0=5
   ·rw [if_pos c7] at H
    have c7b0:(a0_0 == 5)=true:=beq_iff_eq.mpr c7
    have c7b1:(a0_0 != 5)=false:=bne_eq_false_iff_eq.mpr c7
    clear c7
    have H':=am H
    clear H
    obtain ⟨hcz8_0,hcz8_1,hcz8_2,hcz8_3,hcz8_4,hcz8_5,hcz8_6⟩:=cz7 BK193.out
    obtain ⟨hfz8_0,hfz8_1,hfz8_2,hfz8_3,hfz8_4,hfz8_5,hfz8_6⟩:=fz7 BK193.out
    go_wp2
    go_meet
    case rel=>exact ⟨_,((a1 == a0_2)),ez,H',⟨by first|omega|exact Nat.le_refl _⟩,⟨by refine kq ?_;exact BK193.out⟩,⟨(bz1 HB.out GE193.out)⟩⟩
   ·rw [if_neg c7] at H
    have c7b0:(a0_0 == 5)=false:=beq_eq_false_iff_ne.mpr c7
    have c7b1:(a0_0 != 5)=true:=bne_iff_ne.mpr c7
    by_cases c9:a0_0=19
    ·rw [if_pos c9] at H
     have c9b0:(a0_0 == 19)=true:=beq_iff_eq.mpr c9
     have c9b1:(a0_0 != 19)=false:=bne_eq_false_iff_eq.mpr c9
     clear c9
     have H':=am H
     clear H
     obtain ⟨hcz10_0,hcz10_1,hcz10_2,hcz10_3,hcz10_4,hcz10_5,hcz10_6⟩:=cz7 BK193.out
     obtain ⟨hfz10_0,hfz10_1,hfz10_2,hfz10_3,hfz10_4,hfz10_5,hfz10_6⟩:=fz7 BK193.out
     go_wp2
     go_meet
     case rel=>exact ⟨_,((a1 == a0_2)),ez,H',⟨by first|omega|exact Nat.le_refl _⟩,⟨by refine kq ?_;exact BK193.out⟩,⟨(bz1 HB.out GE193.out)⟩⟩
    ·rw [if_neg c9] at H
     have c9b0:(a0_0 == 19)=false:=beq_eq_false_iff_ne.mpr c9
     have c9b1:(a0_0 != 19)=true:=bne_iff_ne.mpr c9
     have H':=am H
     clear H
     obtain ⟨hcz11_0,hcz11_1,hcz11_2,hcz11_3,hcz11_4,hcz11_5,hcz11_6⟩:=cz7 BK193.out
     obtain ⟨hfz11_0,hfz11_1,hfz11_2,hfz11_3,hfz11_4,hfz11_5,hfz11_6⟩:=fz7 BK193.out
     go_wp2
     go_meet
     case rel=>exact ⟨_,(false),ez,H',⟨by first|omega|exact Nat.le_refl _⟩,⟨by refine kq ?_;exact BK193.out⟩,⟨(bz1 HB.out GE193.out)⟩⟩
 case rest =>
  clear HC3
  try clear p2
  try clear c6
  try clear c6b0
  try clear c6b1
  try clear c7
  try clear c7b0
  try clear c7b1
  try clear c9
  try clear c9b0
  try clear c9b1
  try clear hcz10_0 hcz10_1 hcz10_2 hcz10_3 hcz10_4 hcz10_5 hcz10_6
  try clear hcz11_0 hcz11_1 hcz11_2 hcz11_3 hcz11_4 hcz11_5 hcz11_6
  try clear hcz5_0 hcz5_1 hcz5_2 hcz5_3 hcz5_4 hcz5_5 hcz5_6
  try clear hcz8_0 hcz8_1 hcz8_2 hcz8_3 hcz8_4 hcz8_5 hcz8_6
  try clear hfz10_0 hfz10_1 hfz10_2 hfz10_3 hfz10_4 hfz10_5 hfz10_6
  try clear hfz11_0 hfz11_1 hfz11_2 hfz11_3 hfz11_4 hfz11_5 hfz11_6
  try clear hfz5_0 hfz5_1 hfz5_2 hfz5_3 hfz5_4 hfz5_5 hfz5_6
  try clear hfz8_0 hfz8_1 hfz8_2 hfz8_3 hfz8_4 hfz8_5 hfz8_6
  obtain ⟨kq,x6_2,rfl,HA,HJ2,BK193,HB⟩:=hcut
  cases kq with
  | zero=>exact absurd HA.out (by simp [impl_bindsIn.j0])
  | succ kj2 =>
   have H:=HA.out
   clear HA
   simp only [impl_bindsIn.j0] at H
   by_cases c12:x6_2=true
   ·subst c12
    have H1:=hp H
    clear H
    have H:=H1
    clear H1
    obtain ⟨y194,hy194⟩:∃ y_:List ByteArray,y_=(([a0_5]:List ByteArray)):=⟨_,rfl⟩
    replace H:(some (y194,(([0]:List Int))))=some (r1,r2):=yz hy194 H
    have Ny194:=am hy194
    clear hy194
    obtain ⟨y197,hy197⟩:∃ y_:List Int,y_=(([0]:List Int)):=⟨_,rfl⟩
    replace H:(some (y194,y197))=some (r1,r2):=yz hy197 H
    have Ny197:=am hy197
    clear hy197
    simp only [Option.some.injEq,Prod.mk.injEq] at H
    obtain ⟨rfl,rfl⟩:=H
    obtain ⟨hcz13_0,hcz13_1,hcz13_2,hcz13_3,hcz13_4,hcz13_5,hcz13_6⟩:=cz7 BK193.out
    obtain ⟨hfz13_0,hfz13_1,hfz13_2,hfz13_3,hfz13_4,hfz13_5,hfz13_6⟩:=fz7 BK193.out
    go_wp2_with (first|((with_reducible refine gate_dst (N:=26) rfl ?_);refine Kd.R_lit Kd.string _ 9 ?hg (N:=26) ?hd (xs:=([a0_5]:List ByteArray)) (inner:=[.string a0_5]) (ok:=fun _=>True) (okp:=fun _=>True) ?hr ?hp (fun _ hk=>hk) trivial (Below.refl _ _) (Nat.le_refl _) (by simp) ?_;(case hd=>rfl);(case hg=>rfl);(case hr=>exact vz);(case hp=>exact (Reps.one (show Kd.M Kd.string _ _ _ a0_5 [.string a0_5] from rfl) (Reps.none _ _)));intro v195 w14 ho15 hb hg_ hnew_;clear hg_ hnew_;(first|rw [<- Ny194.out] at ho15|(simp only [Int.reduceToNat] at ho15;rw [<- Ny194.out] at ho15));have HO196:=am (Kd.R_lower ho15 (below_size (bz1 HB.out GE193.out)));replace BK193:=kb BK193 hb;replace HB:=bs (bz1 HB.out GE193.out) hb;clear hb ho15)|((with_reducible refine gate_dst (N:=27) rfl ?_);refine Kd.R_lit (Kd.int .i64) _ 3 ?hg (N:=27) ?hd (xs:=([0]:List Int)) (inner:=[.int .i64 0]) (ok:=fun _=>True) (okp:=fun _=>True) ?hr ?hp (fun _ hk=>hk) trivial (Below.refl _ _) (Nat.le_refl _) (by simp) ?_;(case hd=>rfl);(case hg=>rfl);(case hr=>exact vz);(case hp=>exact (Reps.one (show Kd.M (Kd.int .i64) _ _ _ 0 [.int .i64 0] from rfl) (Reps.none _ _)));intro v198 w16 ho17 hb hg_ hnew_;clear hg_ hnew_;(first|rw [<- Ny197.out] at ho17|(simp only [Int.reduceToNat] at ho17;rw [<- Ny197.out] at ho17));replace HO196:=qz HO196 hb;have HO199:=am (Kd.R_lower ho17 (below_size (bz1 HB.out GE193.out)));replace BK193:=kb BK193 hb;replace HB:=bs (bz1 HB.out GE193.out) hb;clear hb ho17))
    go_ret2
    exact ⟨_,_,gz,by refine rq ?_;exact HO196.out,by refine rq ?_;exact HO199.out,(bz1 HB.out GE193.out)⟩
   ·replace c12:=Bool.eq_false_iff.mpr c12
    subst c12
    have H1:=hq H
    clear H
    have H:=H1
    clear H1
    have HC18:=am H
    clear H
    go_upto_region 4 with (fail)
    go_cut [28] (fun v28 wc=>∃ (kq:Nat) (x28_17:Bool),v28=.bool x28_17 /\ Aside0 (impl_bindsIn.j1 kq a1 x28_17 a0_0 a0_1 a0_2 a0_3 a0_4 a0_5 a0_6=some (r1,r2)) /\ Aside0 (kq <= kj2) /\ Aside0 (wc.heap[gb193]?=some (.cells #[.int .i64 a0_0,.int .i64 a0_1,.int .i64 a0_2,.int .i64 a0_3,.int .i64 a0_4,.string a0_5,.string a0_6] 45 (0,0))) /\ Aside0 (Below w.heap.size w wc))
    case first =>
     have H:=HC18.out
     clear HC18
     by_cases c19:a0_0=6
     ·rw [if_pos c19] at H
      have c19b0:(a0_0 == 6)=true:=beq_iff_eq.mpr c19
      have c19b1:(a0_0 != 6)=false:=bne_eq_false_iff_eq.mpr c19
      clear c19
      (first|rw [c19b0]|(simp only [i64_w,i32_w];rw [c19b0])|skip)
      have H':=am H
      clear H
      obtain ⟨hcz20_0,hcz20_1,hcz20_2,hcz20_3,hcz20_4,hcz20_5,hcz20_6⟩:=cz7 BK193.out
      obtain ⟨hfz20_0,hfz20_1,hfz20_2,hfz20_3,hfz20_4,hfz20_5,hfz20_6⟩:=fz7 BK193.out
      go_wp2
      go_meet
      case rel=>exact ⟨_,((a1 == a0_1)),ez,H',⟨by have:=HJ2.out;first|omega|exact Nat.le_refl _⟩,⟨by refine kq ?_;exact BK193.out⟩,⟨(bz1 HB.out GE193.out)⟩⟩
     ·rw [if_neg c19] at H
      have c19b0:(a0_0 == 6)=false:=beq_eq_false_iff_ne.mpr c19
      have c19b1:(a0_0 != 6)=true:=bne_iff_ne.mpr c19
      (first|rw [c19b0]|(simp only [i64_w,i32_w];rw [c19b0])|skip)
      have H':=am H
      clear H
      obtain ⟨hcz21_0,hcz21_1,hcz21_2,hcz21_3,hcz21_4,hcz21_5,hcz21_6⟩:=cz7 BK193.out
      obtain ⟨hfz21_0,hfz21_1,hfz21_2,hfz21_3,hfz21_4,hfz21_5,hfz21_6⟩:=fz7 BK193.out
      go_wp2
      go_meet
      case rel=>exact ⟨_,(false),ez,H',⟨by have:=HJ2.out;first|omega|exact Nat.le_refl _⟩,⟨by refine kq ?_;exact BK193.out⟩,⟨(bz1 HB.out GE193.out)⟩⟩
    case rest =>
     clear HC18
     try clear c1
     try clear p2
     try clear c6
     try clear c6b0
     try clear c6b1
     try clear c7
     try clear c7b0
     try clear c7b1
     try clear c9
     try clear c9b0
     try clear c9b1
     try clear c12
     try clear c19
     try clear c19b0
     try clear c19b1
     try clear hcz10_0 hcz10_1 hcz10_2 hcz10_3 hcz10_4 hcz10_5 hcz10_6
     try clear hcz11_0 hcz11_1 hcz11_2 hcz11_3 hcz11_4 hcz11_5 hcz11_6
     try clear hcz13_0 hcz13_1 hcz13_2 hcz13_3 hcz13_4 hcz13_5 hcz13_6
     try clear hcz20_0 hcz20_1 hcz20_2 hcz20_3 hcz20_4 hcz20_5 hcz20_6
     try clear hcz21_0 hcz21_1 hcz21_2 hcz21_3 hcz21_4 hcz21_5 hcz21_6
     try clear hcz5_0 hcz5_1 hcz5_2 hcz5_3 hcz5_4 hcz5_5 hcz5_6
     try clear hcz8_0 hcz8_1 hcz8_2 hcz8_3 hcz8_4 hcz8_5 hcz8_6
     try clear hfz10_0 hfz10_1 hfz10_2 hfz10_3 hfz10_4 hfz10_5 hfz10_6
     try clear hfz11_0 hfz11_1 hfz11_2 hfz11_3 hfz11_4 hfz11_5 hfz11_6
     try clear hfz13_0 hfz13_1 hfz13_2 hfz13_3 hfz13_4 hfz13_5 hfz13_6
     try clear hfz20_0 hfz20_1 hfz20_2 hfz20_3 hfz20_4 hfz20_5 hfz20_6
     try clear hfz21_0 hfz21_1 hfz21_2 hfz21_3 hfz21_4 hfz21_5 hfz21_6
     try clear hfz5_0 hfz5_1 hfz5_2 hfz5_3 hfz5_4 hfz5_5 hfz5_6
     try clear hfz8_0 hfz8_1 hfz8_2 hfz8_3 hfz8_4 hfz8_5 hfz8_6
     try clear p2
     obtain ⟨kq,x28_17,rfl,HA,HJ17,BK193,HB⟩:=hcut
     cases kq with
     | zero=>exact absurd HA.out (by simp [impl_bindsIn.j1])
     | succ kj17 =>
      have H:=HA.out
      clear HA
      simp only [impl_bindsIn.j1] at H
      have HC22:=am H
      clear H
      go_upto_if 28 with (fail)
      go_cut [28] (fun v28 wc=>∃ (kq:Nat) (x28_21:Bool),v28=.bool x28_21 /\ Aside0 (impl_bindsIn.j2 kq x28_21 a0_0 a0_1 a0_2 a0_3 a0_4 a0_5 a0_6=some (r1,r2)) /\ Aside0 (kq <= kj17) /\ Aside0 (wc.heap[gb193]?=some (.cells #[.int .i64 a0_0,.int .i64 a0_1,.int .i64 a0_2,.int .i64 a0_3,.int .i64 a0_4,.string a0_5,.string a0_6] 45 (0,0))) /\ Aside0 (Below w.heap.size w wc))
      case first =>
       have H:=HC22.out
       clear HC22
       by_cases c23:x28_17=true
       ·subst c23
        have H1:=hp H
        clear H
        have H:=H1
        clear H1
        have H':=am H
        clear H
        go_wp2
        go_meet
        case rel=>exact ⟨_,(true),ez,H',⟨by have:=HJ2.out;have:=HJ17.out;first|omega|exact Nat.le_refl _⟩,⟨by refine kq ?_;exact BK193.out⟩,⟨(bz1 HB.out GE193.out)⟩⟩
       ·replace c23:=Bool.eq_false_iff.mpr c23
        subst c23
        have H1:=hq H
        clear H
        have H:=H1
        clear H1
        by_cases c24:a0_0=14
        ·rw [if_pos c24] at H
         have c24b0:(a0_0 == 14)=true:=beq_iff_eq.mpr c24
         have c24b1:(a0_0 != 14)=false:=bne_eq_false_iff_eq.mpr c24
         clear c24
         (first|rw [c24b0]|(simp only [i64_w,i32_w];rw [c24b0])|skip)
         have H':=am H
         clear H
         obtain ⟨hcz25_0,hcz25_1,hcz25_2,hcz25_3,hcz25_4,hcz25_5,hcz25_6⟩:=cz7 BK193.out
         obtain ⟨hfz25_0,hfz25_1,hfz25_2,hfz25_3,hfz25_4,hfz25_5,hfz25_6⟩:=fz7 BK193.out
         go_wp2
         go_meet
         case rel=>exact ⟨_,((a1 == a0_3)),ez,H',⟨by have:=HJ2.out;have:=HJ17.out;first|omega|exact Nat.le_refl _⟩,⟨by refine kq ?_;exact BK193.out⟩,⟨(bz1 HB.out GE193.out)⟩⟩
        ·rw [if_neg c24] at H
         have c24b0:(a0_0 == 14)=false:=beq_eq_false_iff_ne.mpr c24
         have c24b1:(a0_0 != 14)=true:=bne_iff_ne.mpr c24
         (first|rw [c24b0]|(simp only [i64_w,i32_w];rw [c24b0])|skip)
         have H':=am H
         clear H
         obtain ⟨hcz26_0,hcz26_1,hcz26_2,hcz26_3,hcz26_4,hcz26_5,hcz26_6⟩:=cz7 BK193.out
         obtain ⟨hfz26_0,hfz26_1,hfz26_2,hfz26_3,hfz26_4,hfz26_5,hfz26_6⟩:=fz7 BK193.out
         go_wp2
         go_meet
         case rel=>exact ⟨_,(false),ez,H',⟨by have:=HJ2.out;have:=HJ17.out;first|omega|exact Nat.le_refl _⟩,⟨by refine kq ?_;exact BK193.out⟩,⟨(bz1 HB.out GE193.out)⟩⟩
      case rest =>
       clear HC22
       try clear c1
       try clear c2
       try clear p2
       try clear c6
       try clear c6b0
       try clear c6b1
       try clear c7
       try clear c7b0
       try clear c7b1
       try clear c9
       try clear c9b0
       try clear c9b1
       try clear c12
       try clear c19
       try clear c19b0
       try clear c19b1
       try clear c23
       try clear c24
       try clear c24b0
       try clear c24b1
       try clear hcz10_0 hcz10_1 hcz10_2 hcz10_3 hcz10_4 hcz10_5 hcz10_6
       try clear hcz11_0 hcz11_1 hcz11_2 hcz11_3 hcz11_4 hcz11_5 hcz11_6
       try clear hcz13_0 hcz13_1 hcz13_2 hcz13_3 hcz13_4 hcz13_5 hcz13_6
       try clear hcz20_0 hcz20_1 hcz20_2 hcz20_3 hcz20_4 hcz20_5 hcz20_6
       try clear hcz21_0 hcz21_1 hcz21_2 hcz21_3 hcz21_4 hcz21_5 hcz21_6
       try clear hcz25_0 hcz25_1 hcz25_2 hcz25_3 hcz25_4 hcz25_5 hcz25_6
       try clear hcz26_0 hcz26_1 hcz26_2 hcz26_3 hcz26_4 hcz26_5 hcz26_6
       try clear hcz5_0 hcz5_1 hcz5_2 hcz5_3 hcz5_4 hcz5_5 hcz5_6
       try clear hcz8_0 hcz8_1 hcz8_2 hcz8_3 hcz8_4 hcz8_5 hcz8_6
       try clear hfz10_0 hfz10_1 hfz10_2 hfz10_3 hfz10_4 hfz10_5 hfz10_6
       try clear hfz11_0 hfz11_1 hfz11_2 hfz11_3 hfz11_4 hfz11_5 hfz11_6
       try clear hfz13_0 hfz13_1 hfz13_2 hfz13_3 hfz13_4 hfz13_5 hfz13_6
       try clear hfz20_0 hfz20_1 hfz20_2 hfz20_3 hfz20_4 hfz20_5 hfz20_6
       try clear hfz21_0 hfz21_1 hfz21_2 hfz21_3 hfz21_4 hfz21_5 hfz21_6
       try clear hfz25_0 hfz25_1 hfz25_2 hfz25_3 hfz25_4 hfz25_5 hfz25_6
       try clear hfz26_0 hfz26_1 hfz26_2 hfz26_3 hfz26_4 hfz26_5 hfz26_6
       try clear hfz5_0 hfz5_1 hfz5_2 hfz5_3 hfz5_4 hfz5_5 hfz5_6
       try clear hfz8_0 hfz8_1 hfz8_2 hfz8_3 hfz8_4 hfz8_5 hfz8_6
       try clear p2
       obtain ⟨kq,x28_21,rfl,HA,HJ21,BK193,HB⟩:=hcut
       cases kq with
       | zero=>exact absurd HA.out (by simp [impl_bindsIn.j2])
       | succ kj21 =>
        have H:=HA.out
        clear HA
        simp only [impl_bindsIn.j2] at H
        by_cases c27:x28_21=true
        ·subst c27
         have H1:=hp H
         clear H
         have H:=H1
         clear H1
         obtain ⟨y200,hy200⟩:∃ y_:List ByteArray,y_=(([a0_6,a0_5]:List ByteArray)):=⟨_,rfl⟩
         replace H:(some (y200,(([1,0]:List Int))))=some (r1,r2):=yz hy200 H
         have Ny200:=am hy200
         clear hy200
         obtain ⟨y203,hy203⟩:∃ y_:List Int,y_=(([1,0]:List Int)):=⟨_,rfl⟩
         replace H:(some (y200,y203))=some (r1,r2):=yz hy203 H
         have Ny203:=am hy203
         clear hy203
         simp only [Option.some.injEq,Prod.mk.injEq] at H
         obtain ⟨rfl,rfl⟩:=H
         obtain ⟨hcz28_0,hcz28_1,hcz28_2,hcz28_3,hcz28_4,hcz28_5,hcz28_6⟩:=cz7 BK193.out
         obtain ⟨hfz28_0,hfz28_1,hfz28_2,hfz28_3,hfz28_4,hfz28_5,hfz28_6⟩:=fz7 BK193.out
         go_wp2_with (first|((with_reducible refine gate_dst (N:=51) rfl ?_);refine Kd.R_lit Kd.string _ 9 ?hg (N:=51) ?hd (xs:=([a0_6,a0_5]:List ByteArray)) (inner:=[.string a0_6,.string a0_5]) (ok:=fun _=>True) (okp:=fun _=>True) ?hr ?hp (fun _ hk=>hk) trivial (Below.refl _ _) (Nat.le_refl _) (by simp) ?_;(case hd=>rfl);(case hg=>rfl);(case hr=>exact vz);(case hp=>exact (Reps.one (show Kd.M Kd.string _ _ _ a0_6 [.string a0_6] from rfl) (Reps.one (show Kd.M Kd.string _ _ _ a0_5 [.string a0_5] from rfl) (Reps.none _ _))));intro v201 w29 ho30 hb hg_ hnew_;clear hg_ hnew_;(first|rw [<- Ny200.out] at ho30|(simp only [Int.reduceToNat] at ho30;rw [<- Ny200.out] at ho30));have HO202:=am (Kd.R_lower ho30 (below_size (bz1 HB.out GE193.out)));replace BK193:=kb BK193 hb;replace HB:=bs (bz1 HB.out GE193.out) hb;clear hb ho30)|((with_reducible refine gate_dst (N:=52) rfl ?_);refine Kd.R_lit (Kd.int .i64) _ 3 ?hg (N:=52) ?hd (xs:=([1,0]:List Int)) (inner:=[.int .i64 1,.int .i64 0]) (ok:=fun _=>True) (okp:=fun _=>True) ?hr ?hp (fun _ hk=>hk) trivial (Below.refl _ _) (Nat.le_refl _) (by simp) ?_;(case hd=>rfl);(case hg=>rfl);(case hr=>exact vz);(case hp=>exact (Reps.one (show Kd.M (Kd.int .i64) _ _ _ 1 [.int .i64 1] from rfl) (Reps.one (show Kd.M (Kd.int .i64) _ _ _ 0 [.int .i64 0] from rfl) (Reps.none _ _))));intro v204 w31 ho32 hb hg_ hnew_;clear hg_ hnew_;(first|rw [<- Ny203.out] at ho32|(simp only [Int.reduceToNat] at ho32;rw [<- Ny203.out] at ho32));replace HO202:=qz HO202 hb;have HO205:=am (Kd.R_lower ho32 (below_size (bz1 HB.out GE193.out)));replace BK193:=kb BK193 hb;replace HB:=bs (bz1 HB.out GE193.out) hb;clear hb ho32))
         go_ret2
         exact ⟨_,_,gz,by refine rq ?_;exact HO202.out,by refine rq ?_;exact HO205.out,(bz1 HB.out GE193.out)⟩
        ·replace c27:=Bool.eq_false_iff.mpr c27
         subst c27
         have H1:=hq H
         clear H
         have H:=H1
         clear H1
         by_cases c33:a0_0=6
         ·rw [if_pos c33] at H
          have c33b0:(a0_0 == 6)=true:=beq_iff_eq.mpr c33
          have c33b1:(a0_0 != 6)=false:=bne_eq_false_iff_eq.mpr c33
          clear c33
          obtain ⟨y206,hy206⟩:∃ y_:List ByteArray,y_=(([a0_5]:List ByteArray)):=⟨_,rfl⟩
          replace H:(some (y206,(([0]:List Int))))=some (r1,r2):=yz hy206 H
          have Ny206:=am hy206
          clear hy206
          obtain ⟨y209,hy209⟩:∃ y_:List Int,y_=(([0]:List Int)):=⟨_,rfl⟩
          replace H:(some (y206,y209))=some (r1,r2):=yz hy209 H
          have Ny209:=am hy209
          clear hy209
          simp only [Option.some.injEq,Prod.mk.injEq] at H
          obtain ⟨rfl,rfl⟩:=H
          obtain ⟨hcz34_0,hcz34_1,hcz34_2,hcz34_3,hcz34_4,hcz34_5,hcz34_6⟩:=cz7 BK193.out
          obtain ⟨hfz34_0,hfz34_1,hfz34_2,hfz34_3,hfz34_4,hfz34_5,hfz34_6⟩:=fz7 BK193.out
          go_wp2_with (first|((with_reducible refine gate_dst (N:=59) rfl ?_);refine Kd.R_lit Kd.string _ 9 ?hg (N:=59) ?hd (xs:=([a0_5]:List ByteArray)) (inner:=[.string a0_5]) (ok:=fun _=>True) (okp:=fun _=>True) ?hr ?hp (fun _ hk=>hk) trivial (Below.refl _ _) (Nat.le_refl _) (by simp) ?_;(case hd=>rfl);(case hg=>rfl);(case hr=>exact vz);(case hp=>exact (Reps.one (show Kd.M Kd.string _ _ _ a0_5 [.string a0_5] from rfl) (Reps.none _ _)));intro v207 w35 ho36 hb hg_ hnew_;clear hg_ hnew_;(first|rw [<- Ny206.out] at ho36|(simp only [Int.reduceToNat] at ho36;rw [<- Ny206.out] at ho36));have HO208:=am (Kd.R_lower ho36 (below_size (bz1 HB.out GE193.out)));replace BK193:=kb BK193 hb;replace HB:=bs (bz1 HB.out GE193.out) hb;clear hb ho36)|((with_reducible refine gate_dst (N:=60) rfl ?_);refine Kd.R_lit (Kd.int .i64) _ 3 ?hg (N:=60) ?hd (xs:=([0]:List Int)) (inner:=[.int .i64 0]) (ok:=fun _=>True) (okp:=fun _=>True) ?hr ?hp (fun _ hk=>hk) trivial (Below.refl _ _) (Nat.le_refl _) (by simp) ?_;(case hd=>rfl);(case hg=>rfl);(case hr=>exact vz);(case hp=>exact (Reps.one (show Kd.M (Kd.int .i64) _ _ _ 0 [.int .i64 0] from rfl) (Reps.none _ _)));intro v210 w37 ho38 hb hg_ hnew_;clear hg_ hnew_;(first|rw [<- Ny209.out] at ho38|(simp only [Int.reduceToNat] at ho38;rw [<- Ny209.out] at ho38));replace HO208:=qz HO208 hb;have HO211:=am (Kd.R_lower ho38 (below_size (bz1 HB.out GE193.out)));replace BK193:=kb BK193 hb;replace HB:=bs (bz1 HB.out GE193.out) hb;clear hb ho38))
          go_ret2
          exact ⟨_,_,gz,by refine rq ?_;exact HO208.out,by refine rq ?_;exact HO211.out,(bz1 HB.out GE193.out)⟩
         ·rw [if_neg c33] at H
          have c33b0:(a0_0 == 6)=false:=beq_eq_false_iff_ne.mpr c33
          have c33b1:(a0_0 != 6)=true:=bne_iff_ne.mpr c33
          simp only [Option.some.injEq,Prod.mk.injEq] at H
          obtain ⟨rfl,rfl⟩:=H
          obtain ⟨hcz39_0,hcz39_1,hcz39_2,hcz39_3,hcz39_4,hcz39_5,hcz39_6⟩:=cz7 BK193.out
          obtain ⟨hfz39_0,hfz39_1,hfz39_2,hfz39_3,hfz39_4,hfz39_5,hfz39_6⟩:=fz7 BK193.out
          go_wp2
          go_ret2
          exact ⟨_,_,gz,by first|exact Kd.R_nil _ _ _ _ _|exact Kd.N_nil _ _ _ _ _|exact Kd.V_nil _ _ _ _ _|exact Kd.Q_nil _ _ _ _ _|exact Kd.S_nil _ _ _ _ _,by first|exact Kd.R_nil _ _ _ _ _|exact Kd.N_nil _ _ _ _ _|exact Kd.V_nil _ _ _ _ _|exact Kd.Q_nil _ _ _ _ _|exact Kd.S_nil _ _ _ _ _,(bz1 HB.out GE193.out)⟩
end Go.Proofs.YthmpgocaoccnaaaGreatDoor.PFnFresh
