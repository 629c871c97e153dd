/- PFnFreshx14, of the words and walks that the law FnFresh needs; made by this session's program out of printed texts. -/
import Derived.Test.YthmpgocaoccnaaaGreatDoorVFnFreshPx0
import Derived.Test.YthmpgocaoccnaaaGreatDoorVFnFreshPx13
namespace Go.Proofs.YthmpgocaoccnaaaGreatDoor.PFnFresh
open Go.RowKit Go.Proofs.YthmpgocaoccnaaaGreatDoorW.PrintWords Go.Proofs.YthmpgocaoccnaaaGreatDoorW.PrintLast Go.Proofs.YthmpgocaoccnaaaGreatDoorW.PrintMore
attribute [local go_sem] max2_int min2_int max_two min_two max_three min_three max_four min_four
set_option linter.unusedVariables false
set_option linter.unusedSimpArgs false
def spec_l3Names.j0:Nat -> Int -> Bool -> Option (Int)
 | 0,_,_=>none
 | k+1,x3,x4=>if x4=true then (some 1) else (if x3=6 then (some 2) else (if x3=14 then (some 2) else (some 0)))
def spec_l3Names.f (k:Nat) (a0:Int):Option (Int):=if a0=1 then (spec_l3Names.j0 k a0 (a0 == 1)) else (if a0=3 then (spec_l3Names.j0 k a0 (a0 == 3)) else (if a0=5 then (spec_l3Names.j0 k a0 (a0 == 5)) else (spec_l3Names.j0 k a0 (a0 == 19))))
theorem spec_l3Names.mono_l:∀ k,(∀ y0 y1,LeO (spec_l3Names.j0 k y0 y1) (spec_l3Names.j0 (k+1) y0 y1))
 | 0=>fun _ _ r h=>by simp [spec_l3Names.j0] at h
 | k+1=>by
  have ih0:=spec_l3Names.mono_l k
  ·intro y0 y1
   unfold spec_l3Names.j0
   with_reducible repeat' first|exact ih0 _ _|exact lrz _|exact lnz _|refine liz ?_ ?_|refine lbz ?_ fun _=>?_
theorem spec_l3Names.mono:∀ a0 k,LeO (spec_l3Names.f k a0) (spec_l3Names.f (k+1) a0):=by
 intro a0 k
 have ih0:=spec_l3Names.mono_l k
 unfold spec_l3Names.f
 with_reducible repeat' first|exact ih0 _ _|exact lrz _|exact lnz _|refine liz ?_ ?_|refine lbz ?_ fun _=>?_
set_option maxHeartbeats 8000000 in
set_option maxRecDepth 100000 in
theorem spec_l3Names.calls (k:Nat) (a0:Int) (r:Int) (w:World) (h:spec_l3Names.f k a0=some r) :
  Calls Tryz.prog 80 #[.int .i64 a0] w fun e w'=>e=.returned (.int .i64 r) /\ Drawn0 w w':=by
 have H:(if a0=1 then (spec_l3Names.j0 k a0 (a0 == 1)) else (if a0=3 then (spec_l3Names.j0 k a0 (a0 == 3)) else (if a0=5 then (spec_l3Names.j0 k a0 (a0 == 5)) else (spec_l3Names.j0 k a0 (a0 == 19)))))=some r:=h
 clear h
 have HC2:=am H
 clear H
 go_enter Tryz.func80,Tryz.ntmps80
 go_upto_if 4 with (fail)
 go_cut [4] (fun v4 wc=>∃ (kq:Nat) (x4_1:Bool),v4=.bool x4_1 /\ Aside0 (spec_l3Names.j0 kq a0 x4_1=some r) /\ Aside0 (kq <= k) /\ Drawn0 w wc)
 case first =>
  have H:=HC2.out
  clear HC2
  by_cases c3:a0=1
  ·rw [if_pos c3] at H
   have c3b0:(a0 == 1)=true:=beq_iff_eq.mpr c3
   have c3b1:(a0 != 1)=false:=bne_eq_false_iff_eq.mpr c3
   clear c3
   (first|rw [c3b0]|(simp only [i64_w,i32_w];rw [c3b0])|skip)
   have H':=am H
   clear H
   go_wp2
   go_meet
   case rel=>exact ⟨_,((a0 == 1)),ez,H',⟨by first|omega|exact Nat.le_refl _⟩,dz⟩
  ·rw [if_neg c3] at H
   have c3b0:(a0 == 1)=false:=beq_eq_false_iff_ne.mpr c3
   have c3b1:(a0 != 1)=true:=bne_iff_ne.mpr c3
   (first|rw [c3b0]|(simp only [i64_w,i32_w];rw [c3b0])|skip)
   by_cases c4:a0=3
   ·rw [if_pos c4] at H
    have c4b0:(a0 == 3)=true:=beq_iff_eq.mpr c4
    have c4b1:(a0 != 3)=false:=bne_eq_false_iff_eq.mpr c4
    clear c4
    have H':=am H
    clear H
    go_wp2
    go_meet
    case rel=>exact ⟨_,((a0 == 3)),ez,H',⟨by first|omega|exact Nat.le_refl _⟩,dz⟩
   ·rw [if_neg c4] at H
    have c4b0:(a0 == 3)=false:=beq_eq_false_iff_ne.mpr c4
    have c4b1:(a0 != 3)=true:=bne_iff_ne.mpr c4
    by_cases c5:a0=5
    ·rw [if_pos c5] at H
     have c5b0:(a0 == 5)=true:=beq_iff_eq.mpr c5
     have c5b1:(a0 != 5)=false:=bne_eq_false_iff_eq.mpr c5
     clear c5
     have H':=am H
     clear H
     go_wp2
     go_meet
     case rel=>exact ⟨_,((a0 == 5)),ez,H',⟨by first|omega|exact Nat.le_refl _⟩,dz⟩
    ·rw [if_neg c5] at H
     have c5b0:(a0 == 5)=false:=beq_eq_false_iff_ne.mpr c5
     have c5b1:(a0 != 5)=true:=bne_iff_ne.mpr c5
     have H':=am H
     clear H
     go_wp2
     go_meet
     case rel=>exact ⟨_,((a0 == 19)),ez,H',⟨by first|omega|exact Nat.le_refl _⟩,dz⟩
 case rest =>
  clear HC2
  try clear p2
  try clear c3
  try clear c3b0
  try clear c3b1
  try clear c4
  try clear c4b0
  try clear c4b1
  try clear c5
  try clear c5b0
  try clear c5b1
  obtain ⟨kq,x4_1,rfl,HA,HJ1,⟨mc1,rfl⟩⟩:=hcut
  cases kq with
  | zero=>exact absurd HA.out (by simp [spec_l3Names.j0])
  | succ kj1 =>
   have H:=HA.out
   clear HA
   simp only [spec_l3Names.j0] at H
   by_cases c6:x4_1=true
   ·subst c6
    have H1:=hp H
    clear H
    have H:=H1
    clear H1
    obtain rfl:=Option.some.inj H
    go_wp2
    go_ret
    exact ⟨e2z,dz⟩
   ·replace c6:=Bool.eq_false_iff.mpr c6
    subst c6
    have H1:=hq H
    clear H
    have H:=H1
    clear H1
    by_cases c7:a0=6
    ·rw [if_pos c7] at H
     have c7b0:(a0 == 6)=true:=beq_iff_eq.mpr c7
     have c7b1:(a0 != 6)=false:=bne_eq_false_iff_eq.mpr c7
     clear c7
     obtain rfl:=Option.some.inj H
     go_wp2
     go_ret
     exact ⟨e2z,dz⟩
    ·rw [if_neg c7] at H
     have c7b0:(a0 == 6)=false:=beq_eq_false_iff_ne.mpr c7
     have c7b1:(a0 != 6)=true:=bne_iff_ne.mpr c7
     by_cases c8:a0=14
     ·rw [if_pos c8] at H
      have c8b0:(a0 == 14)=true:=beq_iff_eq.mpr c8
      have c8b1:(a0 != 14)=false:=bne_eq_false_iff_eq.mpr c8
      clear c8
      obtain rfl:=Option.some.inj H
      go_wp2
      go_ret
      exact ⟨e2z,dz⟩
     ·rw [if_neg c8] at H
      have c8b0:(a0 == 14)=false:=beq_eq_false_iff_ne.mpr c8
      have c8b1:(a0 != 14)=true:=bne_iff_ne.mpr c8
      obtain rfl:=Option.some.inj H
      go_wp2
      go_ret
      exact ⟨e2z,dz⟩
mutual
def spec_l3Shift.l0:Nat -> List (S45) -> Int -> List (S45) -> Int -> Option ((List (S45)))
 | 0,_,_,_,_=>none
 | k+1,x0,x1,x5,x6=>if x6<(x0.length:Int) then (if 0 <= x6 then ((spec_Arity.f k ((rd_T45 x0 x6).f0)).bind fun t358=>(if t358 > 0 then (spec_l3Shift.j1 k x0 x1 x5 x6 t358 ((rd_T45 x0 x6).f0) (wrap64 (((rd_T45 x0 x6).f1)+x1)) ((rd_T45 x0 x6).f2) ((rd_T45 x0 x6).f3) ((rd_T45 x0 x6).f4) ((rd_T45 x0 x6).f5) ((rd_T45 x0 x6).f6)) else (spec_l3Shift.j1 k x0 x1 x5 x6 t358 ((rd_T45 x0 x6).f0) ((rd_T45 x0 x6).f1) ((rd_T45 x0 x6).f2) ((rd_T45 x0 x6).f3) ((rd_T45 x0 x6).f4) ((rd_T45 x0 x6).f5) ((rd_T45 x0 x6).f6)))) else (none)) else (some x5)
def spec_l3Shift.j1:Nat -> List (S45) -> Int -> List (S45) -> Int -> Int -> Int -> Int -> Int -> Int -> Int -> ByteArray -> ByteArray -> Option ((List (S45)))
 | 0,_,_,_,_,_,_,_,_,_,_,_,_=>none
 | k+1,x0,x1,x5,x6,x8,x358000,x358001,x358002,x358003,x358004,x358005,x358006=>if x8 > 1 then (if x8 > 2 then (if x5.length<1954687338268 then (spec_l3Shift.l0 k x0 x1 (x5++[(⟨x358000,x358001,wrap64 (x358002+x1),wrap64 (x358003+x1),x358004,x358005,x358006⟩:S45)]) (wrap64 (x6+1))) else (none)) else (if x5.length<1954687338268 then (spec_l3Shift.l0 k x0 x1 (x5++[(⟨x358000,x358001,wrap64 (x358002+x1),x358003,x358004,x358005,x358006⟩:S45)]) (wrap64 (x6+1))) else (none))) else (if x8 > 2 then (if x5.length<1954687338268 then (spec_l3Shift.l0 k x0 x1 (x5++[(⟨x358000,x358001,x358002,wrap64 (x358003+x1),x358004,x358005,x358006⟩:S45)]) (wrap64 (x6+1))) else (none)) else (if x5.length<1954687338268 then (spec_l3Shift.l0 k x0 x1 (x5++[(⟨x358000,x358001,x358002,x358003,x358004,x358005,x358006⟩:S45)]) (wrap64 (x6+1))) else (none)))
end
def spec_l3Shift.f (k:Nat) (l0:List (S45)) (a1:Int):Option ((List (S45))):=spec_l3Shift.l0 k l0 a1 (([]:List (S45))) 0
theorem spec_l3Shift.mono_l:∀ k,(∀ y0 y1 y2 y3,LeO (spec_l3Shift.l0 k y0 y1 y2 y3) (spec_l3Shift.l0 (k+1) y0 y1 y2 y3)) /\ (∀ y0 y1 y2 y3 y4 y5 y6 y7 y8 y9 y10 y11,LeO (spec_l3Shift.j1 k y0 y1 y2 y3 y4 y5 y6 y7 y8 y9 y10 y11) (spec_l3Shift.j1 (k+1) y0 y1 y2 y3 y4 y5 y6 y7 y8 y9 y10 y11))
 | 0=>⟨fun _ _ _ _ r h=>by simp [spec_l3Shift.l0] at h,fun _ _ _ _ _ _ _ _ _ _ _ _ r h=>by simp [spec_l3Shift.j1] at h⟩
 | k+1=>by
  obtain ⟨ih0,ih1⟩:=spec_l3Shift.mono_l k
  refine ⟨?_,?_⟩
  ·intro y0 y1 y2 y3
   unfold spec_l3Shift.l0
   with_reducible repeat' first|exact ih0 _ _ _ _|exact ih1 _ _ _ _ _ _ _ _ _ _ _ _|exact spec_Arity.mono _ _|exact lrz _|exact lnz _|refine liz ?_ ?_|refine lbz ?_ fun _=>?_
  ·intro y0 y1 y2 y3 y4 y5 y6 y7 y8 y9 y10 y11
   unfold spec_l3Shift.j1
   with_reducible repeat' first|exact ih0 _ _ _ _|exact ih1 _ _ _ _ _ _ _ _ _ _ _ _|exact spec_Arity.mono _ _|exact lrz _|exact lnz _|refine liz ?_ ?_|refine lbz ?_ fun _=>?_
theorem spec_l3Shift.mono:∀ a0 a1 k,LeO (spec_l3Shift.f k a0 a1) (spec_l3Shift.f (k+1) a0 a1):=by
 intro a0 a1 k
 obtain ⟨ih0,ih1⟩:=spec_l3Shift.mono_l k
 unfold spec_l3Shift.f
 with_reducible repeat' first|exact ih0 _ _ _ _|exact ih1 _ _ _ _ _ _ _ _ _ _ _ _|exact spec_Arity.mono _ _|exact lrz _|exact lnz _|refine liz ?_ ?_|refine lbz ?_ fun _=>?_
set_option maxHeartbeats 8000000 in
set_option maxRecDepth 100000 in
theorem spec_l3Shift.calls (k:Nat) (A0:Option Addr) (c0:Nat) (l0:List (S45)) (a1:Int) (r:List (S45)) (w:World) (hr0:Kd.C k45 w A0 l0.length l0) (hc0:l0.length <= c0) (h:spec_l3Shift.f k l0 a1=some r) :
  Calls Tryz.prog 98 #[.slice A0 l0.length c0,.int .i64 a1] w fun e w'=>∃ v0_:Value,e=.returned (v0_) /\ Kd.R k45 45 w' w.heap.size (fun _=>True) v0_ r /\ Below w.heap.size w w':=by
 have hu45:=Tryz.underlying45
 have HR0:=am hr0
 have HC0:=am hc0
 clear hr0 hc0
 have HB:=am (Below.refl w.heap.size w)
 have H:(spec_l3Shift.l0 k l0 a1 (([]:List (S45))) 0)=some r:=h
 clear h
 obtain ⟨y353,hy353⟩:∃ y_:List (S45),y_=(([]:List (S45))):=⟨_,rfl⟩
 replace H:(spec_l3Shift.l0 k l0 a1 y353 0)=some r:=yz hy353 H
 have Ny353:=am hy353
 clear hy353
 have H':=am H
 clear H
 go_enter Tryz.func98,Tryz.ntmps98
 go_wp2_with (first|((with_reducible refine gate_dst (N:=9) rfl ?_);refine Kd.R_lit k45 _ 45 ?hg (N:=9) ?hd (xs:=([]:List (S45))) (inner:=[]) (ok:=fun _=>True) (okp:=fun _=>True) ?hr ?hp (fun _ hk=>hk) trivial (Below.refl _ _) (Nat.le_refl _) (by simp) ?_;(case hd=>rfl);(case hg=>rfl);(case hr=>exact vz);(case hp=>exact (Reps.none _ _));intro v354 w3 ho4 hb hg_ hnew_;clear hg_ hnew_;(first|rw [<- Ny353.out] at ho4|(simp only [Int.reduceToNat] at ho4;rw [<- Ny353.out] at ho4));have HO355:=am (Kd.R_lower ho4 (below_size (bz0 HB.out)));replace HB:=bs (bz0 HB.out) hb;clear hb ho4))
 (try simp only [Act.put,sz1,sz2,sz3])
 go_loopg [5,6] k (fun kq v5 v6 w'=>∃ (x5_1:List (S45)) (x6_1:Int),v6=.int .i64 x6_1 /\ Aside0 (spec_l3Shift.l0 kq l0 a1 x5_1 x6_1=some r) /\ Aside0 (kq <= k) /\ Aside0 (Kd.R k45 45 w' w.heap.size (fun _=>True) v5 x5_1) /\ Aside0 (Below w.heap.size w w'))
 case atStart=>exact ⟨(y353),(0),ez,H',⟨Nat.le_refl _⟩,⟨by refine rq ?_;exact HO355.out⟩,⟨(bz0 HB.out)⟩⟩
 case round =>
  clear H'
  try clear p2
  obtain ⟨x5_1,x6_1,rfl,HA,HK1,HO_5,HB⟩:=hrel
  cases gk with
  | zero=>exact absurd HA.out (by simp [spec_l3Shift.l0])
  | succ k1 =>
   have H:=HA.out
   clear HA
   simp only [spec_l3Shift.l0] at H
   by_cases c5:x6_1<(l0.length:Int)
   ·rw [if_pos c5] at H
    have c5b0:=decide_eq_true c5
    clear c5
    replace H:=iz H
    obtain ⟨c6,H⟩:=H
    have c6b0:=decide_eq_true c6
    clear c6
    replace H:=bi H
    obtain ⟨t358,A70,H⟩:=H
    try dsimp only at H
    have A7:=am A70
    clear A70
    have HC8:=am H
    clear H
    have p356:0 <= (x6_1:Int):=oz
    have q356:x6_1<(l0.length:Int):=oz
    obtain ⟨ad356,e356,hx356_0,hx356_1,hx356_2,hx356_3,hx356_4,hx356_5,hx356_6⟩:=at_T45 (Kd.C_below HR0.out HB.out) x6_1 p356 q356
    cases e356
    replace p356:=eq_true p356
    replace q356:=eq_true q356
    go_upto_if 24 with (first|((with_reducible refine gate_dst (N:=7) rfl ?_);refine box_event ?hg (N:=7) ?hd (cs:=#[.int .i64 0,.int .i64 0,.int .i64 0,.int .i64 0,.int .i64 0,.string (⟨#[]⟩:ByteArray),.string (⟨#[]⟩:ByteArray)]) (t:=45) ?hr ?_;(case hd=>rfl);(case hg=>rfl);(case hr=>exact vz);intro gb357 hg w9 hbox hb;replace HO_5:=am (Kd.R_below (Kd.R_elderB (rz HO_5.out) gb357 (Nat.le_of_eq hg.symm)) hb);have BK357:=am (hbox);have GW357:=am ((by rw [hg];exact (below_size (bz0 HB.out)):w.heap.size <= gb357));have GE357:=GW357;replace HB:=bs (bz0 HB.out) hb;clear hb hbox hg;obtain ⟨hcz10_0,hcz10_1,hcz10_2,hcz10_3,hcz10_4,hcz10_5,hcz10_6⟩:=cz7 BK357.out;obtain ⟨hfz10_0,hfz10_1,hfz10_2,hfz10_3,hfz10_4,hfz10_5,hfz10_6⟩:=fz7 BK357.out)|((with_reducible refine gate_callee (f:=79) rfl ?_);refine goesL_ (some 22) rfl rfl Tryz.func79 kr rfl #[.int .i64 ((rd_T45 l0 x6_1).f0)] rfl lz ?_;(with_reducible refine (spec_Arity.calls k1 ((rd_T45 l0 x6_1).f0) t358 _ A7.out).mono ?_);rintro e w' ⟨rfl,⟨nd,rfl⟩⟩;refine ⟨_,rfl,?_⟩))
    (try simp only [Act.put,sz1,sz2,sz3])
    go_cut [] (fun wc=>∃ (kq:Nat) (x358001_7:Int),Aside0 (spec_l3Shift.j1 kq l0 a1 x5_1 x6_1 t358 ((rd_T45 l0 x6_1).f0) x358001_7 ((rd_T45 l0 x6_1).f2) ((rd_T45 l0 x6_1).f3) ((rd_T45 l0 x6_1).f4) ((rd_T45 l0 x6_1).f5) ((rd_T45 l0 x6_1).f6)=some r) /\ Aside0 (kq <= k1) /\ Aside0 (Kd.R k45 45 wc w.heap.size (fun k_=>k_≠gb357) u5 x5_1) /\ Aside0 (wc.heap[gb357]?=some (.cells #[.int .i64 ((rd_T45 l0 x6_1).f0),.int .i64 x358001_7,.int .i64 ((rd_T45 l0 x6_1).f2),.int .i64 ((rd_T45 l0 x6_1).f3),.int .i64 ((rd_T45 l0 x6_1).f4),.string ((rd_T45 l0 x6_1).f5),.string ((rd_T45 l0 x6_1).f6)] 45 (0,0))) /\ Aside0 (Below w.heap.size w wc))
    case first =>
     have H:=HC8.out
     clear HC8
     by_cases c11:t358 > 0
     ·rw [if_pos c11] at H
      have c11b0:decide (0<t358)=true:=decide_eq_true c11
      clear c11
      (first|rw [c11b0]|(simp only [i64_w,i32_w];rw [c11b0])|skip)
      have H':=am H
      clear H
      obtain ⟨hcz12_0,hcz12_1,hcz12_2,hcz12_3,hcz12_4,hcz12_5,hcz12_6⟩:=cz7 BK357.out
      obtain ⟨hfz12_0,hfz12_1,hfz12_2,hfz12_3,hfz12_4,hfz12_5,hfz12_6⟩:=fz7 BK357.out
      go_wp2
      go_meet
      case rel=>exact ⟨_,(wrap64 (((rd_T45 l0 x6_1).f1)+a1)),H',⟨by have:=HK1.out;first|omega|exact Nat.le_refl _⟩,⟨by refine rq ?_;first|(with_reducible exact Kd.R_mono (Kd.R_far (p:=⟨gb357,1,none⟩) (Kd.R_far (p:=⟨gb357,6,none⟩) (Kd.R_far (p:=⟨gb357,5,none⟩) (Kd.R_far (p:=⟨gb357,4,none⟩) (Kd.R_far (p:=⟨gb357,3,none⟩) (Kd.R_far (p:=⟨gb357,2,none⟩) (Kd.R_far (p:=⟨gb357,1,none⟩) (Kd.R_far (p:=⟨gb357,0,none⟩) (Kd.R_mono HO_5.out (fun k_ hk=>(⟨hk,hk.2⟩:_ /\ k_≠gb357))) (fun _ hk=>hk.2) (.int .i64 ((rd_T45 l0 x6_1).f0))) (fun _ hk=>hk.2) (.int .i64 ((rd_T45 l0 x6_1).f1))) (fun _ hk=>hk.2) (.int .i64 ((rd_T45 l0 x6_1).f2))) (fun _ hk=>hk.2) (.int .i64 ((rd_T45 l0 x6_1).f3))) (fun _ hk=>hk.2) (.int .i64 ((rd_T45 l0 x6_1).f4))) (fun _ hk=>hk.2) (.string ((rd_T45 l0 x6_1).f5))) (fun _ hk=>hk.2) (.string ((rd_T45 l0 x6_1).f6))) (fun _ hk=>hk.2) (.int .i64 (wrap64 (((rd_T45 l0 x6_1).f1)+a1)))) (fun _ hk=>hk.1.2))|exact Kd.R_mono (Kd.R_far (p:=⟨gb357,1,none⟩) (Kd.R_drewN (Kd.R_far (p:=⟨gb357,6,none⟩) (Kd.R_far (p:=⟨gb357,5,none⟩) (Kd.R_far (p:=⟨gb357,4,none⟩) (Kd.R_far (p:=⟨gb357,3,none⟩) (Kd.R_far (p:=⟨gb357,2,none⟩) (Kd.R_far (p:=⟨gb357,1,none⟩) (Kd.R_far (p:=⟨gb357,0,none⟩) (Kd.R_mono HO_5.out (fun k_ hk=>(⟨hk,hk.2⟩:_ /\ k_≠gb357))) (fun _ hk=>hk.2) (.int .i64 ((rd_T45 l0 x6_1).f0))) (fun _ hk=>hk.2) (.int .i64 ((rd_T45 l0 x6_1).f1))) (fun _ hk=>hk.2) (.int .i64 ((rd_T45 l0 x6_1).f2))) (fun _ hk=>hk.2) (.int .i64 ((rd_T45 l0 x6_1).f3))) (fun _ hk=>hk.2) (.int .i64 ((rd_T45 l0 x6_1).f4))) (fun _ hk=>hk.2) (.string ((rd_T45 l0 x6_1).f5))) (fun _ hk=>hk.2) (.string ((rd_T45 l0 x6_1).f6))) _) (fun _ hk=>hk.2) (.int .i64 (wrap64 (((rd_T45 l0 x6_1).f1)+a1)))) (fun _ hk=>hk.1.2)⟩,⟨by refine kq ?_;refine blk_put (cs:=#[.int .i64 ((rd_T45 l0 x6_1).f0),.int .i64 ((rd_T45 l0 x6_1).f1),.int .i64 ((rd_T45 l0 x6_1).f2),.int .i64 ((rd_T45 l0 x6_1).f3),.int .i64 ((rd_T45 l0 x6_1).f4),.string ((rd_T45 l0 x6_1).f5),.string ((rd_T45 l0 x6_1).f6)]) ?_ 1 _ rfl;refine kq ?_;refine blk_put (cs:=#[.int .i64 ((rd_T45 l0 x6_1).f0),.int .i64 ((rd_T45 l0 x6_1).f1),.int .i64 ((rd_T45 l0 x6_1).f2),.int .i64 ((rd_T45 l0 x6_1).f3),.int .i64 ((rd_T45 l0 x6_1).f4),.string ((rd_T45 l0 x6_1).f5),.string (⟨#[]⟩:ByteArray)]) ?_ 6 _ rfl;refine kq ?_;refine blk_put (cs:=#[.int .i64 ((rd_T45 l0 x6_1).f0),.int .i64 ((rd_T45 l0 x6_1).f1),.int .i64 ((rd_T45 l0 x6_1).f2),.int .i64 ((rd_T45 l0 x6_1).f3),.int .i64 ((rd_T45 l0 x6_1).f4),.string (⟨#[]⟩:ByteArray),.string (⟨#[]⟩:ByteArray)]) ?_ 5 _ rfl;refine kq ?_;refine blk_put (cs:=#[.int .i64 ((rd_T45 l0 x6_1).f0),.int .i64 ((rd_T45 l0 x6_1).f1),.int .i64 ((rd_T45 l0 x6_1).f2),.int .i64 ((rd_T45 l0 x6_1).f3),.int .i64 0,.string (⟨#[]⟩:ByteArray),.string (⟨#[]⟩:ByteArray)]) ?_ 4 _ rfl;refine kq ?_;refine blk_put (cs:=#[.int .i64 ((rd_T45 l0 x6_1).f0),.int .i64 ((rd_T45 l0 x6_1).f1),.int .i64 ((rd_T45 l0 x6_1).f2),.int .i64 0,.int .i64 0,.string (⟨#[]⟩:ByteArray),.string (⟨#[]⟩:ByteArray)]) ?_ 3 _ rfl;refine kq ?_;refine blk_put (cs:=#[.int .i64 ((rd_T45 l0 x6_1).f0),.int .i64 ((rd_T45 l0 x6_1).f1),.int .i64 0,.int .i64 0,.int .i64 0,.string (⟨#[]⟩:ByteArray),.string (⟨#[]⟩:ByteArray)]) ?_ 2 _ rfl;refine kq ?_;refine blk_put (cs:=#[.int .i64 ((rd_T45 l0 x6_1).f0),.int .i64 0,.int .i64 0,.int .i64 0,.int .i64 0,.string (⟨#[]⟩:ByteArray),.string (⟨#[]⟩:ByteArray)]) ?_ 1 _ rfl;refine kq ?_;refine blk_put (cs:=#[.int .i64 0,.int .i64 0,.int .i64 0,.int .i64 0,.int .i64 0,.string (⟨#[]⟩:ByteArray),.string (⟨#[]⟩:ByteArray)]) ?_ 0 _ rfl;refine kq ?_;exact BK357.out⟩,⟨(bz1 HB.out GE357.out)⟩⟩
     ·rw [if_neg c11] at H
      have c11b0:decide (0<t358)=false:=decide_eq_false c11
      clear c11
      (first|rw [c11b0]|(simp only [i64_w,i32_w];rw [c11b0])|skip)
      have H':=am H
      clear H
      go_wp2
      go_meet
      case rel=>exact ⟨_,((rd_T45 l0 x6_1).f1),H',⟨by have:=HK1.out;first|omega|exact Nat.le_refl _⟩,⟨by refine rq ?_;first|(with_reducible exact Kd.R_mono (Kd.R_far (p:=⟨gb357,6,none⟩) (Kd.R_far (p:=⟨gb357,5,none⟩) (Kd.R_far (p:=⟨gb357,4,none⟩) (Kd.R_far (p:=⟨gb357,3,none⟩) (Kd.R_far (p:=⟨gb357,2,none⟩) (Kd.R_far (p:=⟨gb357,1,none⟩) (Kd.R_far (p:=⟨gb357,0,none⟩) (Kd.R_mono HO_5.out (fun k_ hk=>(⟨hk,hk.2⟩:_ /\ k_≠gb357))) (fun _ hk=>hk.2) (.int .i64 ((rd_T45 l0 x6_1).f0))) (fun _ hk=>hk.2) (.int .i64 ((rd_T45 l0 x6_1).f1))) (fun _ hk=>hk.2) (.int .i64 ((rd_T45 l0 x6_1).f2))) (fun _ hk=>hk.2) (.int .i64 ((rd_T45 l0 x6_1).f3))) (fun _ hk=>hk.2) (.int .i64 ((rd_T45 l0 x6_1).f4))) (fun _ hk=>hk.2) (.string ((rd_T45 l0 x6_1).f5))) (fun _ hk=>hk.2) (.string ((rd_T45 l0 x6_1).f6))) (fun _ hk=>hk.1.2))|exact Kd.R_mono (Kd.R_far (p:=⟨gb357,6,none⟩) (Kd.R_drewN (Kd.R_far (p:=⟨gb357,5,none⟩) (Kd.R_far (p:=⟨gb357,4,none⟩) (Kd.R_far (p:=⟨gb357,3,none⟩) (Kd.R_far (p:=⟨gb357,2,none⟩) (Kd.R_far (p:=⟨gb357,1,none⟩) (Kd.R_far (p:=⟨gb357,0,none⟩) (Kd.R_mono HO_5.out (fun k_ hk=>(⟨hk,hk.2⟩:_ /\ k_≠gb357))) (fun _ hk=>hk.2) (.int .i64 ((rd_T45 l0 x6_1).f0))) (fun _ hk=>hk.2) (.int .i64 ((rd_T45 l0 x6_1).f1))) (fun _ hk=>hk.2) (.int .i64 ((rd_T45 l0 x6_1).f2))) (fun _ hk=>hk.2) (.int .i64 ((rd_T45 l0 x6_1).f3))) (fun _ hk=>hk.2) (.int .i64 ((rd_T45 l0 x6_1).f4))) (fun _ hk=>hk.2) (.string ((rd_T45 l0 x6_1).f5))) _) (fun _ hk=>hk.2) (.string ((rd_T45 l0 x6_1).f6))) (fun _ hk=>hk.1.2)⟩,⟨by refine kq ?_;refine blk_put (cs:=#[.int .i64 ((rd_T45 l0 x6_1).f0),.int .i64 ((rd_T45 l0 x6_1).f1),.int .i64 ((rd_T45 l0 x6_1).f2),.int .i64 ((rd_T45 l0 x6_1).f3),.int .i64 ((rd_T45 l0 x6_1).f4),.string ((rd_T45 l0 x6_1).f5),.string (⟨#[]⟩:ByteArray)]) ?_ 6 _ rfl;refine kq ?_;refine blk_put (cs:=#[.int .i64 ((rd_T45 l0 x6_1).f0),.int .i64 ((rd_T45 l0 x6_1).f1),.int .i64 ((rd_T45 l0 x6_1).f2),.int .i64 ((rd_T45 l0 x6_1).f3),.int .i64 ((rd_T45 l0 x6_1).f4),.string (⟨#[]⟩:ByteArray),.string (⟨#[]⟩:ByteArray)]) ?_ 5 _ rfl;refine kq ?_;refine blk_put (cs:=#[.int .i64 ((rd_T45 l0 x6_1).f0),.int .i64 ((rd_T45 l0 x6_1).f1),.int .i64 ((rd_T45 l0 x6_1).f2),.int .i64 ((rd_T45 l0 x6_1).f3),.int .i64 0,.string (⟨#[]⟩:ByteArray),.string (⟨#[]⟩:ByteArray)]) ?_ 4 _ rfl;refine kq ?_;refine blk_put (cs:=#[.int .i64 ((rd_T45 l0 x6_1).f0),.int .i64 ((rd_T45 l0 x6_1).f1),.int .i64 ((rd_T45 l0 x6_1).f2),.int .i64 0,.int .i64 0,.string (⟨#[]⟩:ByteArray),.string (⟨#[]⟩:ByteArray)]) ?_ 3 _ rfl;refine kq ?_;refine blk_put (cs:=#[.int .i64 ((rd_T45 l0 x6_1).f0),.int .i64 ((rd_T45 l0 x6_1).f1),.int .i64 0,.int .i64 0,.int .i64 0,.string (⟨#[]⟩:ByteArray),.string (⟨#[]⟩:ByteArray)]) ?_ 2 _ rfl;refine kq ?_;refine blk_put (cs:=#[.int .i64 ((rd_T45 l0 x6_1).f0),.int .i64 0,.int .i64 0,.int .i64 0,.int .i64 0,.string (⟨#[]⟩:ByteArray),.string (⟨#[]⟩:ByteArray)]) ?_ 1 _ rfl;refine kq ?_;refine blk_put (cs:=#[.int .i64 0,.int .i64 0,.int .i64 0,.int .i64 0,.int .i64 0,.string (⟨#[]⟩:ByteArray),.string (⟨#[]⟩:ByteArray)]) ?_ 0 _ rfl;refine kq ?_;exact BK357.out⟩,⟨(bz1 HB.out GE357.out)⟩⟩
    case rest =>
     clear HC8
     try clear c1
     try clear p2
     try clear p3
     try clear q3
     try clear hx3
     try clear c5
     try clear c5b0
     try clear c6
     try clear c6b0
     try clear p6
     try clear c7
     try clear c9
     try clear c11
     try clear c11b0
     try clear hcz10_0 hcz10_1 hcz10_2 hcz10_3 hcz10_4 hcz10_5 hcz10_6
     try clear hcz12_0 hcz12_1 hcz12_2 hcz12_3 hcz12_4 hcz12_5 hcz12_6
     try clear hfz10_0 hfz10_1 hfz10_2 hfz10_3 hfz10_4 hfz10_5 hfz10_6
     try clear hfz12_0 hfz12_1 hfz12_2 hfz12_3 hfz12_4 hfz12_5 hfz12_6
     try clear hx356_0
     try clear hx356_1
     try clear hx356_2
     try clear hx356_3
     try clear hx356_4
     try clear hx356_5
     try clear hx356_6
     try clear p2
     try clear p356
     try clear q356
     obtain ⟨kq,x358001_7,HA,HJ7,HO_5,BK357,HB⟩:=hcut
     cases kq with
     | zero=>exact absurd HA.out (by simp [spec_l3Shift.j1])
     | succ kj7 =>
      have H:=HA.out
      clear HA
      simp only [spec_l3Shift.j1] at H
      by_cases c13:t358 > 1
      ·rw [if_pos c13] at H
       have c13b0:decide (1<t358)=true:=decide_eq_true c13
       clear c13
       by_cases c14:t358 > 2
       ·rw [if_pos c14] at H
        have c14b0:decide (2<t358)=true:=decide_eq_true c14
        clear c14
        replace H:=iz H
        obtain ⟨c15,H⟩:=H
        have LMc15:=am c15
        clear c15
        obtain ⟨y359,hy359⟩:∃ y_:List (S45),y_=(x5_1++[(⟨((rd_T45 l0 x6_1).f0),x358001_7,wrap64 (((rd_T45 l0 x6_1).f2)+a1),wrap64 (((rd_T45 l0 x6_1).f3)+a1),((rd_T45 l0 x6_1).f4),((rd_T45 l0 x6_1).f5),((rd_T45 l0 x6_1).f6)⟩:S45)]):=⟨_,rfl⟩
        replace H:(spec_l3Shift.l0 kj7 l0 a1 y359 (wrap64 (x6_1+1)))=some r:=yz hy359 H
        have Ny359:=am hy359
        clear hy359
        have H':=am H
        clear H
        obtain ⟨hcz16_0,hcz16_1,hcz16_2,hcz16_3,hcz16_4,hcz16_5,hcz16_6⟩:=cz7 BK357.out
        obtain ⟨hfz16_0,hfz16_1,hfz16_2,hfz16_3,hfz16_4,hfz16_5,hfz16_6⟩:=fz7 BK357.out
        go_wp2_with (first|((with_reducible refine gate_builtin (b:=.append) (xs:=#[.tmp 44,.tmp 46]) rfl ?_);at_builtin;refine Kd.R_append k45 (w0:=w) w.heap.size rfl (.tmp 44) (.tmp 46) 26 45 (.agg #[(.int .i64 0),(.int .i64 0),(.int .i64 0),(.int .i64 0),(.int .i64 0),(.string ⟨#[]⟩),(.string ⟨#[]⟩)]) 72 rfl Tryz.underlying26 info45 rfl (by decide) (by omega) u5 x5_1 (⟨((rd_T45 l0 x6_1).f0),x358001_7,wrap64 (((rd_T45 l0 x6_1).f2)+a1),wrap64 (((rd_T45 l0 x6_1).f3)+a1),((rd_T45 l0 x6_1).f4),((rd_T45 l0 x6_1).f5),((rd_T45 l0 x6_1).f6)⟩:S45) [.int .i64 ((rd_T45 l0 x6_1).f0),.int .i64 x358001_7,.int .i64 (wrap64 (((rd_T45 l0 x6_1).f2)+a1)),.int .i64 (wrap64 (((rd_T45 l0 x6_1).f3)+a1)),.int .i64 ((rd_T45 l0 x6_1).f4),.string ((rd_T45 l0 x6_1).f5),.string ((rd_T45 l0 x6_1).f6)] (fun k_=>k_≠gb357) (fun _=>False) rfl (by first|(go_simp;done)|(go_simp;rfl)) ?aP (fun _ hk=>hk.elim) ?aF ?aO ?aB ?aS ?aL ?_;(case aP=>exact k45_mkM _ _ _ (⟨((rd_T45 l0 x6_1).f0),x358001_7,wrap64 (((rd_T45 l0 x6_1).f2)+a1),wrap64 (((rd_T45 l0 x6_1).f3)+a1),((rd_T45 l0 x6_1).f4),((rd_T45 l0 x6_1).f5),((rd_T45 l0 x6_1).f6)⟩:S45));(case aB=>exact (bz1 HB.out GE357.out));(case aF=>exact (fun k_ hk=>Kd.freshB (g:=gb357) (o:=.cells #[.int .i64 ((rd_T45 l0 x6_1).f0),.int .i64 x358001_7,.int .i64 (wrap64 (((rd_T45 l0 x6_1).f2)+a1)),.int .i64 (wrap64 (((rd_T45 l0 x6_1).f3)+a1)),.int .i64 ((rd_T45 l0 x6_1).f4),.string ((rd_T45 l0 x6_1).f5),.string ((rd_T45 l0 x6_1).f6)] 45 (0,0)) (by refine kq ?_;refine blk_put (cs:=#[.int .i64 ((rd_T45 l0 x6_1).f0),.int .i64 x358001_7,.int .i64 (wrap64 (((rd_T45 l0 x6_1).f2)+a1)),.int .i64 ((rd_T45 l0 x6_1).f3),.int .i64 ((rd_T45 l0 x6_1).f4),.string ((rd_T45 l0 x6_1).f5),.string ((rd_T45 l0 x6_1).f6)]) ?_ 3 _ rfl;refine kq ?_;refine blk_put (cs:=#[.int .i64 ((rd_T45 l0 x6_1).f0),.int .i64 x358001_7,.int .i64 ((rd_T45 l0 x6_1).f2),.int .i64 ((rd_T45 l0 x6_1).f3),.int .i64 ((rd_T45 l0 x6_1).f4),.string ((rd_T45 l0 x6_1).f5),.string ((rd_T45 l0 x6_1).f6)]) ?_ 2 _ rfl;refine kq ?_;exact BK357.out) k_ hk));(case aO=>exact (by refine rq ?_;first|(with_reducible exact Kd.R_mono (Kd.R_far (p:=⟨gb357,3,none⟩) (Kd.R_far (p:=⟨gb357,2,none⟩) (Kd.R_mono HO_5.out (fun k_ hk=>(⟨hk,hk⟩:_ /\ k_≠gb357))) (fun _ hk=>hk.2) (.int .i64 (wrap64 (((rd_T45 l0 x6_1).f2)+a1)))) (fun _ hk=>hk.2) (.int .i64 (wrap64 (((rd_T45 l0 x6_1).f3)+a1)))) (fun _ hk=>hk.1))|(with_reducible exact Kd.R_mono (Kd.R_far (p:=⟨gb357,3,none⟩) (Kd.R_drewN (Kd.R_far (p:=⟨gb357,2,none⟩) (Kd.R_mono HO_5.out (fun k_ hk=>(⟨hk,hk⟩:_ /\ k_≠gb357))) (fun _ hk=>hk.2) (.int .i64 (wrap64 (((rd_T45 l0 x6_1).f2)+a1)))) _) (fun _ hk=>hk.2) (.int .i64 (wrap64 (((rd_T45 l0 x6_1).f3)+a1)))) (fun _ hk=>hk.1))|exact Kd.R_mono (Kd.R_far (p:=⟨gb357,3,none⟩) (Kd.R_drewN (Kd.R_far (p:=⟨gb357,2,none⟩) (Kd.R_mono HO_5.out (fun k_ hk=>(⟨hk,hk⟩:_ /\ k_≠gb357))) (fun _ hk=>hk.2) (.int .i64 (wrap64 (((rd_T45 l0 x6_1).f2)+a1)))) _) (fun _ hk=>hk.2) (.int .i64 (wrap64 (((rd_T45 l0 x6_1).f3)+a1)))) (fun _ hk=>hk.1)));(case aS=>exact (below_size (bz1 HB.out GE357.out)));(case aL=>have:=LMc15.out;omega);intro v360 w17 ho hb hg hat;rw [<- Ny359.out] at ho;have n0_:=am (blk_grown (g:=gb357) (o:=.cells #[.int .i64 ((rd_T45 l0 x6_1).f0),.int .i64 x358001_7,.int .i64 (wrap64 (((rd_T45 l0 x6_1).f2)+a1)),.int .i64 (wrap64 (((rd_T45 l0 x6_1).f3)+a1)),.int .i64 ((rd_T45 l0 x6_1).f4),.string ((rd_T45 l0 x6_1).f5),.string ((rd_T45 l0 x6_1).f6)] 45 (0,0)) (by refine kq ?_;refine blk_put (cs:=#[.int .i64 ((rd_T45 l0 x6_1).f0),.int .i64 x358001_7,.int .i64 (wrap64 (((rd_T45 l0 x6_1).f2)+a1)),.int .i64 ((rd_T45 l0 x6_1).f3),.int .i64 ((rd_T45 l0 x6_1).f4),.string ((rd_T45 l0 x6_1).f5),.string ((rd_T45 l0 x6_1).f6)]) ?_ 3 _ rfl;refine kq ?_;refine blk_put (cs:=#[.int .i64 ((rd_T45 l0 x6_1).f0),.int .i64 x358001_7,.int .i64 ((rd_T45 l0 x6_1).f2),.int .i64 ((rd_T45 l0 x6_1).f3),.int .i64 ((rd_T45 l0 x6_1).f4),.string ((rd_T45 l0 x6_1).f5),.string ((rd_T45 l0 x6_1).f6)]) ?_ 2 _ rfl;refine kq ?_;exact BK357.out) hg (Kd.R_away HO_5.out (fun _ hk=>hk)));have n1_:=am (hb);have n2_:=am (ho);clear BK357;clear HB;clear HO_5;have BK357:=n0_;have HB:=n1_;have HO361:=n2_;clear n0_ n1_ n2_;clear ho hb hg hat))
        go_roundg kj7
        case measure=>have:=HK1.out;have:=HJ7.out;omega
        case rel=>exact ⟨(y359),(wrap64 (x6_1+1)),ez,H',⟨by have:=HK1.out;have:=HJ7.out;omega⟩,⟨by refine rq ?_;exact Kd.R_mono HO361.out (fun _ hk=>trivial)⟩,⟨(bz1 HB.out GE357.out)⟩⟩
       ·rw [if_neg c14] at H
        have c14b0:decide (2<t358)=false:=decide_eq_false c14
        clear c14
        replace H:=iz H
        obtain ⟨c18,H⟩:=H
        have LMc18:=am c18
        clear c18
        obtain ⟨y362,hy362⟩:∃ y_:List (S45),y_=(x5_1++[(⟨((rd_T45 l0 x6_1).f0),x358001_7,wrap64 (((rd_T45 l0 x6_1).f2)+a1),((rd_T45 l0 x6_1).f3),((rd_T45 l0 x6_1).f4),((rd_T45 l0 x6_1).f5),((rd_T45 l0 x6_1).f6)⟩:S45)]):=⟨_,rfl⟩
        replace H:(spec_l3Shift.l0 kj7 l0 a1 y362 (wrap64 (x6_1+1)))=some r:=yz hy362 H
        have Ny362:=am hy362
        clear hy362
        have H':=am H
        clear H
        obtain ⟨hcz19_0,hcz19_1,hcz19_2,hcz19_3,hcz19_4,hcz19_5,hcz19_6⟩:=cz7 BK357.out
        obtain ⟨hfz19_0,hfz19_1,hfz19_2,hfz19_3,hfz19_4,hfz19_5,hfz19_6⟩:=fz7 BK357.out
        go_wp2_with (first|((with_reducible refine gate_builtin (b:=.append) (xs:=#[.tmp 44,.tmp 46]) rfl ?_);at_builtin;refine Kd.R_append k45 (w0:=w) w.heap.size rfl (.tmp 44) (.tmp 46) 26 45 (.agg #[(.int .i64 0),(.int .i64 0),(.int .i64 0),(.int .i64 0),(.int .i64 0),(.string ⟨#[]⟩),(.string ⟨#[]⟩)]) 72 rfl Tryz.underlying26 info45 rfl (by decide) (by omega) u5 x5_1 (⟨((rd_T45 l0 x6_1).f0),x358001_7,wrap64 (((rd_T45 l0 x6_1).f2)+a1),((rd_T45 l0 x6_1).f3),((rd_T45 l0 x6_1).f4),((rd_T45 l0 x6_1).f5),((rd_T45 l0 x6_1).f6)⟩:S45) [.int .i64 ((rd_T45 l0 x6_1).f0),.int .i64 x358001_7,.int .i64 (wrap64 (((rd_T45 l0 x6_1).f2)+a1)),.int .i64 ((rd_T45 l0 x6_1).f3),.int .i64 ((rd_T45 l0 x6_1).f4),.string ((rd_T45 l0 x6_1).f5),.string ((rd_T45 l0 x6_1).f6)] (fun k_=>k_≠gb357) (fun _=>False) rfl (by first|(go_simp;done)|(go_simp;rfl)) ?aP (fun _ hk=>hk.elim) ?aF ?aO ?aB ?aS ?aL ?_;(case aP=>exact k45_mkM _ _ _ (⟨((rd_T45 l0 x6_1).f0),x358001_7,wrap64 (((rd_T45 l0 x6_1).f2)+a1),((rd_T45 l0 x6_1).f3),((rd_T45 l0 x6_1).f4),((rd_T45 l0 x6_1).f5),((rd_T45 l0 x6_1).f6)⟩:S45));(case aB=>exact (bz1 HB.out GE357.out));(case aF=>exact (fun k_ hk=>Kd.freshB (g:=gb357) (o:=.cells #[.int .i64 ((rd_T45 l0 x6_1).f0),.int .i64 x358001_7,.int .i64 (wrap64 (((rd_T45 l0 x6_1).f2)+a1)),.int .i64 ((rd_T45 l0 x6_1).f3),.int .i64 ((rd_T45 l0 x6_1).f4),.string ((rd_T45 l0 x6_1).f5),.string ((rd_T45 l0 x6_1).f6)] 45 (0,0)) (by refine kq ?_;refine blk_put (cs:=#[.int .i64 ((rd_T45 l0 x6_1).f0),.int .i64 x358001_7,.int .i64 ((rd_T45 l0 x6_1).f2),.int .i64 ((rd_T45 l0 x6_1).f3),.int .i64 ((rd_T45 l0 x6_1).f4),.string ((rd_T45 l0 x6_1).f5),.string ((rd_T45 l0 x6_1).f6)]) ?_ 2 _ rfl;refine kq ?_;exact BK357.out) k_ hk));(case aO=>exact (by refine rq ?_;exact Kd.R_mono (Kd.R_far (p:=⟨gb357,2,none⟩) (Kd.R_mono HO_5.out (fun k_ hk=>(⟨hk,hk⟩:_ /\ k_≠gb357))) (fun _ hk=>hk.2) (.int .i64 (wrap64 (((rd_T45 l0 x6_1).f2)+a1)))) (fun _ hk=>hk.1)));(case aS=>exact (below_size (bz1 HB.out GE357.out)));(case aL=>have:=LMc18.out;omega);intro v363 w20 ho hb hg hat;rw [<- Ny362.out] at ho;have n0_:=am (blk_grown (g:=gb357) (o:=.cells #[.int .i64 ((rd_T45 l0 x6_1).f0),.int .i64 x358001_7,.int .i64 (wrap64 (((rd_T45 l0 x6_1).f2)+a1)),.int .i64 ((rd_T45 l0 x6_1).f3),.int .i64 ((rd_T45 l0 x6_1).f4),.string ((rd_T45 l0 x6_1).f5),.string ((rd_T45 l0 x6_1).f6)] 45 (0,0)) (by refine kq ?_;refine blk_put (cs:=#[.int .i64 ((rd_T45 l0 x6_1).f0),.int .i64 x358001_7,.int .i64 ((rd_T45 l0 x6_1).f2),.int .i64 ((rd_T45 l0 x6_1).f3),.int .i64 ((rd_T45 l0 x6_1).f4),.string ((rd_T45 l0 x6_1).f5),.string ((rd_T45 l0 x6_1).f6)]) ?_ 2 _ rfl;refine kq ?_;exact BK357.out) hg (Kd.R_away HO_5.out (fun _ hk=>hk)));have n1_:=am (hb);have n2_:=am (ho);clear BK357;clear HB;clear HO_5;have BK357:=n0_;have HB:=n1_;have HO364:=n2_;clear n0_ n1_ n2_;clear ho hb hg hat))
        go_roundg kj7
        case measure=>have:=HK1.out;have:=HJ7.out;omega
        case rel=>exact ⟨(y362),(wrap64 (x6_1+1)),ez,H',⟨by have:=HK1.out;have:=HJ7.out;omega⟩,⟨by refine rq ?_;exact Kd.R_mono HO364.out (fun _ hk=>trivial)⟩,⟨(bz1 HB.out GE357.out)⟩⟩
      ·rw [if_neg c13] at H
       have c13b0:decide (1<t358)=false:=decide_eq_false c13
       clear c13
       by_cases c21:t358 > 2
       ·rw [if_pos c21] at H
        have c21b0:decide (2<t358)=true:=decide_eq_true c21
        clear c21
        replace H:=iz H
        obtain ⟨c22,H⟩:=H
        have LMc22:=am c22
        clear c22
        obtain ⟨y365,hy365⟩:∃ y_:List (S45),y_=(x5_1++[(⟨((rd_T45 l0 x6_1).f0),x358001_7,((rd_T45 l0 x6_1).f2),wrap64 (((rd_T45 l0 x6_1).f3)+a1),((rd_T45 l0 x6_1).f4),((rd_T45 l0 x6_1).f5),((rd_T45 l0 x6_1).f6)⟩:S45)]):=⟨_,rfl⟩
        replace H:(spec_l3Shift.l0 kj7 l0 a1 y365 (wrap64 (x6_1+1)))=some r:=yz hy365 H
        have Ny365:=am hy365
        clear hy365
        have H':=am H
        clear H
        obtain ⟨hcz23_0,hcz23_1,hcz23_2,hcz23_3,hcz23_4,hcz23_5,hcz23_6⟩:=cz7 BK357.out
        obtain ⟨hfz23_0,hfz23_1,hfz23_2,hfz23_3,hfz23_4,hfz23_5,hfz23_6⟩:=fz7 BK357.out
        go_wp2_with (first|((with_reducible refine gate_builtin (b:=.append) (xs:=#[.tmp 44,.tmp 46]) rfl ?_);at_builtin;refine Kd.R_append k45 (w0:=w) w.heap.size rfl (.tmp 44) (.tmp 46) 26 45 (.agg #[(.int .i64 0),(.int .i64 0),(.int .i64 0),(.int .i64 0),(.int .i64 0),(.string ⟨#[]⟩),(.string ⟨#[]⟩)]) 72 rfl Tryz.underlying26 info45 rfl (by decide) (by omega) u5 x5_1 (⟨((rd_T45 l0 x6_1).f0),x358001_7,((rd_T45 l0 x6_1).f2),wrap64 (((rd_T45 l0 x6_1).f3)+a1),((rd_T45 l0 x6_1).f4),((rd_T45 l0 x6_1).f5),((rd_T45 l0 x6_1).f6)⟩:S45) [.int .i64 ((rd_T45 l0 x6_1).f0),.int .i64 x358001_7,.int .i64 ((rd_T45 l0 x6_1).f2),.int .i64 (wrap64 (((rd_T45 l0 x6_1).f3)+a1)),.int .i64 ((rd_T45 l0 x6_1).f4),.string ((rd_T45 l0 x6_1).f5),.string ((rd_T45 l0 x6_1).f6)] (fun k_=>k_≠gb357) (fun _=>False) rfl (by first|(go_simp;done)|(go_simp;rfl)) ?aP (fun _ hk=>hk.elim) ?aF ?aO ?aB ?aS ?aL ?_;(case aP=>exact k45_mkM _ _ _ (⟨((rd_T45 l0 x6_1).f0),x358001_7,((rd_T45 l0 x6_1).f2),wrap64 (((rd_T45 l0 x6_1).f3)+a1),((rd_T45 l0 x6_1).f4),((rd_T45 l0 x6_1).f5),((rd_T45 l0 x6_1).f6)⟩:S45));(case aB=>exact (bz1 HB.out GE357.out));(case aF=>exact (fun k_ hk=>Kd.freshB (g:=gb357) (o:=.cells #[.int .i64 ((rd_T45 l0 x6_1).f0),.int .i64 x358001_7,.int .i64 ((rd_T45 l0 x6_1).f2),.int .i64 (wrap64 (((rd_T45 l0 x6_1).f3)+a1)),.int .i64 ((rd_T45 l0 x6_1).f4),.string ((rd_T45 l0 x6_1).f5),.string ((rd_T45 l0 x6_1).f6)] 45 (0,0)) (by refine kq ?_;refine blk_put (cs:=#[.int .i64 ((rd_T45 l0 x6_1).f0),.int .i64 x358001_7,.int .i64 ((rd_T45 l0 x6_1).f2),.int .i64 ((rd_T45 l0 x6_1).f3),.int .i64 ((rd_T45 l0 x6_1).f4),.string ((rd_T45 l0 x6_1).f5),.string ((rd_T45 l0 x6_1).f6)]) ?_ 3 _ rfl;refine kq ?_;exact BK357.out) k_ hk));(case aO=>exact (by refine rq ?_;exact Kd.R_mono (Kd.R_far (p:=⟨gb357,3,none⟩) (Kd.R_mono HO_5.out (fun k_ hk=>(⟨hk,hk⟩:_ /\ k_≠gb357))) (fun _ hk=>hk.2) (.int .i64 (wrap64 (((rd_T45 l0 x6_1).f3)+a1)))) (fun _ hk=>hk.1)));(case aS=>exact (below_size (bz1 HB.out GE357.out)));(case aL=>have:=LMc22.out;omega);intro v366 w24 ho hb hg hat;rw [<- Ny365.out] at ho;have n0_:=am (blk_grown (g:=gb357) (o:=.cells #[.int .i64 ((rd_T45 l0 x6_1).f0),.int .i64 x358001_7,.int .i64 ((rd_T45 l0 x6_1).f2),.int .i64 (wrap64 (((rd_T45 l0 x6_1).f3)+a1)),.int .i64 ((rd_T45 l0 x6_1).f4),.string ((rd_T45 l0 x6_1).f5),.string ((rd_T45 l0 x6_1).f6)] 45 (0,0)) (by refine kq ?_;refine blk_put (cs:=#[.int .i64 ((rd_T45 l0 x6_1).f0),.int .i64 x358001_7,.int .i64 ((rd_T45 l0 x6_1).f2),.int .i64 ((rd_T45 l0 x6_1).f3),.int .i64 ((rd_T45 l0 x6_1).f4),.string ((rd_T45 l0 x6_1).f5),.string ((rd_T45 l0 x6_1).f6)]) ?_ 3 _ rfl;refine kq ?_;exact BK357.out) hg (Kd.R_away HO_5.out (fun _ hk=>hk)));have n1_:=am (hb);have n2_:=am (ho);clear BK357;clear HB;clear HO_5;have BK357:=n0_;have HB:=n1_;have HO367:=n2_;clear n0_ n1_ n2_;clear ho hb hg hat))
        go_roundg kj7
        case measure=>have:=HK1.out;have:=HJ7.out;omega
        case rel=>exact ⟨(y365),(wrap64 (x6_1+1)),ez,H',⟨by have:=HK1.out;have:=HJ7.out;omega⟩,⟨by refine rq ?_;exact Kd.R_mono HO367.out (fun _ hk=>trivial)⟩,⟨(bz1 HB.out GE357.out)⟩⟩
       ·rw [if_neg c21] at H
        have c21b0:decide (2<t358)=false:=decide_eq_false c21
        clear c21
        replace H:=iz H
        obtain ⟨c25,H⟩:=H
        have LMc25:=am c25
        clear c25
        obtain ⟨y368,hy368⟩:∃ y_:List (S45),y_=(x5_1++[(⟨((rd_T45 l0 x6_1).f0),x358001_7,((rd_T45 l0 x6_1).f2),((rd_T45 l0 x6_1).f3),((rd_T45 l0 x6_1).f4),((rd_T45 l0 x6_1).f5),((rd_T45 l0 x6_1).f6)⟩:S45)]):=⟨_,rfl⟩
        replace H:(spec_l3Shift.l0 kj7 l0 a1 y368 (wrap64 (x6_1+1)))=some r:=yz hy368 H
        have Ny368:=am hy368
        clear hy368
        have H':=am H
        clear H
        obtain ⟨hcz26_0,hcz26_1,hcz26_2,hcz26_3,hcz26_4,hcz26_5,hcz26_6⟩:=cz7 BK357.out
        obtain ⟨hfz26_0,hfz26_1,hfz26_2,hfz26_3,hfz26_4,hfz26_5,hfz26_6⟩:=fz7 BK357.out
        go_wp2_with (first|((with_reducible refine gate_builtin (b:=.append) (xs:=#[.tmp 44,.tmp 46]) rfl ?_);at_builtin;refine Kd.R_append k45 (w0:=w) w.heap.size rfl (.tmp 44) (.tmp 46) 26 45 (.agg #[(.int .i64 0),(.int .i64 0),(.int .i64 0),(.int .i64 0),(.int .i64 0),(.string ⟨#[]⟩),(.string ⟨#[]⟩)]) 72 rfl Tryz.underlying26 info45 rfl (by decide) (by omega) u5 x5_1 (⟨((rd_T45 l0 x6_1).f0),x358001_7,((rd_T45 l0 x6_1).f2),((rd_T45 l0 x6_1).f3),((rd_T45 l0 x6_1).f4),((rd_T45 l0 x6_1).f5),((rd_T45 l0 x6_1).f6)⟩:S45) [.int .i64 ((rd_T45 l0 x6_1).f0),.int .i64 x358001_7,.int .i64 ((rd_T45 l0 x6_1).f2),.int .i64 ((rd_T45 l0 x6_1).f3),.int .i64 ((rd_T45 l0 x6_1).f4),.string ((rd_T45 l0 x6_1).f5),.string ((rd_T45 l0 x6_1).f6)] (fun k_=>k_≠gb357) (fun _=>False) rfl rfl ?aP (fun _ hk=>hk.elim) ?aF ?aO ?aB ?aS ?aL ?_;(case aP=>exact k45_mkM _ _ _ (⟨((rd_T45 l0 x6_1).f0),x358001_7,((rd_T45 l0 x6_1).f2),((rd_T45 l0 x6_1).f3),((rd_T45 l0 x6_1).f4),((rd_T45 l0 x6_1).f5),((rd_T45 l0 x6_1).f6)⟩:S45));(case aB=>exact (bz1 HB.out GE357.out));(case aF=>exact (fun k_ hk=>Kd.freshB (g:=gb357) (o:=.cells #[.int .i64 ((rd_T45 l0 x6_1).f0),.int .i64 x358001_7,.int .i64 ((rd_T45 l0 x6_1).f2),.int .i64 ((rd_T45 l0 x6_1).f3),.int .i64 ((rd_T45 l0 x6_1).f4),.string ((rd_T45 l0 x6_1).f5),.string ((rd_T45 l0 x6_1).f6)] 45 (0,0)) (kz BK357.out) k_ hk));(case aO=>exact (rz HO_5.out));(case aS=>exact (below_size (bz1 HB.out GE357.out)));(case aL=>have:=LMc25.out;omega);intro v369 w27 ho hb hg hat;rw [<- Ny368.out] at ho;have n0_:=am (blk_grown (g:=gb357) (o:=.cells #[.int .i64 ((rd_T45 l0 x6_1).f0),.int .i64 x358001_7,.int .i64 ((rd_T45 l0 x6_1).f2),.int .i64 ((rd_T45 l0 x6_1).f3),.int .i64 ((rd_T45 l0 x6_1).f4),.string ((rd_T45 l0 x6_1).f5),.string ((rd_T45 l0 x6_1).f6)] 45 (0,0)) (kz BK357.out) hg (Kd.R_away HO_5.out (fun _ hk=>hk)));have n1_:=am (hb);have n2_:=am (ho);clear BK357;clear HB;clear HO_5;have BK357:=n0_;have HB:=n1_;have HO370:=n2_;clear n0_ n1_ n2_;clear ho hb hg hat))
        go_roundg kj7
        case measure=>have:=HK1.out;have:=HJ7.out;omega
        case rel=>exact ⟨(y368),(wrap64 (x6_1+1)),ez,H',⟨by have:=HK1.out;have:=HJ7.out;omega⟩,⟨by refine rq ?_;exact Kd.R_mono HO370.out (fun _ hk=>trivial)⟩,⟨(bz1 HB.out GE357.out)⟩⟩
   ·rw [if_neg c5] at H
    have c5b0:=decide_eq_false c5
    clear c5
    obtain rfl:=Option.some.inj H
    go_wp2
    go_ret
    exact ⟨_,gz,by refine rq ?_;exact HO_5.out,(bz0 HB.out)⟩
def spec_l3Make.l0:Nat -> List (List (S45)) -> List (S45) -> Int -> Int -> Int -> Int -> Int -> Int -> ByteArray -> ByteArray -> Option ((List (S45)))
 | 0,_,_,_,_,_,_,_,_,_,_=>none
 | k+1,x1,x5,x6,x372000,x372001,x372002,x372003,x372004,x372005,x372006=>if x6<(x1.length:Int) then (if 0 <= x6 then ((spec_l3Shift.f k (rd_L5 x1 x6) (x5.length:Int)).bind fun t379=>(if x5.length+t379.length<1954687338268 then ((some (x5++t379:List (S45))).bind fun y382=>(if x6=0 then (spec_l3Make.l0 k x1 y382 (wrap64 (x6+1)) x372000 (wrap64 ((y382.length:Int) - 1)) x372002 x372003 x372004 x372005 x372006) else (if x6=1 then (spec_l3Make.l0 k x1 y382 (wrap64 (x6+1)) x372000 x372001 (wrap64 ((y382.length:Int) - 1)) x372003 x372004 x372005 x372006) else (spec_l3Make.l0 k x1 y382 (wrap64 (x6+1)) x372000 x372001 x372002 (wrap64 ((y382.length:Int) - 1)) x372004 x372005 x372006)))) else (none))) else (none)) else (if x5.length<1954687338268 then (some (x5++[(⟨x372000,x372001,x372002,x372003,x372004,x372005,x372006⟩:S45)])) else (none))
def spec_l3Make.f (k:Nat) (a0_0:Int) (a0_1:Int) (a0_2:Int) (a0_3:Int) (a0_4:Int) (a0_5:ByteArray) (a0_6:ByteArray) (l1:List (List (S45))):Option ((List (S45))):=spec_l3Make.l0 k l1 (([]:List (S45))) 0 a0_0 a0_1 a0_2 a0_3 a0_4 a0_5 a0_6
theorem spec_l3Make.mono_l:∀ k,(∀ y0 y1 y2 y3 y4 y5 y6 y7 y8 y9,LeO (spec_l3Make.l0 k y0 y1 y2 y3 y4 y5 y6 y7 y8 y9) (spec_l3Make.l0 (k+1) y0 y1 y2 y3 y4 y5 y6 y7 y8 y9))
 | 0=>fun _ _ _ _ _ _ _ _ _ _ r h=>by simp [spec_l3Make.l0] at h
 | k+1=>by
  have ih0:=spec_l3Make.mono_l k
  ·intro y0 y1 y2 y3 y4 y5 y6 y7 y8 y9
   unfold spec_l3Make.l0
   with_reducible repeat' first|exact ih0 _ _ _ _ _ _ _ _ _ _|exact spec_l3Shift.mono _ _ _|exact lrz _|exact lnz _|refine liz ?_ ?_|refine lbz ?_ fun _=>?_
theorem spec_l3Make.mono:∀ a0 a1 a2 a3 a4 a5 a6 a7 k,LeO (spec_l3Make.f k a0 a1 a2 a3 a4 a5 a6 a7) (spec_l3Make.f (k+1) a0 a1 a2 a3 a4 a5 a6 a7):=by
 intro a0 a1 a2 a3 a4 a5 a6 a7 k
 have ih0:=spec_l3Make.mono_l k
 unfold spec_l3Make.f
 with_reducible repeat' first|exact ih0 _ _ _ _ _ _ _ _ _ _|exact spec_l3Shift.mono _ _ _|exact lrz _|exact lnz _|refine liz ?_ ?_|refine lbz ?_ fun _=>?_
set_option maxHeartbeats 8000000 in
set_option maxRecDepth 100000 in
theorem spec_l3Make.calls (k:Nat) (a0_0:Int) (a0_1:Int) (a0_2:Int) (a0_3:Int) (a0_4:Int) (a0_5:ByteArray) (a0_6:ByteArray) (A1:Option Addr) (c1:Nat) (l1:List (List (S45))) (r:List (S45)) (w:World) (hr1:Kd.C (Kd.slice 45 k45) w A1 l1.length l1) (hc1:l1.length <= c1) (h:spec_l3Make.f k a0_0 a0_1 a0_2 a0_3 a0_4 a0_5 a0_6 l1=some r) :
  Calls Tryz.prog 89 #[.agg #[.int .i64 a0_0,.int .i64 a0_1,.int .i64 a0_2,.int .i64 a0_3,.int .i64 a0_4,.string a0_5,.string a0_6],.slice A1 l1.length c1] w fun e w'=>∃ v0_:Value,e=.returned (v0_) /\ Kd.R k45 45 w' w.heap.size (fun _=>True) v0_ r /\ Below w.heap.size w w':=by
 have hu45:=Tryz.underlying45
 have HR1:=am hr1
 have HC1:=am hc1
 clear hr1 hc1
 have HB:=am (Below.refl w.heap.size w)
 have H:(spec_l3Make.l0 k l1 (([]:List (S45))) 0 a0_0 a0_1 a0_2 a0_3 a0_4 a0_5 a0_6)=some r:=h
 clear h
 obtain ⟨y372,hy372⟩:∃ y_:List (S45),y_=(([]:List (S45))):=⟨_,rfl⟩
 replace H:(spec_l3Make.l0 k l1 y372 0 a0_0 a0_1 a0_2 a0_3 a0_4 a0_5 a0_6)=some r:=yz hy372 H
 have Ny372:=am hy372
 clear hy372
 have H':=am H
 clear H
 go_enter Tryz.func89,Tryz.ntmps89
 go_wp2_with (first|((with_reducible refine gate_dst (N:=2) rfl ?_);refine box_event ?hg (N:=2) ?hd (cs:=#[.int .i64 a0_0,.int .i64 a0_1,.int .i64 a0_2,.int .i64 a0_3,.int .i64 a0_4,.string a0_5,.string a0_6]) (t:=45) ?hr ?_;(case hd=>rfl);(case hg=>rfl);(case hr=>exact vz);intro gb371 hg w3 hbox hb;have BK371:=am (hbox);have GW371:=am ((by rw [hg];exact (below_size (bz0 HB.out)):w.heap.size <= gb371));have GE371:=GW371;replace HB:=bs (bz0 HB.out) hb;clear hb hbox hg)|((with_reducible refine gate_dst (N:=7) rfl ?_);refine Kd.R_lit k45 _ 45 ?hg (N:=7) ?hd (xs:=([]:List (S45))) (inner:=[]) (ok:=fun _=>True) (okp:=fun _=>True) ?hr ?hp (fun _ hk=>hk) trivial (Below.refl _ _) (Nat.le_refl _) (by simp) ?_;(case hd=>rfl);(case hg=>rfl);(case hr=>exact vz);(case hp=>exact (Reps.none _ _));intro v373 w4 ho5 hb hg_ hnew_;clear hg_ hnew_;(first|rw [<- Ny372.out] at ho5|(simp only [Int.reduceToNat] at ho5;rw [<- Ny372.out] at ho5));have HO374:=am (Kd.R_lower (Kd.R_newB ho5 (g:=gb371) (o:=.cells #[.int .i64 a0_0,.int .i64 a0_1,.int .i64 a0_2,.int .i64 a0_3,.int .i64 a0_4,.string a0_5,.string a0_6] 45 (0,0)) (kz BK371.out)) (below_size (bz1 HB.out GE371.out)));replace BK371:=kb BK371 hb;replace HB:=bs (bz1 HB.out GE371.out) hb;clear hb ho5))
 (try simp only [Act.put,sz1,sz2,sz3])
 go_loopg [5,6] k (fun kq v5 v6 w'=>∃ (x5_1:List (S45)) (x6_1:Int) (x372001_1:Int) (x372002_1:Int) (x372003_1:Int),v6=.int .i64 x6_1 /\ Aside0 (spec_l3Make.l0 kq l1 x5_1 x6_1 a0_0 x372001_1 x372002_1 x372003_1 a0_4 a0_5 a0_6=some r) /\ Aside0 (kq <= k) /\ Aside0 (Kd.R k45 45 w' w.heap.size (fun k_=>k_≠gb371) v5 x5_1) /\ Aside0 (w'.heap[gb371]?=some (.cells #[.int .i64 a0_0,.int .i64 x372001_1,.int .i64 x372002_1,.int .i64 x372003_1,.int .i64 a0_4,.string a0_5,.string a0_6] 45 (0,0))) /\ Aside0 (Below w.heap.size w w'))
 case atStart=>exact ⟨(y372),(0),(a0_1),(a0_2),(a0_3),ez,H',⟨Nat.le_refl _⟩,⟨by refine rq ?_;exact Kd.R_mono HO374.out (fun _ hk=>hk.2)⟩,⟨by refine kq ?_;exact BK371.out⟩,⟨(bz1 HB.out GE371.out)⟩⟩
 case round =>
  clear H'
  try clear c1
  try clear p2
  obtain ⟨x5_1,x6_1,x372001_1,x372002_1,x372003_1,rfl,HA,HK1,HO_5,BK371,HB⟩:=hrel
  cases gk with
  | zero=>exact absurd HA.out (by simp [spec_l3Make.l0])
  | succ k1 =>
   have H:=HA.out
   clear HA
   simp only [spec_l3Make.l0] at H
   by_cases c6:x6_1<(l1.length:Int)
   ·rw [if_pos c6] at H
    have c6b0:=decide_eq_true c6
    clear c6
    replace H:=iz H
    obtain ⟨c7,H⟩:=H
    have c7b0:=decide_eq_true c7
    clear c7
    replace H:=bi H
    obtain ⟨t379,A80,H⟩:=H
    try dsimp only at H
    have A8:=am A80
    clear A80
    replace H:=iz H
    obtain ⟨c9,H⟩:=H
    have LMc9:=am c9
    clear c9
    obtain ⟨y382,hy382⟩:∃ y_:List (S45),y_=(x5_1++t379):=⟨_,rfl⟩
    replace H:(if x6_1=0 then (spec_l3Make.l0 k1 l1 y382 (wrap64 (x6_1+1)) a0_0 (wrap64 ((y382.length:Int) - 1)) x372002_1 x372003_1 a0_4 a0_5 a0_6) else (if x6_1=1 then (spec_l3Make.l0 k1 l1 y382 (wrap64 (x6_1+1)) a0_0 x372001_1 (wrap64 ((y382.length:Int) - 1)) x372003_1 a0_4 a0_5 a0_6) else (spec_l3Make.l0 k1 l1 y382 (wrap64 (x6_1+1)) a0_0 x372001_1 x372002_1 (wrap64 ((y382.length:Int) - 1)) a0_4 a0_5 a0_6)))=some r:=yz hy382 H
    have Ny382:=am hy382
    clear hy382
    by_cases c10:x6_1=0
    ·rw [if_pos c10] at H
     have c10b0:(x6_1 == 0)=true:=beq_iff_eq.mpr c10
     have c10b1:(x6_1 != 0)=false:=bne_eq_false_iff_eq.mpr c10
     clear c10
     have H':=am H
     clear H
     have p378:0 <= (x6_1:Int):=oz
     have q378:x6_1<(l1.length:Int):=oz
     obtain ⟨ad378,A378_0,c378_0,e378,hx378_0,hl378_0,hi378_0⟩:=at_L5 HR1.out x6_1 p378 q378
     cases e378
     replace hx378_0:=hz HB.out hx378_0
     have HR378_0:=am hi378_0
     have HC378_0:=am hl378_0
     clear hi378_0 hl378_0
     replace p378:=eq_true p378
     replace q378:=eq_true q378
     obtain ⟨Ao11,co11,eo11⟩:=Kd.R_slice HO_5.out
     subst eo11
     go_wp2_with (first|((with_reducible refine gate_callee (f:=98) rfl ?_);refine goesL_ (some 21) rfl rfl Tryz.func98 kr rfl #[.slice A378_0 (rd_L5 l1 x6_1).length c378_0,.int .i64 (x5_1.length:Int)] rfl lz ?_;(with_reducible refine (spec_l3Shift.calls k1 _ _ (rd_L5 l1 x6_1) (x5_1.length:Int) t379 _ ?side1 ?side2 A8.out).mono ?_);(case side1=>exact cz (Kd.C_below HR378_0.out HB.out));(case side2=>exact HC378_0.out);rintro e w12 ⟨v380,rfl,ho0,hb⟩;refine ⟨_,rfl,?_⟩;have HO381:=am (Kd.R_lower (Kd.R_newB (Kd.R_new' ho0 (Kd.R_lt (rz HO_5.out))) (g:=gb371) (o:=.cells #[.int .i64 a0_0,.int .i64 x372001_1,.int .i64 x372002_1,.int .i64 x372003_1,.int .i64 a0_4,.string a0_5,.string a0_6] 45 (0,0)) (kz BK371.out)) (below_size (bz1 HB.out GE371.out)));replace HO_5:=am (Kd.R_elder' (rz HO_5.out) (Kd.R_base ho0) hb);replace BK371:=kb BK371 hb;replace HB:=bs (bz1 HB.out GE371.out) hb;(try clear hb);(try clear hk);(try clear ho0);obtain ⟨Ao14,co14,eo14⟩:=Kd.R_slice HO381.out;subst eo14)|((with_reducible refine gate_builtin (b:=.append) (xs:=#[.tmp 14,.tmp 21]) rfl ?_);at_builtin;refine Kd.R_append_rows k45 (w0:=w) w.heap.size rfl (.tmp 14) (.tmp 21) 26 45 (.agg #[(.int .i64 0),(.int .i64 0),(.int .i64 0),(.int .i64 0),(.int .i64 0),(.string ⟨#[]⟩),(.string ⟨#[]⟩)]) 72 rfl Tryz.underlying26 info45 rfl (by decide) (by omega) (.slice Ao11 x5_1.length co11) x5_1 t379 _ _ _ (fun k_=>some k_≠(.slice Ao14 t379.length co14:Value).ownBlock /\ k_≠gb371) (fun _=>False) rfl rfl ?aO ?aR (fun _ _ h=>h) (fun _ h=>h.elim) ?aF ?aB ?aS ?aL ?_;(case aR=>exact cz (Kd.R_reads' HO381.out).2.2);(case aB=>exact (bz1 HB.out GE371.out));(case aF=>exact (fun k_ hk=>⟨Kd.fresh' (Kd.R_lt (rz HO381.out)) k_ hk,Kd.freshB (g:=gb371) (o:=.cells #[.int .i64 a0_0,.int .i64 x372001_1,.int .i64 x372002_1,.int .i64 x372003_1,.int .i64 a0_4,.string a0_5,.string a0_6] 45 (0,0)) (kz BK371.out) k_ hk⟩));(case aO=>exact (by refine rq ?_;exact Kd.R_mono HO_5.out (fun _ hk=>⟨hk.2,hk.1⟩)));(case aS=>exact (below_size (bz1 HB.out GE371.out)));(case aL=>have:=LMc9.out;omega);intro v383 w13 ho hb hg hat;rw [<- Ny382.out] at ho;have n0_:=am (blk_grown (g:=gb371) (o:=.cells #[.int .i64 a0_0,.int .i64 x372001_1,.int .i64 x372002_1,.int .i64 x372003_1,.int .i64 a0_4,.string a0_5,.string a0_6] 45 (0,0)) (kz BK371.out) hg (Kd.R_away HO_5.out (fun _ hk=>hk.1)));have n1_:=am (Kd.R_after (ok:=(fun k_=>k_≠gb371)) (by refine rq ?_;exact Kd.R_mono HO381.out (fun _ hk=>⟨hk.2,hk.1.2⟩)) hg hat);have n2_:=am (hb);have n3_:=am (ho);clear BK371;clear HO381;clear HB;clear HO_5;have BK371:=n0_;have HO381:=n1_;have HB:=n2_;have HO384:=n3_;clear n0_ n1_ n2_ n3_;clear ho hb hg hat;obtain ⟨Ao15,co15,eo15⟩:=Kd.R_slice HO384.out;subst eo15;obtain ⟨hcz16_0,hcz16_1,hcz16_2,hcz16_3,hcz16_4,hcz16_5,hcz16_6⟩:=cz7 BK371.out;obtain ⟨hfz16_0,hfz16_1,hfz16_2,hfz16_3,hfz16_4,hfz16_5,hfz16_6⟩:=fz7 BK371.out))
     go_roundg k1
     case measure=>have:=HK1.out;omega
     case rel=>exact ⟨(y382),(wrap64 (x6_1+1)),(wrap64 ((y382.length:Int) - 1)),(x372002_1),(x372003_1),ez,H',⟨by have:=HK1.out;omega⟩,⟨by refine rq ?_;exact Kd.R_mono (Kd.R_far (p:=⟨gb371,1,none⟩) (Kd.R_mono HO384.out (fun k_ hk=>(⟨hk,hk.2⟩:_ /\ k_≠gb371))) (fun _ hk=>hk.2) (.int .i64 (wrap64 ((y382.length:Int) - 1)))) (fun _ hk=>hk.1.2)⟩,⟨by refine kq ?_;refine blk_put (cs:=#[.int .i64 a0_0,.int .i64 x372001_1,.int .i64 x372002_1,.int .i64 x372003_1,.int .i64 a0_4,.string a0_5,.string a0_6]) ?_ 1 _ rfl;refine kq ?_;exact BK371.out⟩,⟨(bz1 HB.out GE371.out)⟩⟩
    ·rw [if_neg c10] at H
     have c10b0:(x6_1 == 0)=false:=beq_eq_false_iff_ne.mpr c10
     have c10b1:(x6_1 != 0)=true:=bne_iff_ne.mpr c10
     by_cases c17:x6_1=1
     ·rw [if_pos c17] at H
      have c17b0:(x6_1 == 1)=true:=beq_iff_eq.mpr c17
      have c17b1:(x6_1 != 1)=false:=bne_eq_false_iff_eq.mpr c17
      clear c17
      have H':=am H
      clear H
      have p378:0 <= (x6_1:Int):=oz
      have q378:x6_1<(l1.length:Int):=oz
      obtain ⟨ad378,A378_0,c378_0,e378,hx378_0,hl378_0,hi378_0⟩:=at_L5 HR1.out x6_1 p378 q378
      cases e378
      replace hx378_0:=hz HB.out hx378_0
      have HR378_0:=am hi378_0
      have HC378_0:=am hl378_0
      clear hi378_0 hl378_0
      replace p378:=eq_true p378
      replace q378:=eq_true q378
      obtain ⟨Ao18,co18,eo18⟩:=Kd.R_slice HO_5.out
      subst eo18
      go_wp2_with (first|((with_reducible refine gate_callee (f:=98) rfl ?_);refine goesL_ (some 21) rfl rfl Tryz.func98 kr rfl #[.slice A378_0 (rd_L5 l1 x6_1).length c378_0,.int .i64 (x5_1.length:Int)] rfl lz ?_;(with_reducible refine (spec_l3Shift.calls k1 _ _ (rd_L5 l1 x6_1) (x5_1.length:Int) t379 _ ?side1 ?side2 A8.out).mono ?_);(case side1=>exact cz (Kd.C_below HR378_0.out HB.out));(case side2=>exact HC378_0.out);rintro e w19 ⟨v380,rfl,ho0,hb⟩;refine ⟨_,rfl,?_⟩;have HO381:=am (Kd.R_lower (Kd.R_newB (Kd.R_new' ho0 (Kd.R_lt (rz HO_5.out))) (g:=gb371) (o:=.cells #[.int .i64 a0_0,.int .i64 x372001_1,.int .i64 x372002_1,.int .i64 x372003_1,.int .i64 a0_4,.string a0_5,.string a0_6] 45 (0,0)) (kz BK371.out)) (below_size (bz1 HB.out GE371.out)));replace HO_5:=am (Kd.R_elder' (rz HO_5.out) (Kd.R_base ho0) hb);replace BK371:=kb BK371 hb;replace HB:=bs (bz1 HB.out GE371.out) hb;(try clear hb);(try clear hk);(try clear ho0);obtain ⟨Ao21,co21,eo21⟩:=Kd.R_slice HO381.out;subst eo21)|((with_reducible refine gate_builtin (b:=.append) (xs:=#[.tmp 14,.tmp 21]) rfl ?_);at_builtin;refine Kd.R_append_rows k45 (w0:=w) w.heap.size rfl (.tmp 14) (.tmp 21) 26 45 (.agg #[(.int .i64 0),(.int .i64 0),(.int .i64 0),(.int .i64 0),(.int .i64 0),(.string ⟨#[]⟩),(.string ⟨#[]⟩)]) 72 rfl Tryz.underlying26 info45 rfl (by decide) (by omega) (.slice Ao18 x5_1.length co18) x5_1 t379 _ _ _ (fun k_=>some k_≠(.slice Ao21 t379.length co21:Value).ownBlock /\ k_≠gb371) (fun _=>False) rfl rfl ?aO ?aR (fun _ _ h=>h) (fun _ h=>h.elim) ?aF ?aB ?aS ?aL ?_;(case aR=>exact cz (Kd.R_reads' HO381.out).2.2);(case aB=>exact (bz1 HB.out GE371.out));(case aF=>exact (fun k_ hk=>⟨Kd.fresh' (Kd.R_lt (rz HO381.out)) k_ hk,Kd.freshB (g:=gb371) (o:=.cells #[.int .i64 a0_0,.int .i64 x372001_1,.int .i64 x372002_1,.int .i64 x372003_1,.int .i64 a0_4,.string a0_5,.string a0_6] 45 (0,0)) (kz BK371.out) k_ hk⟩));(case aO=>exact (by refine rq ?_;exact Kd.R_mono HO_5.out (fun _ hk=>⟨hk.2,hk.1⟩)));(case aS=>exact (below_size (bz1 HB.out GE371.out)));(case aL=>have:=LMc9.out;omega);intro v383 w20 ho hb hg hat;rw [<- Ny382.out] at ho;have n0_:=am (blk_grown (g:=gb371) (o:=.cells #[.int .i64 a0_0,.int .i64 x372001_1,.int .i64 x372002_1,.int .i64 x372003_1,.int .i64 a0_4,.string a0_5,.string a0_6] 45 (0,0)) (kz BK371.out) hg (Kd.R_away HO_5.out (fun _ hk=>hk.1)));have n1_:=am (Kd.R_after (ok:=(fun k_=>k_≠gb371)) (by refine rq ?_;exact Kd.R_mono HO381.out (fun _ hk=>⟨hk.2,hk.1.2⟩)) hg hat);have n2_:=am (hb);have n3_:=am (ho);clear BK371;clear HO381;clear HB;clear HO_5;have BK371:=n0_;have HO381:=n1_;have HB:=n2_;have HO384:=n3_;clear n0_ n1_ n2_ n3_;clear ho hb hg hat;obtain ⟨Ao22,co22,eo22⟩:=Kd.R_slice HO384.out;subst eo22;obtain ⟨hcz23_0,hcz23_1,hcz23_2,hcz23_3,hcz23_4,hcz23_5,hcz23_6⟩:=cz7 BK371.out;obtain ⟨hfz23_0,hfz23_1,hfz23_2,hfz23_3,hfz23_4,hfz23_5,hfz23_6⟩:=fz7 BK371.out))
      go_roundg k1
      case measure=>have:=HK1.out;omega
      case rel=>exact ⟨(y382),(wrap64 (x6_1+1)),(x372001_1),(wrap64 ((y382.length:Int) - 1)),(x372003_1),ez,H',⟨by have:=HK1.out;omega⟩,⟨by refine rq ?_;exact Kd.R_mono (Kd.R_far (p:=⟨gb371,2,none⟩) (Kd.R_mono HO384.out (fun k_ hk=>(⟨hk,hk.2⟩:_ /\ k_≠gb371))) (fun _ hk=>hk.2) (.int .i64 (wrap64 ((y382.length:Int) - 1)))) (fun _ hk=>hk.1.2)⟩,⟨by refine kq ?_;refine blk_put (cs:=#[.int .i64 a0_0,.int .i64 x372001_1,.int .i64 x372002_1,.int .i64 x372003_1,.int .i64 a0_4,.string a0_5,.string a0_6]) ?_ 2 _ rfl;refine kq ?_;exact BK371.out⟩,⟨(bz1 HB.out GE371.out)⟩⟩
     ·rw [if_neg c17] at H
      have c17b0:(x6_1 == 1)=false:=beq_eq_false_iff_ne.mpr c17
      have c17b1:(x6_1 != 1)=true:=bne_iff_ne.mpr c17
      have H':=am H
      clear H
      have p378:0 <= (x6_1:Int):=oz
      have q378:x6_1<(l1.length:Int):=oz
      obtain ⟨ad378,A378_0,c378_0,e378,hx378_0,hl378_0,hi378_0⟩:=at_L5 HR1.out x6_1 p378 q378
      cases e378
      replace hx378_0:=hz HB.out hx378_0
      have HR378_0:=am hi378_0
      have HC378_0:=am hl378_0
      clear hi378_0 hl378_0
      replace p378:=eq_true p378
      replace q378:=eq_true q378
      obtain ⟨Ao24,co24,eo24⟩:=Kd.R_slice HO_5.out
      subst eo24
      go_wp2_with (first|((with_reducible refine gate_callee (f:=98) rfl ?_);refine goesL_ (some 21) rfl rfl Tryz.func98 kr rfl #[.slice A378_0 (rd_L5 l1 x6_1).length c378_0,.int .i64 (x5_1.length:Int)] rfl lz ?_;(with_reducible refine (spec_l3Shift.calls k1 _ _ (rd_L5 l1 x6_1) (x5_1.length:Int) t379 _ ?side1 ?side2 A8.out).mono ?_);(case side1=>exact cz (Kd.C_below HR378_0.out HB.out));(case side2=>exact HC378_0.out);rintro e w25 ⟨v380,rfl,ho0,hb⟩;refine ⟨_,rfl,?_⟩;have HO381:=am (Kd.R_lower (Kd.R_newB (Kd.R_new' ho0 (Kd.R_lt (rz HO_5.out))) (g:=gb371) (o:=.cells #[.int .i64 a0_0,.int .i64 x372001_1,.int .i64 x372002_1,.int .i64 x372003_1,.int .i64 a0_4,.string a0_5,.string a0_6] 45 (0,0)) (kz BK371.out)) (below_size (bz1 HB.out GE371.out)));replace HO_5:=am (Kd.R_elder' (rz HO_5.out) (Kd.R_base ho0) hb);replace BK371:=kb BK371 hb;replace HB:=bs (bz1 HB.out GE371.out) hb;(try clear hb);(try clear hk);(try clear ho0);obtain ⟨Ao27,co27,eo27⟩:=Kd.R_slice HO381.out;subst eo27)|((with_reducible refine gate_builtin (b:=.append) (xs:=#[.tmp 14,.tmp 21]) rfl ?_);at_builtin;refine Kd.R_append_rows k45 (w0:=w) w.heap.size rfl (.tmp 14) (.tmp 21) 26 45 (.agg #[(.int .i64 0),(.int .i64 0),(.int .i64 0),(.int .i64 0),(.int .i64 0),(.string ⟨#[]⟩),(.string ⟨#[]⟩)]) 72 rfl Tryz.underlying26 info45 rfl (by decide) (by omega) (.slice Ao24 x5_1.length co24) x5_1 t379 _ _ _ (fun k_=>some k_≠(.slice Ao27 t379.length co27:Value).ownBlock /\ k_≠gb371) (fun _=>False) rfl rfl ?aO ?aR (fun _ _ h=>h) (fun _ h=>h.elim) ?aF ?aB ?aS ?aL ?_;(case aR=>exact cz (Kd.R_reads' HO381.out).2.2);(case aB=>exact (bz1 HB.out GE371.out));(case aF=>exact (fun k_ hk=>⟨Kd.fresh' (Kd.R_lt (rz HO381.out)) k_ hk,Kd.freshB (g:=gb371) (o:=.cells #[.int .i64 a0_0,.int .i64 x372001_1,.int .i64 x372002_1,.int .i64 x372003_1,.int .i64 a0_4,.string a0_5,.string a0_6] 45 (0,0)) (kz BK371.out) k_ hk⟩));(case aO=>exact (by refine rq ?_;exact Kd.R_mono HO_5.out (fun _ hk=>⟨hk.2,hk.1⟩)));(case aS=>exact (below_size (bz1 HB.out GE371.out)));(case aL=>have:=LMc9.out;omega);intro v383 w26 ho hb hg hat;rw [<- Ny382.out] at ho;have n0_:=am (blk_grown (g:=gb371) (o:=.cells #[.int .i64 a0_0,.int .i64 x372001_1,.int .i64 x372002_1,.int .i64 x372003_1,.int .i64 a0_4,.string a0_5,.string a0_6] 45 (0,0)) (kz BK371.out) hg (Kd.R_away HO_5.out (fun _ hk=>hk.1)));have n1_:=am (Kd.R_after (ok:=(fun k_=>k_≠gb371)) (by refine rq ?_;exact Kd.R_mono HO381.out (fun _ hk=>⟨hk.2,hk.1.2⟩)) hg hat);have n2_:=am (hb);have n3_:=am (ho);clear BK371;clear HO381;clear HB;clear HO_5;have BK371:=n0_;have HO381:=n1_;have HB:=n2_;have HO384:=n3_;clear n0_ n1_ n2_ n3_;clear ho hb hg hat;obtain ⟨Ao28,co28,eo28⟩:=Kd.R_slice HO384.out;subst eo28;obtain ⟨hcz29_0,hcz29_1,hcz29_2,hcz29_3,hcz29_4,hcz29_5,hcz29_6⟩:=cz7 BK371.out;obtain ⟨hfz29_0,hfz29_1,hfz29_2,hfz29_3,hfz29_4,hfz29_5,hfz29_6⟩:=fz7 BK371.out))
      go_roundg k1
      case measure=>have:=HK1.out;omega
      case rel=>exact ⟨(y382),(wrap64 (x6_1+1)),(x372001_1),(x372002_1),(wrap64 ((y382.length:Int) - 1)),ez,H',⟨by have:=HK1.out;omega⟩,⟨by refine rq ?_;exact Kd.R_mono (Kd.R_far (p:=⟨gb371,3,none⟩) (Kd.R_mono HO384.out (fun k_ hk=>(⟨hk,hk.2⟩:_ /\ k_≠gb371))) (fun _ hk=>hk.2) (.int .i64 (wrap64 ((y382.length:Int) - 1)))) (fun _ hk=>hk.1.2)⟩,⟨by refine kq ?_;refine blk_put (cs:=#[.int .i64 a0_0,.int .i64 x372001_1,.int .i64 x372002_1,.int .i64 x372003_1,.int .i64 a0_4,.string a0_5,.string a0_6]) ?_ 3 _ rfl;refine kq ?_;exact BK371.out⟩,⟨(bz1 HB.out GE371.out)⟩⟩
   ·rw [if_neg c6] at H
    have c6b0:=decide_eq_false c6
    clear c6
    replace H:=iz H
    obtain ⟨c30,H⟩:=H
    have LMc30:=am c30
    clear c30
    obtain ⟨y375,hy375⟩:∃ y_:List (S45),y_=(x5_1++[(⟨a0_0,x372001_1,x372002_1,x372003_1,a0_4,a0_5,a0_6⟩:S45)]):=⟨_,rfl⟩
    replace H:(some y375)=some r:=yz hy375 H
    have Ny375:=am hy375
    clear hy375
    obtain rfl:=Option.some.inj H
    obtain ⟨hcz31_0,hcz31_1,hcz31_2,hcz31_3,hcz31_4,hcz31_5,hcz31_6⟩:=cz7 BK371.out
    obtain ⟨hfz31_0,hfz31_1,hfz31_2,hfz31_3,hfz31_4,hfz31_5,hfz31_6⟩:=fz7 BK371.out
    go_wp2_with (first|((with_reducible refine gate_builtin (b:=.append) (xs:=#[.tmp 40,.tmp 42]) rfl ?_);at_builtin;refine Kd.R_append k45 (w0:=w) w.heap.size rfl (.tmp 40) (.tmp 42) 26 45 (.agg #[(.int .i64 0),(.int .i64 0),(.int .i64 0),(.int .i64 0),(.int .i64 0),(.string ⟨#[]⟩),(.string ⟨#[]⟩)]) 72 rfl Tryz.underlying26 info45 rfl (by decide) (by omega) u5 x5_1 (⟨a0_0,x372001_1,x372002_1,x372003_1,a0_4,a0_5,a0_6⟩:S45) [.int .i64 a0_0,.int .i64 x372001_1,.int .i64 x372002_1,.int .i64 x372003_1,.int .i64 a0_4,.string a0_5,.string a0_6] (fun k_=>k_≠gb371) (fun _=>False) rfl rfl ?aP (fun _ hk=>hk.elim) ?aF ?aO ?aB ?aS ?aL ?_;(case aP=>exact k45_mkM _ _ _ (⟨a0_0,x372001_1,x372002_1,x372003_1,a0_4,a0_5,a0_6⟩:S45));(case aB=>exact (bz1 HB.out GE371.out));(case aF=>exact (fun k_ hk=>Kd.freshB (g:=gb371) (o:=.cells #[.int .i64 a0_0,.int .i64 x372001_1,.int .i64 x372002_1,.int .i64 x372003_1,.int .i64 a0_4,.string a0_5,.string a0_6] 45 (0,0)) (kz BK371.out) k_ hk));(case aO=>exact (rz HO_5.out));(case aS=>exact (below_size (bz1 HB.out GE371.out)));(case aL=>have:=LMc30.out;omega);intro v376 w32 ho hb hg hat;rw [<- Ny375.out] at ho;have n0_:=am (blk_grown (g:=gb371) (o:=.cells #[.int .i64 a0_0,.int .i64 x372001_1,.int .i64 x372002_1,.int .i64 x372003_1,.int .i64 a0_4,.string a0_5,.string a0_6] 45 (0,0)) (kz BK371.out) hg (Kd.R_away HO_5.out (fun _ hk=>hk)));have n1_:=am (hb);have n2_:=am (ho);clear BK371;clear HB;clear HO_5;have BK371:=n0_;have HB:=n1_;have HO377:=n2_;clear n0_ n1_ n2_;clear ho hb hg hat))
    go_ret
    exact ⟨_,gz,by refine rq ?_;exact Kd.R_mono HO377.out (fun _ hk=>trivial),(bz1 HB.out GE371.out)⟩
end Go.Proofs.YthmpgocaoccnaaaGreatDoor.PFnFresh
