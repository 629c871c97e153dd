/- PFnFreshx19, of the words and walks that the law FnFresh needs; made by this session's program out of printed texts. -/
import Derived.Test.YthmpgocaoccnaaaGreatDoorVFnFreshPx0
import Derived.Test.YthmpgocaoccnaaaGreatDoorVFnFreshPx18
namespace Go.Proofs.YthmpgocaoccnaaaGreatDoor.PFnFresh
open Go.RowKit Go.Proofs.YthmpgocaoccnaaaGreatDoorW.PrintWords Go.Proofs.YthmpgocaoccnaaaGreatDoorW.PrintLast Go.Proofs.YthmpgocaoccnaaaGreatDoorW.PrintMore
attribute [local go_sem] max2_int min2_int max_two min_two max_three min_three max_four min_four
set_option linter.unusedVariables false
set_option linter.unusedSimpArgs false
attribute [local go_sem high] eqA45
mutual
def spec_Sites.l0:Nat -> List (S45) -> List (S30) -> Int -> Option ((List (S30)))
 | 0,_,_,_=>none
 | k+1,x0,x3,x4=>if x4<(x0.length:Int) then ((spec_NodesOk.f k x0).bind fun t610=>(spec_Sites.j1 k x0 x3 x4 t610)) else (spec_Sites.j1 k x0 x3 x4 false)
def spec_Sites.j1:Nat -> List (S45) -> List (S30) -> Int -> Bool -> Option ((List (S30)))
 | 0,_,_,_,_=>none
 | k+1,x0,x3,x4,x13=>if x13=true then (if 0 <= x4 then (if x4<(x0.length:Int) then (if ((rd_T45 x0 x4).f0)=3 then (spec_Sites.j2 k x0 x3 x4 ((rd_T45 x0 x4).f0) (((rd_T45 x0 x4).f0) == 3)) else (if ((rd_T45 x0 x4).f0)=5 then (spec_Sites.j2 k x0 x3 x4 ((rd_T45 x0 x4).f0) (((rd_T45 x0 x4).f0) == 5)) else (spec_Sites.j2 k x0 x3 x4 ((rd_T45 x0 x4).f0) (((rd_T45 x0 x4).f0) == 19)))) else (none)) else (none)) else (some x3)
def spec_Sites.j2:Nat -> List (S45) -> List (S30) -> Int -> Int -> Bool -> Option ((List (S30)))
 | 0,_,_,_,_,_=>none
 | k+1,x0,x3,x4,x20,x21=>if x21=true then (if x3.length<8796093022208 then (spec_Sites.l0 k x0 (x3++[(⟨x4,0⟩:S30)]) (wrap64 (x4+1))) else (none)) else (if x20=6 then ((some (([(⟨x4,0⟩:S30),(⟨x4,1⟩:S30)]:List (S30)):List (S30))).bind fun y615=>(if x3.length+y615.length<8796093022208 then (spec_Sites.l0 k x0 (x3++y615) (wrap64 (x4+1))) else (none))) else (if x20=14 then ((some (([(⟨x4,0⟩:S30),(⟨x4,1⟩:S30)]:List (S30)):List (S30))).bind fun y621=>(if x3.length+y621.length<8796093022208 then (spec_Sites.l0 k x0 (x3++y621) (wrap64 (x4+1))) else (none))) else (spec_Sites.l0 k x0 x3 (wrap64 (x4+1)))))
end
def spec_Sites.f (k:Nat) (l0:List (S45)):Option ((List (S30))):=spec_Sites.l0 k l0 (([]:List (S30))) 0
theorem spec_Sites.mono_l:∀ k,(∀ y0 y1 y2,LeO (spec_Sites.l0 k y0 y1 y2) (spec_Sites.l0 (k+1) y0 y1 y2)) /\ (∀ y0 y1 y2 y3,LeO (spec_Sites.j1 k y0 y1 y2 y3) (spec_Sites.j1 (k+1) y0 y1 y2 y3)) /\ (∀ y0 y1 y2 y3 y4,LeO (spec_Sites.j2 k y0 y1 y2 y3 y4) (spec_Sites.j2 (k+1) y0 y1 y2 y3 y4))
 | 0=>⟨fun _ _ _ r h=>by simp [spec_Sites.l0] at h,fun _ _ _ _ r h=>by simp [spec_Sites.j1] at h,fun _ _ _ _ _ r h=>by simp [spec_Sites.j2] at h⟩
 | k+1=>by
  obtain ⟨ih0,ih1,ih2⟩:=spec_Sites.mono_l k
  refine ⟨?_,?_,?_⟩
  ·intro y0 y1 y2
   unfold spec_Sites.l0
   with_reducible repeat' first|exact ih0 _ _ _|exact ih1 _ _ _ _|exact ih2 _ _ _ _ _|exact spec_NodesOk.mono _ _|exact lrz _|exact lnz _|refine liz ?_ ?_|refine lbz ?_ fun _=>?_
  ·intro y0 y1 y2 y3
   unfold spec_Sites.j1
   with_reducible repeat' first|exact ih0 _ _ _|exact ih1 _ _ _ _|exact ih2 _ _ _ _ _|exact spec_NodesOk.mono _ _|exact lrz _|exact lnz _|refine liz ?_ ?_|refine lbz ?_ fun _=>?_
  ·intro y0 y1 y2 y3 y4
   unfold spec_Sites.j2
   with_reducible repeat' first|exact ih0 _ _ _|exact ih1 _ _ _ _|exact ih2 _ _ _ _ _|exact spec_NodesOk.mono _ _|exact lrz _|exact lnz _|refine liz ?_ ?_|refine lbz ?_ fun _=>?_
theorem spec_Sites.mono:∀ a0 k,LeO (spec_Sites.f k a0) (spec_Sites.f (k+1) a0):=by
 intro a0 k
 obtain ⟨ih0,ih1,ih2⟩:=spec_Sites.mono_l k
 unfold spec_Sites.f
 with_reducible repeat' first|exact ih0 _ _ _|exact ih1 _ _ _ _|exact ih2 _ _ _ _ _|exact spec_NodesOk.mono _ _|exact lrz _|exact lnz _|refine liz ?_ ?_|refine lbz ?_ fun _=>?_
set_option maxHeartbeats 8000000 in
set_option maxRecDepth 100000 in
theorem spec_Sites.calls (k:Nat) (A0:Option Addr) (c0:Nat) (l0:List (S45)) (r:List (S30)) (w:World) (hr0:Kd.C k45 w A0 l0.length l0) (hc0:l0.length <= c0) (h:spec_Sites.f k l0=some r) :
  Calls Tryz.prog 16 #[.slice A0 l0.length c0] w fun e w'=>∃ v0_:Value,e=.returned (v0_) /\ Kd.R k30 30 w' w.heap.size (fun _=>True) v0_ r /\ Below w.heap.size w w':=by
 have hu30:=Tryz.underlying30
 have HR0:=am hr0
 have HC0:=am hc0
 clear hr0 hc0
 have HB:=am (Below.refl w.heap.size w)
 have H:(spec_Sites.l0 k l0 (([]:List (S30))) 0)=some r:=h
 clear h
 obtain ⟨y607,hy607⟩:∃ y_:List (S30),y_=(([]:List (S30))):=⟨_,rfl⟩
 replace H:(spec_Sites.l0 k l0 y607 0)=some r:=yz hy607 H
 have Ny607:=am hy607
 clear hy607
 have H':=am H
 clear H
 go_enter Tryz.func16,Tryz.ntmps16
 go_wp2_with (first|((with_reducible refine gate_dst (N:=5) rfl ?_);refine Kd.R_lit k30 _ 30 ?hg (N:=5) ?hd (xs:=([]:List (S30))) (inner:=[]) (ok:=fun _=>True) (okp:=fun _=>True) ?hr ?hp (fun _ hk=>hk) trivial (Below.refl _ _) (Nat.le_refl _) (by simp) ?_;(case hd=>rfl);(case hg=>rfl);(case hr=>exact vz);(case hp=>exact (Reps.none _ _));intro v608 w2 ho3 hb hg_ hnew_;clear hg_ hnew_;(first|rw [<- Ny607.out] at ho3|(simp only [Int.reduceToNat] at ho3;rw [<- Ny607.out] at ho3));have HO609:=am (Kd.R_lower ho3 (below_size (bz0 HB.out)));replace HB:=bs (bz0 HB.out) hb;clear hb ho3))
 (try simp only [Act.put,sz1,sz2,sz3])
 go_loopg [3,4] k (fun kq v3 v4 w'=>∃ (x3_1:List (S30)) (x4_1:Int),v4=.int .i64 x4_1 /\ Aside0 (spec_Sites.l0 kq l0 x3_1 x4_1=some r) /\ Aside0 (kq <= k) /\ Aside0 (Kd.R k30 30 w' w.heap.size (fun _=>True) v3 x3_1) /\ Aside0 (Below w.heap.size w w'))
 case atStart=>exact ⟨(y607),(0),ez,H',⟨Nat.le_refl _⟩,⟨by refine rq ?_;exact HO609.out⟩,⟨(bz0 HB.out)⟩⟩
 case round =>
  clear H'
  try clear c1
  try clear p2
  obtain ⟨x3_1,x4_1,rfl,HA,HK1,HO_3,HB⟩:=hrel
  cases gk with
  | zero=>exact absurd HA.out (by simp [spec_Sites.l0])
  | succ k1 =>
   have H:=HA.out
   clear HA
   simp only [spec_Sites.l0] at H
   have HC4:=am H
   clear H
   go_upto_region 3 with (fail)
   go_cut [13] (fun v13 wc=>∃ (kq:Nat) (x13_3:Bool),v13=.bool x13_3 /\ Aside0 (spec_Sites.j1 kq l0 x3_1 x4_1 x13_3=some r) /\ Aside0 (kq <= k1) /\ Aside0 (Kd.R k30 30 wc w.heap.size (fun _=>True) u3 x3_1) /\ Aside0 (Below w.heap.size w wc))
   case first =>
    have H:=HC4.out
    clear HC4
    by_cases c5:x4_1<(l0.length:Int)
    ·rw [if_pos c5] at H
     have c5b0:=decide_eq_true c5
     clear c5
     (first|rw [c5b0]|(simp only [i64_w,i32_w];rw [c5b0])|skip)
     replace H:=bi H
     obtain ⟨t610,A60,H⟩:=H
     try dsimp only at H
     have A6:=am A60
     clear A60
     have H':=am H
     clear H
     go_wp2_with (first|(go_at_call 15;(with_reducible refine (spec_NodesOk.calls k1 _ _ l0 t610 _ ?side1 ?side2 A6.out).mono ?_);(case side1=>exact cz (Kd.C_below HR0.out HB.out));(case side2=>exact HC0.out);rintro e w7 ⟨rfl,hb⟩;replace HO_3:=qz HO_3 hb;replace HB:=bs (bz0 HB.out) hb;(try clear hb);(try clear hi)))
     go_meet
     case rel=>exact ⟨_,(t610),ez,H',⟨by have:=HK1.out;first|omega|exact Nat.le_refl _⟩,⟨by refine rq ?_;exact HO_3.out⟩,⟨(bz0 HB.out)⟩⟩
    ·rw [if_neg c5] at H
     have c5b0:=decide_eq_false c5
     clear c5
     (first|rw [c5b0]|(simp only [i64_w,i32_w];rw [c5b0])|skip)
     have H':=am H
     clear H
     go_wp2
     go_meet
     case rel=>exact ⟨_,(false),ez,H',⟨by have:=HK1.out;first|omega|exact Nat.le_refl _⟩,⟨by refine rq ?_;exact HO_3.out⟩,⟨(bz0 HB.out)⟩⟩
   case rest =>
    clear HC4
    try clear c1
    try clear p2
    try clear c5
    try clear c5b0
    try clear p2
    obtain ⟨kq,x13_3,rfl,HA,HJ3,HO_3,HB⟩:=hcut
    cases kq with
    | zero=>exact absurd HA.out (by simp [spec_Sites.j1])
    | succ kj3 =>
     have H:=HA.out
     clear HA
     simp only [spec_Sites.j1] at H
     by_cases c8:x13_3=true
     ·subst c8
      have H1:=hp H
      clear H
      have H:=H1
      clear H1
      replace H:=iz H
      obtain ⟨c9,H⟩:=H
      have c9b0:=decide_eq_true c9
      clear c9
      replace H:=iz H
      obtain ⟨c10,H⟩:=H
      have c10b0:=decide_eq_true c10
      clear c10
      have HC11:=am H
      clear H
      have p611:0 <= (x4_1:Int):=oz
      have q611:x4_1<(l0.length:Int):=oz
      obtain ⟨ad611,e611,hx611_0,hx611_1,hx611_2,hx611_3,hx611_4,hx611_5,hx611_6⟩:=at_T45 (Kd.C_below HR0.out HB.out) x4_1 p611 q611
      cases e611
      replace p611:=eq_true p611
      replace q611:=eq_true q611
      go_upto_if 21 with (fail)
      go_cut [21] (fun v21 wc=>∃ (kq:Nat) (x21_10:Bool),v21=.bool x21_10 /\ Aside0 (spec_Sites.j2 kq l0 x3_1 x4_1 ((rd_T45 l0 x4_1).f0) x21_10=some r) /\ Aside0 (kq <= kj3) /\ Aside0 (Kd.R k30 30 wc w.heap.size (fun _=>True) u3 x3_1) /\ Aside0 (Below w.heap.size w wc))
      case first =>
       have H:=HC11.out
       clear HC11
       by_cases c12:((rd_T45 l0 x4_1).f0)=3
       ·rw [if_pos c12] at H
        have c12b0:(((rd_T45 l0 x4_1).f0) == 3)=true:=beq_iff_eq.mpr c12
        have c12b1:(((rd_T45 l0 x4_1).f0) != 3)=false:=bne_eq_false_iff_eq.mpr c12
        clear c12
        (first|rw [c12b0]|(simp only [i64_w,i32_w];rw [c12b0])|skip)
        have H':=am H
        clear H
        go_wp2
        go_meet
        case rel=>exact ⟨_,((((rd_T45 l0 x4_1).f0) == 3)),ez,H',⟨by have:=HK1.out;have:=HJ3.out;first|omega|exact Nat.le_refl _⟩,⟨by refine rq ?_;exact HO_3.out⟩,⟨(bz0 HB.out)⟩⟩
       ·rw [if_neg c12] at H
        have c12b0:(((rd_T45 l0 x4_1).f0) == 3)=false:=beq_eq_false_iff_ne.mpr c12
        have c12b1:(((rd_T45 l0 x4_1).f0) != 3)=true:=bne_iff_ne.mpr c12
        (first|rw [c12b0]|(simp only [i64_w,i32_w];rw [c12b0])|skip)
        by_cases c13:((rd_T45 l0 x4_1).f0)=5
        ·rw [if_pos c13] at H
         have c13b0:(((rd_T45 l0 x4_1).f0) == 5)=true:=beq_iff_eq.mpr c13
         have c13b1:(((rd_T45 l0 x4_1).f0) != 5)=false:=bne_eq_false_iff_eq.mpr c13
         clear c13
         have H':=am H
         clear H
         go_wp2
         go_meet
         case rel=>exact ⟨_,((((rd_T45 l0 x4_1).f0) == 5)),ez,H',⟨by have:=HK1.out;have:=HJ3.out;first|omega|exact Nat.le_refl _⟩,⟨by refine rq ?_;exact HO_3.out⟩,⟨(bz0 HB.out)⟩⟩
        ·rw [if_neg c13] at H
         have c13b0:(((rd_T45 l0 x4_1).f0) == 5)=false:=beq_eq_false_iff_ne.mpr c13
         have c13b1:(((rd_T45 l0 x4_1).f0) != 5)=true:=bne_iff_ne.mpr c13
         have H':=am H
         clear H
         go_wp2
         go_meet
         case rel=>exact ⟨_,((((rd_T45 l0 x4_1).f0) == 19)),ez,H',⟨by have:=HK1.out;have:=HJ3.out;first|omega|exact Nat.le_refl _⟩,⟨by refine rq ?_;exact HO_3.out⟩,⟨(bz0 HB.out)⟩⟩
      case rest =>
       clear HC11
       try clear c1
       try clear p2
       try clear c5
       try clear c5b0
       try clear p6
       try clear q6
       try clear hx6
       try clear c8
       try clear c9
       try clear c9b0
       try clear c10
       try clear c10b0
       try clear c12
       try clear c12b0
       try clear c12b1
       try clear c13
       try clear c13b0
       try clear c13b1
       try clear hx611_0
       try clear hx611_1
       try clear hx611_2
       try clear hx611_3
       try clear hx611_4
       try clear hx611_5
       try clear hx611_6
       try clear p2
       try clear p611
       try clear q611
       obtain ⟨kq,x21_10,rfl,HA,HJ10,HO_3,HB⟩:=hcut
       cases kq with
       | zero=>exact absurd HA.out (by simp [spec_Sites.j2])
       | succ kj10 =>
        have H:=HA.out
        clear HA
        simp only [spec_Sites.j2] at H
        by_cases c14:x21_10=true
        ·subst c14
         have H1:=hp H
         clear H
         have H:=H1
         clear H1
         replace H:=iz H
         obtain ⟨c15,H⟩:=H
         have LMc15:=am c15
         clear c15
         obtain ⟨y612,hy612⟩:∃ y_:List (S30),y_=(x3_1++[(⟨x4_1,0⟩:S30)]):=⟨_,rfl⟩
         replace H:(spec_Sites.l0 kj10 l0 y612 (wrap64 (x4_1+1)))=some r:=yz hy612 H
         have Ny612:=am hy612
         clear hy612
         have H':=am H
         clear H
         go_wp2_with (first|((with_reducible refine gate_builtin (b:=.append) (xs:=#[.tmp 25,.tmp 28]) rfl ?_);at_builtin;refine Kd.R_append k30 (w0:=w) w.heap.size rfl (.tmp 25) (.tmp 28) 39 30 (.agg #[(.int .i64 0),(.int .i64 0)]) 16 rfl Tryz.underlying39 info30 rfl (by decide) (by omega) u3 x3_1 (⟨x4_1,0⟩:S30) [.int .i64 x4_1,.int .i64 0] (fun _=>True) (fun _=>False) rfl rfl ?aP (fun _ hk=>hk.elim) ?aF ?aO ?aB ?aS ?aL ?_;(case aP=>exact k30_mkM _ _ _ (⟨x4_1,0⟩:S30));(case aB=>exact (bz0 HB.out));(case aF=>exact (fun _ _=>trivial));(case aO=>exact (rz HO_3.out));(case aS=>exact (below_size (bz0 HB.out)));(case aL=>have:=LMc15.out;omega);intro v613 w16 ho hb hg hat;rw [<- Ny612.out] at ho;have n0_:=am (hb);have n1_:=am (ho);clear HB;clear HO_3;have HB:=n0_;have HO614:=n1_;clear n0_ n1_;clear ho hb hg hat))
         go_roundg kj10
         case measure=>have:=HK1.out;have:=HJ3.out;have:=HJ10.out;omega
         case rel=>exact ⟨(y612),(wrap64 (x4_1+1)),ez,H',⟨by have:=HK1.out;have:=HJ3.out;have:=HJ10.out;omega⟩,⟨by refine rq ?_;exact HO614.out⟩,⟨(bz0 HB.out)⟩⟩
        ·replace c14:=Bool.eq_false_iff.mpr c14
         subst c14
         have H1:=hq H
         clear H
         have H:=H1
         clear H1
         by_cases c17:((rd_T45 l0 x4_1).f0)=6
         ·rw [if_pos c17] at H
          have c17b0:(((rd_T45 l0 x4_1).f0) == 6)=true:=beq_iff_eq.mpr c17
          have c17b1:(((rd_T45 l0 x4_1).f0) != 6)=false:=bne_eq_false_iff_eq.mpr c17
          clear c17
          obtain ⟨y615,hy615⟩:∃ y_:List (S30),y_=(([(⟨x4_1,0⟩:S30),(⟨x4_1,1⟩:S30)]:List (S30))):=⟨_,rfl⟩
          replace H:(if x3_1.length+y615.length<8796093022208 then (spec_Sites.l0 kj10 l0 (x3_1++y615) (wrap64 (x4_1+1))) else (none))=some r:=yz hy615 H
          have Ny615:=am hy615
          clear hy615
          replace H:=iz H
          obtain ⟨c18,H⟩:=H
          have LMc18:=am c18
          clear c18
          obtain ⟨y618,hy618⟩:∃ y_:List (S30),y_=(x3_1++y615):=⟨_,rfl⟩
          replace H:(spec_Sites.l0 kj10 l0 y618 (wrap64 (x4_1+1)))=some r:=yz hy618 H
          have Ny618:=am hy618
          clear hy618
          have H':=am H
          clear H
          go_wp2_with (first|((with_reducible refine gate_dst (N:=38) rfl ?_);refine Kd.R_lit k30 _ 30 ?hg (N:=38) ?hd (xs:=([(⟨x4_1,0⟩:S30),(⟨x4_1,1⟩:S30)]:List (S30))) (inner:=[.int .i64 x4_1,.int .i64 0,.int .i64 x4_1,.int .i64 1]) (ok:=fun _=>True) (okp:=fun _=>True) ?hr ?hp (fun _ hk=>hk) trivial (Below.refl _ _) (Nat.le_refl _) (by simp) ?_;(case hd=>rfl);(case hg=>rfl);(case hr=>exact vz);(case hp=>exact (Reps.c2 (show Kd.M k30 _ _ _ (⟨x4_1,0⟩:S30) [.int .i64 x4_1,.int .i64 0] from (k30_mkM _ _ _ (⟨x4_1,0⟩:S30) )) (Reps.c2 (show Kd.M k30 _ _ _ (⟨x4_1,1⟩:S30) [.int .i64 x4_1,.int .i64 1] from (k30_mkM _ _ _ (⟨x4_1,1⟩:S30) )) (Reps.none _ _))));intro v616 w19 ho20 hb hg_ hnew_;clear hg_ hnew_;(first|rw [<- Ny615.out] at ho20|(simp only [Int.reduceToNat] at ho20;rw [<- Ny615.out] at ho20));have HO617:=am (Kd.R_lower (Kd.R_new' ho20 (Kd.R_lt (rz HO_3.out))) (below_size (bz0 HB.out)));replace HO_3:=am (Kd.R_elder' (rz HO_3.out) (Kd.R_base ho20) hb);replace HB:=bs (bz0 HB.out) hb;clear hb ho20;obtain ⟨Ao22,co22,eo22⟩:=Kd.R_slice HO617.out;subst eo22)|((with_reducible refine gate_builtin (b:=.append) (xs:=#[.tmp 33,.tmp 38]) rfl ?_);at_builtin;refine Kd.R_append_rows k30 (w0:=w) w.heap.size rfl (.tmp 33) (.tmp 38) 39 30 (.agg #[(.int .i64 0),(.int .i64 0)]) 16 rfl Tryz.underlying39 info30 rfl (by decide) (by omega) u3 x3_1 y615 _ _ _ (fun k_=>some k_≠(.slice Ao22 y615.length co22:Value).ownBlock) (fun _=>False) rfl rfl ?aO ?aR (fun _ _ h=>h) (fun _ h=>h.elim) ?aF ?aB ?aS ?aL ?_;(case aR=>exact cz (Kd.R_reads' HO617.out).2.2);(case aB=>exact (bz0 HB.out));(case aF=>exact (fun k_ hk=>Kd.fresh' (Kd.R_lt (rz HO617.out)) k_ hk));(case aO=>exact (by refine rq ?_;exact Kd.R_mono HO_3.out (fun _ hk=>hk.2)));(case aS=>exact (below_size (bz0 HB.out)));(case aL=>have:=LMc18.out;omega);intro v619 w21 ho hb hg hat;rw [<- Ny618.out] at ho;have n0_:=am (Kd.R_after (ok:=(fun _=>True)) (rz HO617.out) hg hat);have n1_:=am (hb);have n2_:=am (ho);clear HO617;clear HB;clear HO_3;have HO617:=n0_;have HB:=n1_;have HO620:=n2_;clear n0_ n1_ n2_;clear ho hb hg hat))
          go_roundg kj10
          case measure=>have:=HK1.out;have:=HJ3.out;have:=HJ10.out;omega
          case rel=>exact ⟨(y618),(wrap64 (x4_1+1)),ez,H',⟨by have:=HK1.out;have:=HJ3.out;have:=HJ10.out;omega⟩,⟨by refine rq ?_;exact Kd.R_mono HO620.out (fun _ hk=>trivial)⟩,⟨(bz0 HB.out)⟩⟩
         ·rw [if_neg c17] at H
          have c17b0:(((rd_T45 l0 x4_1).f0) == 6)=false:=beq_eq_false_iff_ne.mpr c17
          have c17b1:(((rd_T45 l0 x4_1).f0) != 6)=true:=bne_iff_ne.mpr c17
          by_cases c23:((rd_T45 l0 x4_1).f0)=14
          ·rw [if_pos c23] at H
           have c23b0:(((rd_T45 l0 x4_1).f0) == 14)=true:=beq_iff_eq.mpr c23
           have c23b1:(((rd_T45 l0 x4_1).f0) != 14)=false:=bne_eq_false_iff_eq.mpr c23
           clear c23
           obtain ⟨y621,hy621⟩:∃ y_:List (S30),y_=(([(⟨x4_1,0⟩:S30),(⟨x4_1,1⟩:S30)]:List (S30))):=⟨_,rfl⟩
           replace H:(if x3_1.length+y621.length<8796093022208 then (spec_Sites.l0 kj10 l0 (x3_1++y621) (wrap64 (x4_1+1))) else (none))=some r:=yz hy621 H
           have Ny621:=am hy621
           clear hy621
           replace H:=iz H
           obtain ⟨c24,H⟩:=H
           have LMc24:=am c24
           clear c24
           obtain ⟨y624,hy624⟩:∃ y_:List (S30),y_=(x3_1++y621):=⟨_,rfl⟩
           replace H:(spec_Sites.l0 kj10 l0 y624 (wrap64 (x4_1+1)))=some r:=yz hy624 H
           have Ny624:=am hy624
           clear hy624
           have H':=am H
           clear H
           go_wp2_with (first|((with_reducible refine gate_dst (N:=38) rfl ?_);refine Kd.R_lit k30 _ 30 ?hg (N:=38) ?hd (xs:=([(⟨x4_1,0⟩:S30),(⟨x4_1,1⟩:S30)]:List (S30))) (inner:=[.int .i64 x4_1,.int .i64 0,.int .i64 x4_1,.int .i64 1]) (ok:=fun _=>True) (okp:=fun _=>True) ?hr ?hp (fun _ hk=>hk) trivial (Below.refl _ _) (Nat.le_refl _) (by simp) ?_;(case hd=>rfl);(case hg=>rfl);(case hr=>exact vz);(case hp=>exact (Reps.c2 (show Kd.M k30 _ _ _ (⟨x4_1,0⟩:S30) [.int .i64 x4_1,.int .i64 0] from (k30_mkM _ _ _ (⟨x4_1,0⟩:S30) )) (Reps.c2 (show Kd.M k30 _ _ _ (⟨x4_1,1⟩:S30) [.int .i64 x4_1,.int .i64 1] from (k30_mkM _ _ _ (⟨x4_1,1⟩:S30) )) (Reps.none _ _))));intro v622 w25 ho26 hb hg_ hnew_;clear hg_ hnew_;(first|rw [<- Ny621.out] at ho26|(simp only [Int.reduceToNat] at ho26;rw [<- Ny621.out] at ho26));have HO623:=am (Kd.R_lower (Kd.R_new' ho26 (Kd.R_lt (rz HO_3.out))) (below_size (bz0 HB.out)));replace HO_3:=am (Kd.R_elder' (rz HO_3.out) (Kd.R_base ho26) hb);replace HB:=bs (bz0 HB.out) hb;clear hb ho26;obtain ⟨Ao28,co28,eo28⟩:=Kd.R_slice HO623.out;subst eo28)|((with_reducible refine gate_builtin (b:=.append) (xs:=#[.tmp 33,.tmp 38]) rfl ?_);at_builtin;refine Kd.R_append_rows k30 (w0:=w) w.heap.size rfl (.tmp 33) (.tmp 38) 39 30 (.agg #[(.int .i64 0),(.int .i64 0)]) 16 rfl Tryz.underlying39 info30 rfl (by decide) (by omega) u3 x3_1 y621 _ _ _ (fun k_=>some k_≠(.slice Ao28 y621.length co28:Value).ownBlock) (fun _=>False) rfl rfl ?aO ?aR (fun _ _ h=>h) (fun _ h=>h.elim) ?aF ?aB ?aS ?aL ?_;(case aR=>exact cz (Kd.R_reads' HO623.out).2.2);(case aB=>exact (bz0 HB.out));(case aF=>exact (fun k_ hk=>Kd.fresh' (Kd.R_lt (rz HO623.out)) k_ hk));(case aO=>exact (by refine rq ?_;exact Kd.R_mono HO_3.out (fun _ hk=>hk.2)));(case aS=>exact (below_size (bz0 HB.out)));(case aL=>have:=LMc24.out;omega);intro v625 w27 ho hb hg hat;rw [<- Ny624.out] at ho;have n0_:=am (Kd.R_after (ok:=(fun _=>True)) (rz HO623.out) hg hat);have n1_:=am (hb);have n2_:=am (ho);clear HO623;clear HB;clear HO_3;have HO623:=n0_;have HB:=n1_;have HO626:=n2_;clear n0_ n1_ n2_;clear ho hb hg hat))
           go_roundg kj10
           case measure=>have:=HK1.out;have:=HJ3.out;have:=HJ10.out;omega
           case rel=>exact ⟨(y624),(wrap64 (x4_1+1)),ez,H',⟨by have:=HK1.out;have:=HJ3.out;have:=HJ10.out;omega⟩,⟨by refine rq ?_;exact Kd.R_mono HO626.out (fun _ hk=>trivial)⟩,⟨(bz0 HB.out)⟩⟩
          ·rw [if_neg c23] at H
           have c23b0:(((rd_T45 l0 x4_1).f0) == 14)=false:=beq_eq_false_iff_ne.mpr c23
           have c23b1:(((rd_T45 l0 x4_1).f0) != 14)=true:=bne_iff_ne.mpr c23
           have H':=am H
           clear H
           go_wp2
           go_roundg kj10
           case measure=>have:=HK1.out;have:=HJ3.out;have:=HJ10.out;omega
           case rel=>exact ⟨(x3_1),(wrap64 (x4_1+1)),ez,H',⟨by have:=HK1.out;have:=HJ3.out;have:=HJ10.out;omega⟩,⟨by refine rq ?_;exact HO_3.out⟩,⟨(bz0 HB.out)⟩⟩
     ·replace c8:=Bool.eq_false_iff.mpr c8
      subst c8
      have H1:=hq H
      clear H
      have H:=H1
      clear H1
      obtain rfl:=Option.some.inj H
      go_wp2
      go_ret
      exact ⟨_,gz,by refine rq ?_;exact HO_3.out,(bz0 HB.out)⟩
def spec_SameNodes.l0:Nat -> List (S45) -> List (S45) -> Int -> Option (Bool)
 | 0,_,_,_=>none
 | k+1,x0,x1,x5=>if x5<(x0.length:Int) then (if 0 <= x5 then (if x5<(x1.length:Int) then (if (!(((rd_T45 x0 x5).f0) == ((rd_T45 x1 x5).f0)) || (!(((rd_T45 x0 x5).f1) == ((rd_T45 x1 x5).f1)) || (!(((rd_T45 x0 x5).f2) == ((rd_T45 x1 x5).f2)) || (!(((rd_T45 x0 x5).f3) == ((rd_T45 x1 x5).f3)) || (!(((rd_T45 x0 x5).f4) == ((rd_T45 x1 x5).f4)) || (!((((rd_T45 x0 x5).f5).toList) == (((rd_T45 x1 x5).f5).toList)) || (!((((rd_T45 x0 x5).f6).toList) == (((rd_T45 x1 x5).f6).toList)))))))))=true then (some false) else (spec_SameNodes.l0 k x0 x1 (wrap64 (x5+1)))) else (none)) else (none)) else (some true)
def spec_SameNodes.f (k:Nat) (l0:List (S45)) (l1:List (S45)):Option (Bool):=if (l0.length:Int)=(l1.length:Int) then (spec_SameNodes.l0 k l0 l1 0) else (some false)
theorem spec_SameNodes.mono_l:∀ k,(∀ y0 y1 y2,LeO (spec_SameNodes.l0 k y0 y1 y2) (spec_SameNodes.l0 (k+1) y0 y1 y2))
 | 0=>fun _ _ _ r h=>by simp [spec_SameNodes.l0] at h
 | k+1=>by
  have ih0:=spec_SameNodes.mono_l k
  ·intro y0 y1 y2
   unfold spec_SameNodes.l0
   with_reducible repeat' first|exact ih0 _ _ _|exact lrz _|exact lnz _|refine liz ?_ ?_|refine lbz ?_ fun _=>?_
theorem spec_SameNodes.mono:∀ a0 a1 k,LeO (spec_SameNodes.f k a0 a1) (spec_SameNodes.f (k+1) a0 a1):=by
 intro a0 a1 k
 have ih0:=spec_SameNodes.mono_l k
 unfold spec_SameNodes.f
 with_reducible repeat' first|exact ih0 _ _ _|exact lrz _|exact lnz _|refine liz ?_ ?_|refine lbz ?_ fun _=>?_
set_option maxHeartbeats 8000000 in
set_option maxRecDepth 100000 in
theorem spec_SameNodes.calls (k:Nat) (A0:Option Addr) (c0:Nat) (l0:List (S45)) (A1:Option Addr) (c1:Nat) (l1:List (S45)) (r:Bool) (w:World) (hr0:Kd.C k45 w A0 l0.length l0) (hc0:l0.length <= c0) (hr1:Kd.C k45 w A1 l1.length l1) (hc1:l1.length <= c1) (h:spec_SameNodes.f k l0 l1=some r) :
  Calls Tryz.prog 42 #[.slice A0 l0.length c0,.slice A1 l1.length c1] w fun e w'=>e=.returned (.bool r) /\ Drawn0 w w':=by
 have hu45:=Tryz.underlying45
 have HR0:=am hr0
 have HC0:=am hc0
 clear hr0 hc0
 have HR1:=am hr1
 have HC1:=am hc1
 clear hr1 hc1
 have H:(if (l0.length:Int)=(l1.length:Int) then (spec_SameNodes.l0 k l0 l1 0) else (some false))=some r:=h
 clear h
 by_cases c3:(l0.length:Int)=(l1.length:Int)
 ·rw [if_pos c3] at H
  have c3b0:((l0.length:Int) == (l1.length:Int))=true:=beq_iff_eq.mpr c3
  have c3b1:((l0.length:Int) != (l1.length:Int))=false:=bne_eq_false_iff_eq.mpr c3
  have c3b2:(l0.length == l1.length)=true:=by first|simpa using c3|(simp at c3 ⊢;omega)
  clear c3
  have H':=am H
  clear H
  go_enter Tryz.func42,Tryz.ntmps42
  go_wp2
  repeat (go_quiet (fail);try go_wp2)
  go_loopg [5] k (fun kq v5 w'=>∃ (x5_1:Int),v5=.int .i64 x5_1 /\ Aside0 (spec_SameNodes.l0 kq l0 l1 x5_1=some r) /\ Aside0 (kq <= k) /\ Drawn0 w w')
  case atStart=>exact ⟨(0),ez,H',⟨Nat.le_refl _⟩,dz⟩
  case round =>
   clear H'
   try clear c1
   try clear p2
   try clear c3
   try clear c3b0
   try clear c3b1
   try clear c3b2
   obtain ⟨x5_1,rfl,HA,HK1,⟨m1,rfl⟩⟩:=hrel
   cases gk with
   | zero=>exact absurd HA.out (by simp [spec_SameNodes.l0])
   | succ k1 =>
    have H:=HA.out
    clear HA
    simp only [spec_SameNodes.l0] at H
    by_cases c4:x5_1<(l0.length:Int)
    ·rw [if_pos c4] at H
     have c4b0:=decide_eq_true c4
     clear c4
     replace H:=iz H
     obtain ⟨c5,H⟩:=H
     have c5b0:=decide_eq_true c5
     clear c5
     replace H:=iz H
     obtain ⟨c6,H⟩:=H
     have c6b0:=decide_eq_true c6
     clear c6
     by_cases c7:(!(((rd_T45 l0 x5_1).f0) == ((rd_T45 l1 x5_1).f0)) || (!(((rd_T45 l0 x5_1).f1) == ((rd_T45 l1 x5_1).f1)) || (!(((rd_T45 l0 x5_1).f2) == ((rd_T45 l1 x5_1).f2)) || (!(((rd_T45 l0 x5_1).f3) == ((rd_T45 l1 x5_1).f3)) || (!(((rd_T45 l0 x5_1).f4) == ((rd_T45 l1 x5_1).f4)) || (!((((rd_T45 l0 x5_1).f5).toList) == (((rd_T45 l1 x5_1).f5).toList)) || (!((((rd_T45 l0 x5_1).f6).toList) == (((rd_T45 l1 x5_1).f6).toList)))))))))=true
     ·rw [if_pos c7] at H
      have c7b0:(!(((rd_T45 l0 x5_1).f0) == ((rd_T45 l1 x5_1).f0)) || (!(((rd_T45 l0 x5_1).f1) == ((rd_T45 l1 x5_1).f1)) || (!(((rd_T45 l0 x5_1).f2) == ((rd_T45 l1 x5_1).f2)) || (!(((rd_T45 l0 x5_1).f3) == ((rd_T45 l1 x5_1).f3)) || (!(((rd_T45 l0 x5_1).f4) == ((rd_T45 l1 x5_1).f4)) || (!((((rd_T45 l0 x5_1).f5).toList) == (((rd_T45 l1 x5_1).f5).toList)) || (!((((rd_T45 l0 x5_1).f6).toList) == (((rd_T45 l1 x5_1).f6).toList)))))))))=true:=c7
      clear c7
      obtain rfl:=Option.some.inj H
      have p627:0 <= (x5_1:Int):=oz
      have q627:x5_1<(l0.length:Int):=oz
      obtain ⟨ad627,e627,hx627_0,hx627_1,hx627_2,hx627_3,hx627_4,hx627_5,hx627_6⟩:=at_T45 HR0.out x5_1 p627 q627
      cases e627
      replace p627:=eq_true p627
      replace q627:=eq_true q627
      have p628:0 <= (x5_1:Int):=oz
      have q628:x5_1<(l1.length:Int):=oz
      obtain ⟨ad628,e628,hx628_0,hx628_1,hx628_2,hx628_3,hx628_4,hx628_5,hx628_6⟩:=at_T45 HR1.out x5_1 p628 q628
      cases e628
      replace p628:=eq_true p628
      replace q628:=eq_true q628
      go_wp2
      repeat (go_quiet (fail);try go_wp2)
      go_ret
      exact ⟨e2z,dz⟩
     ·rw [if_neg c7] at H
      have c7b0:(!(((rd_T45 l0 x5_1).f0) == ((rd_T45 l1 x5_1).f0)) || (!(((rd_T45 l0 x5_1).f1) == ((rd_T45 l1 x5_1).f1)) || (!(((rd_T45 l0 x5_1).f2) == ((rd_T45 l1 x5_1).f2)) || (!(((rd_T45 l0 x5_1).f3) == ((rd_T45 l1 x5_1).f3)) || (!(((rd_T45 l0 x5_1).f4) == ((rd_T45 l1 x5_1).f4)) || (!((((rd_T45 l0 x5_1).f5).toList) == (((rd_T45 l1 x5_1).f5).toList)) || (!((((rd_T45 l0 x5_1).f6).toList) == (((rd_T45 l1 x5_1).f6).toList)))))))))=false:=by simpa using c7
      clear c7
      have H':=am H
      clear H
      have p627:0 <= (x5_1:Int):=oz
      have q627:x5_1<(l0.length:Int):=oz
      obtain ⟨ad627,e627,hx627_0,hx627_1,hx627_2,hx627_3,hx627_4,hx627_5,hx627_6⟩:=at_T45 HR0.out x5_1 p627 q627
      cases e627
      replace p627:=eq_true p627
      replace q627:=eq_true q627
      have p628:0 <= (x5_1:Int):=oz
      have q628:x5_1<(l1.length:Int):=oz
      obtain ⟨ad628,e628,hx628_0,hx628_1,hx628_2,hx628_3,hx628_4,hx628_5,hx628_6⟩:=at_T45 HR1.out x5_1 p628 q628
      cases e628
      replace p628:=eq_true p628
      replace q628:=eq_true q628
      go_wp2
      repeat (go_quiet (fail);try go_wp2)
      go_roundg k1
      case measure=>have:=HK1.out;omega
      case rel=>exact ⟨(wrap64 (x5_1+1)),ez,H',⟨by have:=HK1.out;omega⟩,dz⟩
    ·rw [if_neg c4] at H
     have c4b0:=decide_eq_false c4
     clear c4
     obtain rfl:=Option.some.inj H
     go_wp2
     repeat (go_quiet (fail);try go_wp2)
     go_ret
     exact ⟨e2z,dz⟩
 ·rw [if_neg c3] at H
  have c3b0:((l0.length:Int) == (l1.length:Int))=false:=beq_eq_false_iff_ne.mpr c3
  have c3b1:((l0.length:Int) != (l1.length:Int))=true:=bne_iff_ne.mpr c3
  have c3b2:(l0.length == l1.length)=false:=by first|simpa using c3|(simp at c3 ⊢;omega)
  obtain rfl:=Option.some.inj H
  go_enter Tryz.func42,Tryz.ntmps42
  go_wp2
  repeat (go_quiet (fail);try go_wp2)
  go_ret
  exact ⟨e2z,dz⟩
end Go.Proofs.YthmpgocaoccnaaaGreatDoor.PFnFresh
