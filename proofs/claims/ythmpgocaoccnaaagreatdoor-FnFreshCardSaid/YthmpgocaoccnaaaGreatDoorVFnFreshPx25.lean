/- PFnFreshx25, of the words and walks that the law FnFresh needs; made by this session's program out of printed texts. -/
import Derived.Test.YthmpgocaoccnaaaGreatDoorVFnFreshPx0
import Derived.Test.YthmpgocaoccnaaaGreatDoorVFnFreshPx18
import Derived.Test.YthmpgocaoccnaaaGreatDoorVFnFreshPx19
import Derived.Test.YthmpgocaoccnaaaGreatDoorVFnFreshPx20
import Derived.Test.YthmpgocaoccnaaaGreatDoorVFnFreshPx23
import Derived.Test.YthmpgocaoccnaaaGreatDoorVFnFreshPx24
namespace Go.Proofs.YthmpgocaoccnaaaGreatDoor.PFnFresh
open Go.RowKit Go.Proofs.YthmpgocaoccnaaaGreatDoorW.PrintWords Go.Proofs.YthmpgocaoccnaaaGreatDoorW.PrintLast Go.Proofs.YthmpgocaoccnaaaGreatDoorW.PrintMore
attribute [local go_sem] max2_int min2_int max_two min_two max_three min_three max_four min_four
set_option linter.unusedVariables false
set_option linter.unusedSimpArgs false
mutual
def spec_Canon.l0:Nat -> List (S45) -> List (S45) -> List ByteArray -> List (S30) -> Int -> Int -> Option ((List (S45)))
 | 0,_,_,_,_,_,_=>none
 | k+1,x0,x3,x4,x5,x6,x7=>if x7<(x5.length:Int) then (spec_Canon.l1 k x0 x3 x4 x5 x6 x7) else (some x3)
def spec_Canon.l1:Nat -> List (S45) -> List (S45) -> List ByteArray -> List (S30) -> Int -> Int -> Option ((List (S45)))
 | 0,_,_,_,_,_,_=>none
 | k+1,x0,x3,x4,x5,x6,x7=>(spec_FreshName.f k x6).bind fun t776=>((spec_l7HasText.f k x4 t776).bind fun t777=>(if t777=true then (spec_Canon.l1 k x0 x3 x4 x5 (wrap64 (x6+1)) x7) else (if 0 <= x7 then (if x7<(x5.length:Int) then ((spec_UsesOf.f k x0 ((rd_T30 x5 x7).f0) ((rd_T30 x5 x7).f1)).bind fun t779=>((spec_FreshName.f k x6).bind fun t783=>((spec_l7Set.f k x3 t779 ((rd_T30 x5 x7).f0) ((rd_T30 x5 x7).f1) t783).bind fun t784=>(spec_Canon.l0 k x0 t784 x4 x5 (wrap64 (x6+1)) (wrap64 (x7+1)))))) else (none)) else (none))))
end
def spec_Canon.f (k:Nat) (l0:List (S45)):Option ((List (S45))):=(some (([]:List (S45)):List (S45))).bind fun y760=>(if y760.length+l0.length<1954687338268 then ((spec_NodesOk.f k l0).bind fun t766=>(if t766=true then ((spec_FreeNames.f k l0).bind fun t770=>((spec_Sites.f k l0).bind fun t773=>(spec_Canon.l0 k l0 (y760++l0) t770 t773 0 0))) else (some (([]:List (S45)))))) else (none))
theorem spec_Canon.mono_l:∀ k,(∀ y0 y1 y2 y3 y4 y5,LeO (spec_Canon.l0 k y0 y1 y2 y3 y4 y5) (spec_Canon.l0 (k+1) y0 y1 y2 y3 y4 y5)) /\ (∀ y0 y1 y2 y3 y4 y5,LeO (spec_Canon.l1 k y0 y1 y2 y3 y4 y5) (spec_Canon.l1 (k+1) y0 y1 y2 y3 y4 y5))
 | 0=>⟨fun _ _ _ _ _ _ r h=>by simp [spec_Canon.l0] at h,fun _ _ _ _ _ _ r h=>by simp [spec_Canon.l1] at h⟩
 | k+1=>by
  obtain ⟨ih0,ih1⟩:=spec_Canon.mono_l k
  refine ⟨?_,?_⟩
  ·intro y0 y1 y2 y3 y4 y5
   unfold spec_Canon.l0
   with_reducible repeat' first|exact ih0 _ _ _ _ _ _|exact ih1 _ _ _ _ _ _|exact spec_FreeNames.mono _ _|exact spec_FreshName.mono _ _|exact spec_NodesOk.mono _ _|exact spec_Sites.mono _ _|exact spec_UsesOf.mono _ _ _ _|exact spec_l7HasText.mono _ _ _|exact spec_l7Set.mono _ _ _ _ _ _|exact lrz _|exact lnz _|refine liz ?_ ?_|refine lbz ?_ fun _=>?_
  ·intro y0 y1 y2 y3 y4 y5
   unfold spec_Canon.l1
   with_reducible repeat' first|exact ih0 _ _ _ _ _ _|exact ih1 _ _ _ _ _ _|exact spec_FreeNames.mono _ _|exact spec_FreshName.mono _ _|exact spec_NodesOk.mono _ _|exact spec_Sites.mono _ _|exact spec_UsesOf.mono _ _ _ _|exact spec_l7HasText.mono _ _ _|exact spec_l7Set.mono _ _ _ _ _ _|exact lrz _|exact lnz _|refine liz ?_ ?_|refine lbz ?_ fun _=>?_
theorem spec_Canon.mono:∀ a0 k,LeO (spec_Canon.f k a0) (spec_Canon.f (k+1) a0):=by
 intro a0 k
 obtain ⟨ih0,ih1⟩:=spec_Canon.mono_l k
 unfold spec_Canon.f
 with_reducible repeat' first|exact ih0 _ _ _ _ _ _|exact ih1 _ _ _ _ _ _|exact spec_FreeNames.mono _ _|exact spec_FreshName.mono _ _|exact spec_NodesOk.mono _ _|exact spec_Sites.mono _ _|exact spec_UsesOf.mono _ _ _ _|exact spec_l7HasText.mono _ _ _|exact spec_l7Set.mono _ _ _ _ _ _|exact lrz _|exact lnz _|refine liz ?_ ?_|refine lbz ?_ fun _=>?_
def spec_Canon.T12:Bool × List (List Nat × List Nat):=(true,[([],[]),([],[]),([],[]),([],[]),([2,3],[2,3]),([4],[4]),([1,5],[1,5]),([],[]),([],[]),([7,8],[7,8]),([9],[9]),([],[]),([11,6],[11]),([0,6,10,12,12],[0,6,10,12]),([13,13,0,1,2,3,4,5,6,7,8,9,10,11,12,13],[0,13])])
def spec_Canon.B12:List Nat:=[0,0,0,0,12,28,62,0,0,384,896,0,2174,8191,16383]
theorem spec_Canon.tab12:rtab .any (opsOf Tryz.f43 12)=spec_Canon.T12:=by kernel_rfl
theorem spec_Canon.bits12:waitsOk spec_Canon.T12.2 spec_Canon.B12=true:=by kernel_rfl
set_option maxHeartbeats 8000000 in
set_option maxRecDepth 100000 in
theorem spec_Canon.calls (k:Nat) (A0:Option Addr) (c0:Nat) (l0:List (S45)) (r:List (S45)) (w:World) (hr0:Kd.C k45 w A0 l0.length l0) (hc0:l0.length <= c0) (h:spec_Canon.f k l0=some r) :
  Calls Tryz.prog 43 #[.slice A0 l0.length c0] w fun e w'=>∃ v0_:Value,e=.returned (v0_) /\ Kd.R k45 45 w' w.heap.size (fun _=>True) v0_ r /\ Below w.heap.size w w':=by
 have hu30:=Tryz.underlying30
 have HR0:=am hr0
 have HC0:=am hc0
 clear hr0 hc0
 have HB:=am (Below.refl w.heap.size w)
 have H:((some (([]:List (S45)):List (S45))).bind fun y760=>(if y760.length+l0.length<1954687338268 then ((spec_NodesOk.f k l0).bind fun t766=>(if t766=true then ((spec_FreeNames.f k l0).bind fun t770=>((spec_Sites.f k l0).bind fun t773=>(spec_Canon.l0 k l0 (y760++l0) t770 t773 0 0))) else (some (([]:List (S45)))))) else (none)))=some r:=h
 clear h
 obtain ⟨y760,hy760⟩:∃ y_:List (S45),y_=(([]:List (S45))):=⟨_,rfl⟩
 replace H:(if y760.length+l0.length<1954687338268 then ((spec_NodesOk.f k l0).bind fun t766=>(if t766=true then ((spec_FreeNames.f k l0).bind fun t770=>((spec_Sites.f k l0).bind fun t773=>(spec_Canon.l0 k l0 (y760++l0) t770 t773 0 0))) else (some (([]:List (S45)))))) else (none))=some r:=yz hy760 H
 have Ny760:=am hy760
 clear hy760
 replace H:=iz H
 obtain ⟨c2,H⟩:=H
 have LMc2:=am c2
 clear c2
 obtain ⟨y763,hy763⟩:∃ y_:List (S45),y_=(y760++l0):=⟨_,rfl⟩
 replace H:((spec_NodesOk.f k l0).bind fun t766=>(if t766=true then ((spec_FreeNames.f k l0).bind fun t770=>((spec_Sites.f k l0).bind fun t773=>(spec_Canon.l0 k l0 y763 t770 t773 0 0))) else (some (([]:List (S45))))))=some r:=yz hy763 H
 have Ny763:=am hy763
 clear hy763
 replace H:=bi H
 obtain ⟨t766,A30,H⟩:=H
 try dsimp only at H
 have A3:=am A30
 clear A30
 by_cases c4:t766=true
 ·subst c4
  have H1:=hp H
  clear H
  have H:=H1
  clear H1
  replace H:=bi H
  obtain ⟨t770,A50,H⟩:=H
  try dsimp only at H
  have A5:=am A50
  clear A50
  replace H:=bi H
  obtain ⟨t773,A60,H⟩:=H
  try dsimp only at H
  have A6:=am A60
  clear A60
  have H':=am H
  clear H
  go_enter Tryz.func43,Tryz.ntmps43
  go_wp2_with (first|((with_reducible refine gate_dst (N:=8) rfl ?_);refine Kd.R_lit k45 _ 45 ?hg (N:=8) ?hd (xs:=([]:List (S45))) (inner:=[]) (ok:=fun _=>True) (okp:=fun _=>True) ?hr ?hp (fun _ hk=>hk) trivial (Below.refl _ _) (Nat.le_refl _) (by simp) ?_;(case hd=>rfl);(case hg=>rfl);(case hr=>exact vz);(case hp=>exact (Reps.none _ _));intro v761 w7 ho8 hb hg_ hnew_;clear hg_ hnew_;(first|rw [<- Ny760.out] at ho8|(simp only [Int.reduceToNat] at ho8;rw [<- Ny760.out] at ho8));have HO762:=am (Kd.R_lower ho8 (below_size (bz0 HB.out)));replace HB:=bs (bz0 HB.out) hb;clear hb ho8)|((with_reducible refine gate_builtin (b:=.append) (xs:=#[.tmp 8,.tmp 9]) rfl ?_);at_builtin;refine Kd.R_append_rows k45 (w0:=w) w.heap.size rfl (.tmp 8) (.tmp 9) 26 45 (.agg #[(.int .i64 0),(.int .i64 0),(.int .i64 0),(.int .i64 0),(.int .i64 0),(.string ⟨#[]⟩),(.string ⟨#[]⟩)]) 72 rfl Tryz.underlying26 info45 rfl (by decide) (by omega) v761 y760 l0 _ _ _ (fun _=>True) (fun _=>False) rfl rfl ?aO ?aR (fun _ _ h=>h) (fun _ h=>h.elim) ?aF ?aB ?aS ?aL ?_;(case aR=>exact cz (Kd.C_below HR0.out HB.out));(case aB=>exact (bz0 HB.out));(case aF=>exact (fun _ _=>trivial));(case aO=>exact (rz HO762.out));(case aS=>exact (below_size (bz0 HB.out)));(case aL=>have:=LMc2.out;omega);intro v764 w9 ho hb hg hat;rw [<- Ny763.out] at ho;have n0_:=am (hb);have n1_:=am (ho);clear HB;clear HO762;have HB:=n0_;have HO765:=n1_;clear n0_ n1_;clear ho hb hg hat)|((with_reducible refine gate_callee (f:=15) rfl ?_);refine goesL_ (some 12) rfl rfl Tryz.func15 kr rfl #[.slice A0 l0.length c0] rfl lz ?_;(with_reducible refine (spec_NodesOk.calls k _ _ l0 true _ ?side1 ?side2 A3.out).mono ?_);(case side1=>exact cz (Kd.C_below HR0.out HB.out));(case side2=>exact HC0.out);rintro e w10 ⟨rfl,hb⟩;refine ⟨_,rfl,?_⟩;replace HO765:=qz HO765 hb;replace HB:=bs (bz0 HB.out) hb;(try clear hb);(try clear hk);(try clear hi))|((with_reducible refine gate_callee (f:=62) rfl ?_);refine goesL_ (some 16) rfl rfl Tryz.func62 kr rfl #[.slice A0 l0.length c0] rfl lz ?_;(with_reducible refine (spec_FreeNames.calls k _ _ l0 t770 _ ?side1 ?side2 A5.out).mono ?_);(case side1=>exact cz (Kd.C_below HR0.out HB.out));(case side2=>exact HC0.out);rintro e w11 ⟨v771,rfl,ho0,hb⟩;refine ⟨_,rfl,?_⟩;replace HO765:=qz HO765 hb;have HO772:=am (Kd.R_lower ho0 (below_size (bz0 HB.out)));replace HB:=bs (bz0 HB.out) hb;(try clear hb);(try clear hk);(try clear ho0))|((with_reducible refine gate_callee (f:=16) rfl ?_);refine goesL_ (some 18) rfl rfl Tryz.func16 kr rfl #[.slice A0 l0.length c0] rfl lz ?_;(with_reducible refine (spec_Sites.calls k _ _ l0 t773 _ ?side1 ?side2 A6.out).mono ?_);(case side1=>exact cz (Kd.C_below HR0.out HB.out));(case side2=>exact HC0.out);rintro e w12 ⟨v774,rfl,ho0,hb⟩;refine ⟨_,rfl,?_⟩;replace HO765:=qz HO765 hb;replace HO772:=qz HO772 hb;have HO775:=am (Kd.R_lower ho0 (below_size (bz0 HB.out)));replace HB:=bs (bz0 HB.out) hb;(try clear hb);(try clear hk);(try clear ho0)))
  (try simp only [Act.put,sz1,sz2,sz3])
  go_loopg [3,6,7] k (fun kq v3 v6 v7 w'=>∃ (x3_1:List (S45)) (x6_1:Int) (x7_1:Int),v6=.int .i64 x6_1 /\ v7=.int .i64 x7_1 /\ Aside0 (spec_Canon.l0 kq l0 x3_1 t770 t773 x6_1 x7_1=some r) /\ Aside0 (kq <= k) /\ Aside0 (Kd.R k45 45 w' w.heap.size (fun _=>True) v3 x3_1) /\ Aside0 (Kd.R Kd.string 9 w' w.heap.size (fun _=>True) v771 t770) /\ Aside0 (Kd.R k30 30 w' w.heap.size (fun _=>True) v774 t773) /\ Aside0 (Below w.heap.size w w'))
  case atStart=>exact ⟨(y763),(0),(0),ez,ez,H',⟨Nat.le_refl _⟩,⟨by refine rq ?_;exact HO765.out⟩,⟨by refine rq ?_;exact HO772.out⟩,⟨by refine rq ?_;exact HO775.out⟩,⟨(bz0 HB.out)⟩⟩
  case round =>
   clear H'
   try clear c1
   try clear c2
   try clear p2
   try clear c4
   try clear c6
   obtain ⟨x3_1,x6_1,x7_1,rfl,rfl,HA,HK1,HO_3,HO_4,HO_5,HB⟩:=hrel
   cases gk with
   | zero=>exact absurd HA.out (by simp [spec_Canon.l0])
   | succ k1 =>
    have H:=HA.out
    clear HA
    simp only [spec_Canon.l0] at H
    by_cases c13:x7_1<(t773.length:Int)
    ·rw [if_pos c13] at H
     have c13b0:=decide_eq_true c13
     clear c13
     have H':=am H
     clear H
     obtain ⟨Ao14,co14,eo14⟩:=Kd.R_slice HO_5.out
     subst eo14
     go_wp2
     go_loopg [6] k1 (fun kq v6 w'=>∃ (x6_2:Int),v6=.int .i64 x6_2 /\ Aside0 (spec_Canon.l1 kq l0 x3_1 t770 t773 x6_2 x7_1=some r) /\ Aside0 (kq <= k1) /\ Aside0 (Kd.R k45 45 w' w.heap.size (fun _=>True) u3 x3_1) /\ Aside0 (Kd.R Kd.string 9 w' w.heap.size (fun _=>True) v771 t770) /\ Aside0 (Kd.R k30 30 w' w.heap.size (fun _=>True) (.slice Ao14 t773.length co14) t773) /\ Aside0 (Below w.heap.size w w'))
     case atStart=>exact ⟨(x6_1),ez,H',⟨Nat.le_refl _⟩,⟨by refine rq ?_;exact HO_3.out⟩,⟨by refine rq ?_;exact HO_4.out⟩,⟨by refine rq ?_;exact HO_5.out⟩,⟨(bz0 HB.out)⟩⟩
     case round =>
      clear H'
      try clear c1
      try clear c2
      try clear p2
      try clear c4
      try clear c6
      try clear c13
      try clear c13b0
      try clear p2
      obtain ⟨x6_2,rfl,HA,HK2,HO_3,HO_4,HO_5,HB⟩:=hrel
      cases gk with
      | zero=>exact absurd HA.out (by simp [spec_Canon.l1])
      | succ k2 =>
       have H:=HA.out
       clear HA
       simp only [spec_Canon.l1] at H
       replace H:=bi H
       obtain ⟨t776,A150,H⟩:=H
       try dsimp only at H
       have A15:=am A150
       clear A150
       replace H:=bi H
       obtain ⟨t777,A160,H⟩:=H
       try dsimp only at H
       have A16:=am A160
       clear A160
       by_cases c17:t777=true
       ·subst c17
        have H1:=hp H
        clear H
        have H:=H1
        clear H1
        have H':=am H
        clear H
        go_wp2_with (first|((with_reducible refine gate_callee (f:=64) rfl ?_);refine goesL_ (some 27) rfl rfl Tryz.func64 kr rfl #[.int .i64 x6_2] rfl lz ?_;(with_reducible refine (spec_FreshName.calls k2 x6_2 t776 _ A15.out).mono ?_);rintro e w18 ⟨rfl,hb⟩;refine ⟨_,rfl,?_⟩;replace HO_3:=qz HO_3 hb;replace HO_4:=qz HO_4 hb;replace HO_5:=qz HO_5 hb;replace HB:=bs (bz0 HB.out) hb;(try clear hb);obtain ⟨Ao19,co19,eo19⟩:=Kd.R_slice HO_4.out;subst eo19)|((with_reducible refine gate_callee (f:=63) rfl ?_);refine goesL_ (some 28) rfl rfl Tryz.func63 kr rfl #[.slice Ao19 t770.length co19,.string t776] rfl lz ?_;(with_reducible refine (spec_l7HasText.calls k2 _ _ t770 t776 true _ ?side1 ?side2 A16.out).mono ?_);(case side1=>exact cz (Kd.R_reads' HO_4.out).2.2);(case side2=>exact (Kd.R_reads' HO_4.out).2.1);rintro e w' ⟨rfl,⟨nd,rfl⟩⟩;refine ⟨_,rfl,?_⟩))
        go_roundg k2
        case measure=>have:=HK1.out;have:=HK2.out;omega
        case rel=>exact ⟨(wrap64 (x6_2+1)),ez,H',⟨by have:=HK1.out;have:=HK2.out;omega⟩,⟨by refine rq ?_;exact HO_3.out⟩,⟨by refine rq ?_;exact HO_4.out⟩,⟨by refine rq ?_;exact HO_5.out⟩,⟨(bz0 HB.out)⟩⟩
       ·replace c17:=Bool.eq_false_iff.mpr c17
        subst c17
        have H1:=hq H
        clear H
        have H:=H1
        clear H1
        replace H:=iz H
        obtain ⟨c20,H⟩:=H
        have c20b0:=decide_eq_true c20
        clear c20
        replace H:=iz H
        obtain ⟨c21,H⟩:=H
        have c21b0:=decide_eq_true c21
        clear c21
        replace H:=bi H
        obtain ⟨t779,A220,H⟩:=H
        try dsimp only at H
        have A22:=am A220
        clear A220
        replace H:=bi H
        obtain ⟨t783,A230,H⟩:=H
        try dsimp only at H
        have A23:=am A230
        clear A230
        replace H:=bi H
        obtain ⟨t784,A240,H⟩:=H
        try dsimp only at H
        have A24:=am A240
        clear A240
        have H':=am H
        clear H
        try go_wp2_with (first|((with_reducible refine gate_callee (f:=64) rfl ?_);refine goesL_ (some 27) rfl rfl Tryz.func64 kr rfl #[.int .i64 x6_2] rfl lz ?_;(with_reducible refine (spec_FreshName.calls k2 x6_2 t776 _ A15.out).mono ?_);rintro e w25 ⟨rfl,hb⟩;refine ⟨_,rfl,?_⟩;replace HO_3:=qz HO_3 hb;replace HO_4:=qz HO_4 hb;replace HO_5:=qz HO_5 hb;replace HB:=bs (bz0 HB.out) hb;(try clear hb);obtain ⟨Ao26,co26,eo26⟩:=Kd.R_slice HO_4.out;subst eo26)|((with_reducible refine gate_callee (f:=63) rfl ?_);refine goesL_ (some 28) rfl rfl Tryz.func63 kr rfl #[.slice Ao26 t770.length co26,.string t776] rfl lz ?_;(with_reducible refine (spec_l7HasText.calls k2 _ _ t770 t776 false _ ?side1 ?side2 A16.out).mono ?_);(case side1=>exact cz (Kd.R_reads' HO_4.out).2.2);(case side2=>exact (Kd.R_reads' HO_4.out).2.1);rintro e w' ⟨rfl,⟨nd,rfl⟩⟩;refine ⟨_,rfl,?_⟩))
        (try (rw [drewN_self w25];generalize hq_:World.drewN w25 _=w25;have n0_:Aside0 (Kd.R k45 45 w25 w.heap.size (fun _=>True) u3 x3_1):=⟨by rw [<- hq_];exact (rz HO_3.out)⟩;have n1_:Aside0 (Kd.R Kd.string 9 w25 w.heap.size (fun _=>True) (.slice Ao26 t770.length co26) t770):=⟨by rw [<- hq_];exact (rz HO_4.out)⟩;have n2_:Aside0 (Kd.R k30 30 w25 w.heap.size (fun _=>True) (.slice Ao14 t773.length co14) t773):=⟨by rw [<- hq_];exact (rz HO_5.out)⟩;have n3_:Aside0 (Below w.heap.size w w25):=⟨by rw [<- hq_];exact (bz0 HB.out)⟩;clear HO_3 HO_4 HO_5 HB hq_;have HO_3:=n0_;have HO_4:=n1_;have HO_5:=n2_;have HB:=n3_;clear n0_ n1_ n2_ n3_))
        have n0_:=am (Kd.R_drew HO_3.out)
        have n1_:=am (Kd.R_drew HO_4.out)
        have n2_:=am (Kd.R_drew HO_5.out)
        have n3_:=am (below_drew1 HB.out)
        clear HO_3
        clear HO_4
        clear HO_5
        clear HB
        have HO_3:=n0_
        have HO_4:=n1_
        have HO_5:=n2_
        have HB:=n3_
        clear n0_ n1_ n2_ n3_
        have p778:0 <= (x7_1:Int):=oz
        have q778:x7_1<(t773.length:Int):=oz
        obtain ⟨ad778,e778,hx778_0,hx778_1⟩:=at_T30 (Kd.R_reads' HO_5.out).2.2 x7_1 p778 q778
        cases e778
        replace p778:=eq_true p778
        replace q778:=eq_true q778
        have p782:0 <= (x7_1:Int):=oz
        have q782:x7_1<(t773.length:Int):=oz
        obtain ⟨ad782,e782,hx782_0,hx782_1⟩:=at_T30 (Kd.R_reads' HO_5.out).2.2 x7_1 p782 q782
        obtain rfl:ad778=ad782:=(by injection e782)
        replace p782:=eq_true p782
        replace q782:=eq_true q782
        refine start_ (n:=15) (S:=fun w'=>w'.cell? (ad778.add ((x7_1).toNat * 2))=some (.int .i64 ((rd_T30 t773 x7_1).f0)) /\ w'.cell? ⟨(ad778.add ((x7_1).toNat * 2)).block,(ad778.add ((x7_1).toNat * 2)).off+1,none⟩=some (.int .i64 ((rd_T30 t773 x7_1).f1)) /\ w'.cell? (ad778.add ((x7_1).toNat * 2))=some (.int .i64 ((rd_T30 t773 x7_1).f0)) /\ w'.cell? ⟨(ad778.add ((x7_1).toNat * 2)).block,(ad778.add ((x7_1).toNat * 2)).off+1,none⟩=some (.int .i64 ((rd_T30 t773 x7_1).f1))) (ds:=[]) (mk_ 0 15) kr rfl rfl ⟨hx778_0,hx778_1,hx782_0,hx782_1⟩ (fun hHeld=>?_);refine with_tabW spec_Canon.tab12 spec_Canon.bits12 (fun HT_ HW_=>?_)
        generalize w25.drew=w27 at HO_3 HO_4 HO_5 HB hx778_0 hx778_1 hx782_0 hx782_1 hHeld ⊢
        refine pv 0 31 (mk_ 1 14) HT_ rfl rfl ?_
        refine pv 1 32 (mk_ 2 13) HT_ rfl rfl ?_
        refine pv 2 33 (mk_ 3 12) HT_ rfl rfl ?_
        refine pv 3 34 (mk_ 4 11) HT_ rfl rfl ?_
        refine pv 4 35 (mk_ 5 10) HT_ rfl rfl ?_
        refine pv 7 38 (bm_ 15 159) HT_ rfl rfl ?_
        refine pv 8 39 (bm_ 15 415) HT_ rfl rfl ?_
        refine pv 9 40 (bm_ 15 927) HT_ rfl rfl ?_
        refine pv 11 42 (bm_ 15 2975) HT_ rfl rfl ?_
        refine tv4 5 36 (bm_ 15 3007) HT_ HW_ rfl rfl hHeld ?_
        refine tv4 10 41 (bm_ 15 4031) HT_ HW_ rfl rfl hHeld ?_
        refine one_ (i:=6) (N:=some 37) (mk_ 12 3) rfl rfl (one_of HT_.out kr) (by decide) (fun K hK=>?_)
        refine goes_ Tryz.func28 kr rfl #[.slice A0 l0.length c0,.agg #[.int .i64 ((rd_T30 t773 x7_1).f0),.int .i64 ((rd_T30 t773 x7_1).f1)]] (by rfl) rfl rfl lz ?_
        with_reducible refine (spec_UsesOf.calls k2 _ _ l0 ((rd_T30 t773 x7_1).f0) ((rd_T30 t773 x7_1).f1) t779 _ ?side1 ?side2 A22.out).mono ?_
        (case side1=>exact cz (Kd.C_below HR0.out HB.out))
        (case side2=>exact HC0.out)
        rintro e w28 ⟨v780,rfl,ho0,hb⟩
        have HS0_:=(hb.cell (World.block_lt_of_cell? _ _ (hHeld.1))).trans (hHeld.1)
        have HS1_:=(hb.cell (World.block_lt_of_cell? _ _ (hHeld.2.1))).trans (hHeld.2.1)
        have HS2_:=(hb.cell (World.block_lt_of_cell? _ _ (hHeld.2.2.1))).trans (hHeld.2.2.1)
        have HS3_:=(hb.cell (World.block_lt_of_cell? _ _ (hHeld.2.2.2))).trans (hHeld.2.2.2)
        refine ⟨_,rfl,?_⟩
        have n0_:=qz HO_3 hb
        have n1_:=qz HO_4 hb
        have n2_:=qz HO_5 hb
        have n3_:=am (Kd.R_lower ho0 (below_size (bz0 HB.out)))
        have n4_:=am (below_step (bz0 HB.out) hb)
        clear HO_3
        clear HO_4
        clear HO_5
        clear HB
        have HO_3:=n0_
        have HO_4:=n1_
        have HO_5:=n2_
        have HO781:=n3_
        have HB:=n4_
        clear n0_ n1_ n2_ n3_ n4_
        (try clear hb)
        (try clear hb2)
        (try clear hk)
        (try clear hi)
        (try clear ho0)
        refine hK.out _ _ ⟨HS0_,HS1_,HS2_,HS3_⟩ (fun hHeld=>?_)
        clear hK K
        refine norm_ (a':=?_) ?_ ?_
        rotate_left
        ·show Act.put _ (some 37) _=_
         simp only [Act.put,sz1,sz2,sz3,i64_w,i32_w]
         rfl
        refine one_ (i:=12) (N:=some 43) (mk_ 13 2) rfl rfl (one_of HT_.out kr) (by decide) (fun K hK=>?_)
        refine goes_ Tryz.func64 kr rfl #[.int .i64 x6_2] (by rfl) rfl rfl lz ?_
        with_reducible refine (spec_FreshName.calls k2 x6_2 t783 _ A23.out).mono ?_
        rintro e w29 ⟨rfl,hb⟩
        have HS0_:=(hb.cell (World.block_lt_of_cell? _ _ (hHeld.1))).trans (hHeld.1)
        have HS1_:=(hb.cell (World.block_lt_of_cell? _ _ (hHeld.2.1))).trans (hHeld.2.1)
        have HS2_:=(hb.cell (World.block_lt_of_cell? _ _ (hHeld.2.2.1))).trans (hHeld.2.2.1)
        have HS3_:=(hb.cell (World.block_lt_of_cell? _ _ (hHeld.2.2.2))).trans (hHeld.2.2.2)
        refine ⟨_,rfl,?_⟩
        have n0_:=qz HO_3 hb
        have n1_:=qz HO_4 hb
        have n2_:=qz HO_5 hb
        have n3_:=qz HO781 hb
        have n4_:=am (below_step (bz0 HB.out) hb)
        clear HO_3
        clear HO_4
        clear HO_5
        clear HO781
        clear HB
        have HO_3:=n0_
        have HO_4:=n1_
        have HO_5:=n2_
        have HO781:=n3_
        have HB:=n4_
        clear n0_ n1_ n2_ n3_ n4_
        (try clear hb)
        (try clear hb2)
        (try clear hk)
        (try clear hi)
        obtain ⟨Ao30,co30,eo30⟩:=Kd.R_slice HO_3.out
        (first|subst eo30|(injection eo30 with f1_ f2_ f3_;have f4_:=f1_.symm;have f5_:=f3_.symm;clear f1_ f2_ f3_;subst f4_;subst f5_))
        obtain ⟨Ao31,co31,eo31⟩:=Kd.R_slice HO781.out
        (first|subst eo31|(injection eo31 with f1_ f2_ f3_;have f4_:=f1_.symm;have f5_:=f3_.symm;clear f1_ f2_ f3_;subst f4_;subst f5_))
        refine hK.out _ _ ⟨HS0_,HS1_,HS2_,HS3_⟩ (fun hHeld=>?_)
        clear hK K
        refine norm_ (a':=?_) ?_ ?_
        rotate_left
        ·show Act.put _ (some 43) _=_
         simp only [Act.put,sz1,sz2,sz3,i64_w,i32_w]
         rfl
        refine one_ (i:=13) (N:=some 44) (mk_ 14 1) rfl rfl (one_of HT_.out kr) (by decide) (fun K hK=>?_)
        refine goes_ Tryz.func27 kr rfl #[.slice Ao30 x3_1.length co30,.slice Ao31 t779.length co31,.agg #[.int .i64 ((rd_T30 t773 x7_1).f0),.int .i64 ((rd_T30 t773 x7_1).f1)],.string t783] (by rfl) rfl rfl lz ?_
        with_reducible refine (spec_l7Set.calls k2 (fun k_=>some k_=(.slice Ao30 x3_1.length co30:Value).ownBlock) (.slice Ao30 x3_1.length co30) x3_1 _ _ t779 ((rd_T30 t773 x7_1).f0) ((rd_T30 t773 x7_1).f1) t783 t784 w _ ?side1 ?side2 ?side3 ?side4 A24.out).mono ?_
        (case side1=>repeat (first|(with_reducible first|exact HB.out|apply below_alloc|apply pw_below_drewN|apply below_drew1)|exact HB.out))
        (case side2=>exact Kd.R_tight rfl HO_3.out)
        (case side3=>exact Kd.C_kept_own ((Kd.R_apart' HO781.out (Kd.R_typed HO_3.out) (by decide))) (fun k_ hk_ hs_=>by with_reducible first|exact absurd hs_ hk_.2|exact absurd hs_ hk_|exact absurd hs_ hk_.1|exact absurd hs_ hk_.2|exact absurd hs_ hk_.1.1|exact absurd hs_ hk_.1.2))
        (case side4=>exact (Kd.R_reads' HO781.out).2.1)
        rintro e w32 ⟨v785,rfl,ho0,hb,hkp⟩
        have HS0_:=cell_kept (hHeld.1) hkp (by first|(rw [add_block];exact (fun hs_=>((((Kd.R_apart' HO_5.out (Kd.R_typed HO_3.out) (by decide))).1 _ rfl).2) hs_))|(show ¬ _;simp only [add_block];exact (fun hs_=>((((Kd.R_apart' HO_5.out (Kd.R_typed HO_3.out) (by decide))).1 _ rfl).2) hs_))|exact (fun hs_=>((((Kd.R_apart' HO_5.out (Kd.R_typed HO_3.out) (by decide))).1 _ rfl).2) hs_))
        have HS1_:=cell_kept (hHeld.2.1) hkp (by first|(rw [add_block];exact (fun hs_=>((((Kd.R_apart' HO_5.out (Kd.R_typed HO_3.out) (by decide))).1 _ rfl).2) hs_))|(show ¬ _;simp only [add_block];exact (fun hs_=>((((Kd.R_apart' HO_5.out (Kd.R_typed HO_3.out) (by decide))).1 _ rfl).2) hs_))|exact (fun hs_=>((((Kd.R_apart' HO_5.out (Kd.R_typed HO_3.out) (by decide))).1 _ rfl).2) hs_))
        have HS2_:=cell_kept (hHeld.2.2.1) hkp (by first|(rw [add_block];exact (fun hs_=>((((Kd.R_apart' HO_5.out (Kd.R_typed HO_3.out) (by decide))).1 _ rfl).2) hs_))|(show ¬ _;simp only [add_block];exact (fun hs_=>((((Kd.R_apart' HO_5.out (Kd.R_typed HO_3.out) (by decide))).1 _ rfl).2) hs_))|exact (fun hs_=>((((Kd.R_apart' HO_5.out (Kd.R_typed HO_3.out) (by decide))).1 _ rfl).2) hs_))
        have HS3_:=cell_kept (hHeld.2.2.2) hkp (by first|(rw [add_block];exact (fun hs_=>((((Kd.R_apart' HO_5.out (Kd.R_typed HO_3.out) (by decide))).1 _ rfl).2) hs_))|(show ¬ _;simp only [add_block];exact (fun hs_=>((((Kd.R_apart' HO_5.out (Kd.R_typed HO_3.out) (by decide))).1 _ rfl).2) hs_))|exact (fun hs_=>((((Kd.R_apart' HO_5.out (Kd.R_typed HO_3.out) (by decide))).1 _ rfl).2) hs_))
        refine ⟨_,rfl,?_⟩
        have n0_:=am (Kd.R_mono (ok':=fun k_=>True) (Kd.R_keptB ((Kd.R_apart' HO_4.out (Kd.R_typed HO_3.out) (by decide))) hkp (fun k_ hk_ hs_=>by with_reducible first|exact absurd hs_ hk_.2|exact absurd hs_ hk_|exact absurd hs_ hk_.1|exact absurd hs_ hk_.2|exact absurd hs_ hk_.1.1|exact absurd hs_ hk_.1.2)) (fun k_ hk_=>trivial))
        have n1_:=am (Kd.R_mono (ok':=fun k_=>True) (Kd.R_keptB ((Kd.R_apart' HO_5.out (Kd.R_typed HO_3.out) (by decide))) hkp (fun k_ hk_ hs_=>by with_reducible first|exact absurd hs_ hk_.2|exact absurd hs_ hk_|exact absurd hs_ hk_.1|exact absurd hs_ hk_.2|exact absurd hs_ hk_.1.1|exact absurd hs_ hk_.1.2)) (fun k_ hk_=>trivial))
        have n2_:=am (Kd.R_mono (ok':=fun k_=>True) (Kd.R_keptB ((Kd.R_apart' HO781.out (Kd.R_typed HO_3.out) (by decide))) hkp (fun k_ hk_ hs_=>by with_reducible first|exact absurd hs_ hk_.2|exact absurd hs_ hk_|exact absurd hs_ hk_.1|exact absurd hs_ hk_.2|exact absurd hs_ hk_.1.1|exact absurd hs_ hk_.1.2)) (fun k_ hk_=>trivial))
        have n3_:=am (Kd.R_mono (ok':=fun k_=>True) ho0 (fun k_ hk_=>trivial))
        have n4_:=am (hb)
        clear HO_4
        clear HO_5
        clear HO781
        clear HB
        clear HO_3
        have HO_4:=n0_
        have HO_5:=n1_
        have HO781:=n2_
        have HO786:=n3_
        have HB:=n4_
        clear n0_ n1_ n2_ n3_ n4_
        (try clear hb)
        (try clear hkp)
        (try clear ho0)
        refine hK.out _ _ ⟨HS0_,HS1_,HS2_,HS3_⟩ (fun hHeld=>?_)
        clear hK K
        refine norm_ (a':=?_) ?_ ?_
        rotate_left
        ·show Act.put _ (some 44) _=_
         simp only [Act.put,sz1,sz2,sz3,i64_w,i32_w]
         rfl
        refine pv 14 3 (mk_ 15 0) HT_ rfl rfl ?_
        refine done_ (done_of HT_.out kr) ?_
        try go_wp2
        go_roundg k2
        case measure=>have:=HK1.out;have:=HK2.out;omega
        case rel=>exact ⟨(t784),(wrap64 (x6_2+1)),(wrap64 (x7_1+1)),ez,ez,H',⟨by have:=HK1.out;have:=HK2.out;omega⟩,⟨by refine rq ?_;exact HO786.out⟩,⟨by refine rq ?_;exact HO_4.out⟩,⟨by refine rq ?_;exact HO_5.out⟩,⟨(bz0 HB.out)⟩⟩
    ·rw [if_neg c13] at H
     have c13b0:=decide_eq_false c13
     clear c13
     obtain rfl:=Option.some.inj H
     obtain ⟨Ao33,co33,eo33⟩:=Kd.R_slice HO_5.out
     subst eo33
     go_wp2
     go_ret
     exact ⟨_,gz,by refine rq ?_;exact HO_3.out,(bz0 HB.out)⟩
 ·replace c4:=Bool.eq_false_iff.mpr c4
  subst c4
  have H1:=hq H
  clear H
  have H:=H1
  clear H1
  obtain ⟨y767,hy767⟩:∃ y_:List (S45),y_=(([]:List (S45))):=⟨_,rfl⟩
  replace H:(some y767)=some r:=yz hy767 H
  have Ny767:=am hy767
  clear hy767
  obtain rfl:=Option.some.inj H
  go_enter Tryz.func43,Tryz.ntmps43
  go_wp2_with (first|((with_reducible refine gate_dst (N:=8) rfl ?_);refine Kd.R_lit k45 _ 45 ?hg (N:=8) ?hd (xs:=([]:List (S45))) (inner:=[]) (ok:=fun _=>True) (okp:=fun _=>True) ?hr ?hp (fun _ hk=>hk) trivial (Below.refl _ _) (Nat.le_refl _) (by simp) ?_;(case hd=>rfl);(case hg=>rfl);(case hr=>exact vz);(case hp=>exact (Reps.none _ _));intro v761 w34 ho35 hb hg_ hnew_;clear hg_ hnew_;(first|rw [<- Ny760.out] at ho35|(simp only [Int.reduceToNat] at ho35;rw [<- Ny760.out] at ho35));have HO762:=am (Kd.R_lower ho35 (below_size (bz0 HB.out)));replace HB:=bs (bz0 HB.out) hb;clear hb ho35)|((with_reducible refine gate_builtin (b:=.append) (xs:=#[.tmp 8,.tmp 9]) rfl ?_);at_builtin;refine Kd.R_append_rows k45 (w0:=w) w.heap.size rfl (.tmp 8) (.tmp 9) 26 45 (.agg #[(.int .i64 0),(.int .i64 0),(.int .i64 0),(.int .i64 0),(.int .i64 0),(.string ⟨#[]⟩),(.string ⟨#[]⟩)]) 72 rfl Tryz.underlying26 info45 rfl (by decide) (by omega) v761 y760 l0 _ _ _ (fun _=>True) (fun _=>False) rfl rfl ?aO ?aR (fun _ _ h=>h) (fun _ h=>h.elim) ?aF ?aB ?aS ?aL ?_;(case aR=>exact cz (Kd.C_below HR0.out HB.out));(case aB=>exact (bz0 HB.out));(case aF=>exact (fun _ _=>trivial));(case aO=>exact (rz HO762.out));(case aS=>exact (below_size (bz0 HB.out)));(case aL=>have:=LMc2.out;omega);intro v764 w36 ho hb hg hat;rw [<- Ny763.out] at ho;have n0_:=am (hb);have n1_:=am (ho);clear HB;clear HO762;have HB:=n0_;have HO765:=n1_;clear n0_ n1_;clear ho hb hg hat)|((with_reducible refine gate_callee (f:=15) rfl ?_);refine goesL_ (some 12) rfl rfl Tryz.func15 kr rfl #[.slice A0 l0.length c0] rfl lz ?_;(with_reducible refine (spec_NodesOk.calls k _ _ l0 false _ ?side1 ?side2 A3.out).mono ?_);(case side1=>exact cz (Kd.C_below HR0.out HB.out));(case side2=>exact HC0.out);rintro e w37 ⟨rfl,hb⟩;refine ⟨_,rfl,?_⟩;replace HO765:=qz HO765 hb;replace HB:=bs (bz0 HB.out) hb;(try clear hb);(try clear hk);(try clear hi))|((with_reducible refine gate_dst (N:=14) rfl ?_);refine Kd.R_lit k45 _ 45 ?hg (N:=14) ?hd (xs:=([]:List (S45))) (inner:=[]) (ok:=fun _=>True) (okp:=fun _=>True) ?hr ?hp (fun _ hk=>hk) trivial (Below.refl _ _) (Nat.le_refl _) (by simp) ?_;(case hd=>rfl);(case hg=>rfl);(case hr=>exact vz);(case hp=>exact (Reps.none _ _));intro v768 w38 ho39 hb hg_ hnew_;clear hg_ hnew_;(first|rw [<- Ny767.out] at ho39|(simp only [Int.reduceToNat] at ho39;rw [<- Ny767.out] at ho39));have HO769:=am (Kd.R_lower (Kd.R_new' ho39 (Kd.R_lt (rz HO765.out))) (below_size (bz0 HB.out)));replace HO765:=am (Kd.R_elder' (rz HO765.out) (Kd.R_base ho39) hb);replace HB:=bs (bz0 HB.out) hb;clear hb ho39))
  go_ret
  exact ⟨_,gz,by refine rq ?_;exact Kd.R_mono HO769.out (fun _ hk=>trivial),(bz0 HB.out)⟩
def spec_AlphaSame.f (k:Nat) (l0:List (S45)) (l1:List (S45)):Option (Bool):=(spec_NodesOk.f k l0).bind fun t787=>(if t787=true then ((spec_NodesOk.f k l1).bind fun t788=>(if t788=true then ((spec_Canon.f k l0).bind fun t789=>((spec_Canon.f k l1).bind fun t792=>((spec_SameNodes.f k t789 t792).bind fun t795=>(some t795)))) else (some false))) else (some false))
theorem spec_AlphaSame.mono:∀ a0 a1 k,LeO (spec_AlphaSame.f k a0 a1) (spec_AlphaSame.f (k+1) a0 a1):=by
 intro a0 a1 k
 unfold spec_AlphaSame.f
 with_reducible repeat' first|exact spec_Canon.mono _ _|exact spec_NodesOk.mono _ _|exact spec_SameNodes.mono _ _ _|exact lrz _|exact lnz _|refine liz ?_ ?_|refine lbz ?_ fun _=>?_
set_option maxHeartbeats 8000000 in
set_option maxRecDepth 100000 in
theorem spec_AlphaSame.calls (k:Nat) (A0:Option Addr) (c0:Nat) (l0:List (S45)) (A1:Option Addr) (c1:Nat) (l1:List (S45)) (r:Bool) (w:World) (hr0:Kd.C k45 w A0 l0.length l0) (hc0:l0.length <= c0) (hr1:Kd.C k45 w A1 l1.length l1) (hc1:l1.length <= c1) (h:spec_AlphaSame.f k l0 l1=some r) :
  Calls Tryz.prog 17 #[.slice A0 l0.length c0,.slice A1 l1.length c1] w fun e w'=>e=.returned (.bool r) /\ Below w.heap.size w w':=by
 have HR0:=am hr0
 have HC0:=am hc0
 clear hr0 hc0
 have HR1:=am hr1
 have HC1:=am hc1
 clear hr1 hc1
 have HB:=am (Below.refl w.heap.size w)
 have H:((spec_NodesOk.f k l0).bind fun t787=>(if t787=true then ((spec_NodesOk.f k l1).bind fun t788=>(if t788=true then ((spec_Canon.f k l0).bind fun t789=>((spec_Canon.f k l1).bind fun t792=>((spec_SameNodes.f k t789 t792).bind fun t795=>(some t795)))) else (some false))) else (some false)))=some r:=h
 clear h
 replace H:=bi H
 obtain ⟨t787,A30,H⟩:=H
 try dsimp only at H
 have A3:=am A30
 clear A30
 by_cases c4:t787=true
 ·subst c4
  have H1:=hp H
  clear H
  have H:=H1
  clear H1
  replace H:=bi H
  obtain ⟨t788,A50,H⟩:=H
  try dsimp only at H
  have A5:=am A50
  clear A50
  by_cases c6:t788=true
  ·subst c6
   have H1:=hp H
   clear H
   have H:=H1
   clear H1
   replace H:=bi H
   obtain ⟨t789,A70,H⟩:=H
   try dsimp only at H
   have A7:=am A70
   clear A70
   replace H:=bi H
   obtain ⟨t792,A80,H⟩:=H
   try dsimp only at H
   have A8:=am A80
   clear A80
   replace H:=bi H
   obtain ⟨t795,A90,H⟩:=H
   try dsimp only at H
   have A9:=am A90
   clear A90
   obtain rfl:=Option.some.inj H
   go_enter Tryz.func17,Tryz.ntmps17
   go_wp2_with (first|((with_reducible refine gate_callee (f:=15) rfl ?_);refine goesL_ (some 6) rfl rfl Tryz.func15 kr rfl #[.slice A0 l0.length c0] rfl lz ?_;(with_reducible refine (spec_NodesOk.calls k _ _ l0 true _ ?side1 ?side2 A3.out).mono ?_);(case side1=>repeat (first|exact HR0.out|(with_reducible refine Kd.C_alloc ?_ _)|(with_reducible refine Kd.C_drewN ?_ _)|(with_reducible refine Kd.C_drew ?_)));(case side2=>exact HC0.out);rintro e w10 ⟨rfl,hb⟩;refine ⟨_,rfl,?_⟩;replace HB:=bs (bz0 HB.out) hb;(try clear hb);(try clear hi))|(go_at_call 15;(with_reducible refine (spec_NodesOk.calls k _ _ l1 true _ ?side1 ?side2 A5.out).mono ?_);(case side1=>exact cz (Kd.C_below HR1.out HB.out));(case side2=>exact HC1.out);rintro e w11 ⟨rfl,hb⟩;replace HB:=bs (bz0 HB.out) hb;(try clear hb);(try clear hi))|(go_at_call 43;(with_reducible refine (spec_Canon.calls k _ _ l0 t789 _ ?side1 ?side2 A7.out).mono ?_);(case side1=>exact cz (Kd.C_below HR0.out HB.out));(case side2=>exact HC0.out);rintro e w12 ⟨v790,rfl,ho0,hb⟩;have HO791:=am (Kd.R_lower ho0 (below_size (bz0 HB.out)));replace HB:=bs (bz0 HB.out) hb;(try clear hb);(try clear ho0))|(go_at_call 43;(with_reducible refine (spec_Canon.calls k _ _ l1 t792 _ ?side1 ?side2 A8.out).mono ?_);(case side1=>exact cz (Kd.C_below HR1.out HB.out));(case side2=>exact HC1.out);rintro e w13 ⟨v793,rfl,ho0,hb⟩;have HO794:=am (Kd.R_lower (Kd.R_new' ho0 (Kd.R_lt (rz HO791.out))) (below_size (bz0 HB.out)));replace HO791:=am (Kd.R_elder' (rz HO791.out) (Kd.R_base ho0) hb);replace HB:=bs (bz0 HB.out) hb;(try clear hb);(try clear ho0);obtain ⟨Ao14,co14,eo14⟩:=Kd.R_slice HO791.out;subst eo14;obtain ⟨Ao15,co15,eo15⟩:=Kd.R_slice HO794.out;subst eo15)|(go_at_call 42;(with_reducible refine (spec_SameNodes.calls k _ _ t789 _ _ t792 t795 _ ?side1 ?side2 ?side3 ?side4 A9.out).mono ?_);(case side1=>exact cz (Kd.R_reads' HO791.out).2.2);(case side2=>exact (Kd.R_reads' HO791.out).2.1);(case side3=>exact cz (Kd.R_reads' HO794.out).2.2);(case side4=>exact (Kd.R_reads' HO794.out).2.1);rintro e w' ⟨rfl,⟨nd,rfl⟩⟩))
   go_ret
   exact ⟨gz,(bz0 HB.out)⟩
  ·replace c6:=Bool.eq_false_iff.mpr c6
   subst c6
   have H1:=hq H
   clear H
   have H:=H1
   clear H1
   obtain rfl:=Option.some.inj H
   go_enter Tryz.func17,Tryz.ntmps17
   go_wp2_with (first|((with_reducible refine gate_callee (f:=15) rfl ?_);refine goesL_ (some 6) rfl rfl Tryz.func15 kr rfl #[.slice A0 l0.length c0] rfl lz ?_;(with_reducible refine (spec_NodesOk.calls k _ _ l0 true _ ?side1 ?side2 A3.out).mono ?_);(case side1=>repeat (first|exact HR0.out|(with_reducible refine Kd.C_alloc ?_ _)|(with_reducible refine Kd.C_drewN ?_ _)|(with_reducible refine Kd.C_drew ?_)));(case side2=>exact HC0.out);rintro e w16 ⟨rfl,hb⟩;refine ⟨_,rfl,?_⟩;replace HB:=bs (bz0 HB.out) hb;(try clear hb);(try clear hi))|(go_at_call 15;(with_reducible refine (spec_NodesOk.calls k _ _ l1 false _ ?side1 ?side2 A5.out).mono ?_);(case side1=>exact cz (Kd.C_below HR1.out HB.out));(case side2=>exact HC1.out);rintro e w17 ⟨rfl,hb⟩;replace HB:=bs (bz0 HB.out) hb;(try clear hb);(try clear hi)))
   go_ret
   exact ⟨gz,(bz0 HB.out)⟩
 ·replace c4:=Bool.eq_false_iff.mpr c4
  subst c4
  have H1:=hq H
  clear H
  have H:=H1
  clear H1
  obtain rfl:=Option.some.inj H
  go_enter Tryz.func17,Tryz.ntmps17
  go_wp2_with (first|((with_reducible refine gate_callee (f:=15) rfl ?_);refine goesL_ (some 6) rfl rfl Tryz.func15 kr rfl #[.slice A0 l0.length c0] rfl lz ?_;(with_reducible refine (spec_NodesOk.calls k _ _ l0 false _ ?side1 ?side2 A3.out).mono ?_);(case side1=>repeat (first|exact HR0.out|(with_reducible refine Kd.C_alloc ?_ _)|(with_reducible refine Kd.C_drewN ?_ _)|(with_reducible refine Kd.C_drew ?_)));(case side2=>exact HC0.out);rintro e w18 ⟨rfl,hb⟩;refine ⟨_,rfl,?_⟩;replace HB:=bs (bz0 HB.out) hb;(try clear hb);(try clear hi)))
  go_ret
  exact ⟨gz,(bz0 HB.out)⟩
def laws_hasText.l0:Nat -> List ByteArray -> ByteArray -> Int -> Option (Bool)
 | 0,_,_,_=>none
 | k+1,x0,x1,x5=>if x5<(x0.length:Int) then (if 0 <= x5 then (if (rdOf ByteArray.empty x0 x5).toList=x1.toList then (some true) else (laws_hasText.l0 k x0 x1 (wrap64 (x5+1)))) else (none)) else (some false)
def laws_hasText.f (k:Nat) (l0:List ByteArray) (a1:ByteArray):Option (Bool):=laws_hasText.l0 k l0 a1 0
theorem laws_hasText.mono_l:∀ k,(∀ y0 y1 y2,LeO (laws_hasText.l0 k y0 y1 y2) (laws_hasText.l0 (k+1) y0 y1 y2))
 | 0=>fun _ _ _ r h=>by simp [laws_hasText.l0] at h
 | k+1=>by
  have ih0:=laws_hasText.mono_l k
  ·intro y0 y1 y2
   unfold laws_hasText.l0
   with_reducible repeat' first|exact ih0 _ _ _|exact lrz _|exact lnz _|refine liz ?_ ?_|refine lbz ?_ fun _=>?_
theorem laws_hasText.mono:∀ a0 a1 k,LeO (laws_hasText.f k a0 a1) (laws_hasText.f (k+1) a0 a1):=by
 intro a0 a1 k
 have ih0:=laws_hasText.mono_l k
 unfold laws_hasText.f
 with_reducible repeat' first|exact ih0 _ _ _|exact lrz _|exact lnz _|refine liz ?_ ?_|refine lbz ?_ fun _=>?_
set_option maxHeartbeats 8000000 in
set_option maxRecDepth 100000 in
theorem laws_hasText.calls (k:Nat) (A0:Option Addr) (c0:Nat) (l0:List ByteArray) (a1:ByteArray) (r:Bool) (w:World) (hr0:Kd.C Kd.string w A0 l0.length l0) (hc0:l0.length <= c0) (h:laws_hasText.f k l0 a1=some r) :
  Calls Tryz.prog 20 #[.slice A0 l0.length c0,.string a1] w fun e w'=>e=.returned (.bool r) /\ Drawn0 w w':=by
 have HR0:=am hr0
 have HC0:=am hc0
 clear hr0 hc0
 have H:(laws_hasText.l0 k l0 a1 0)=some r:=h
 clear h
 have H':=am H
 clear H
 go_enter Tryz.func20,Tryz.ntmps20
 go_wp2
 go_loopg [5] k (fun kq v5 w'=>∃ (x5_1:Int),v5=.int .i64 x5_1 /\ Aside0 (laws_hasText.l0 kq l0 a1 x5_1=some r) /\ Aside0 (kq <= k) /\ Drawn0 w w')
 case atStart=>exact ⟨(0),ez,H',⟨Nat.le_refl _⟩,dz⟩
 case round =>
  clear H'
  try clear c2
  try clear p2
  obtain ⟨x5_1,rfl,HA,HK1,⟨m1,rfl⟩⟩:=hrel
  cases gk with
  | zero=>exact absurd HA.out (by simp [laws_hasText.l0])
  | succ k1 =>
   have H:=HA.out
   clear HA
   simp only [laws_hasText.l0] at H
   by_cases c3:x5_1<(l0.length:Int)
   ·rw [if_pos c3] at H
    have c3b0:=decide_eq_true c3
    clear c3
    replace H:=iz H
    obtain ⟨c4,H⟩:=H
    have c4b0:=decide_eq_true c4
    clear c4
    by_cases c5:(rdOf ByteArray.empty l0 x5_1).toList=a1.toList
    ·rw [if_pos c5] at H
     have c5b0:((rdOf ByteArray.empty l0 x5_1).toList == a1.toList)=true:=beq_iff_eq.mpr c5
     have c5b1:((rdOf ByteArray.empty l0 x5_1).toList != a1.toList)=false:=bne_eq_false_iff_eq.mpr c5
     clear c5
     obtain rfl:=Option.some.inj H
     have p796:0 <= (x5_1:Int):=oz
     have q796:x5_1<(l0.length:Int):=oz
     obtain ⟨ad796,e796,hx796_0⟩:=Kd.at_string HR0.out x5_1 p796 q796
     cases e796
     replace p796:=eq_true p796
     replace q796:=eq_true q796
     go_wp2
     go_ret
     exact ⟨e2z,dz⟩
    ·rw [if_neg c5] at H
     have c5b0:((rdOf ByteArray.empty l0 x5_1).toList == a1.toList)=false:=beq_eq_false_iff_ne.mpr c5
     have c5b1:((rdOf ByteArray.empty l0 x5_1).toList != a1.toList)=true:=bne_iff_ne.mpr c5
     have H':=am H
     clear H
     have p796:0 <= (x5_1:Int):=oz
     have q796:x5_1<(l0.length:Int):=oz
     obtain ⟨ad796,e796,hx796_0⟩:=Kd.at_string HR0.out x5_1 p796 q796
     cases e796
     replace p796:=eq_true p796
     replace q796:=eq_true q796
     go_wp2
     go_roundg k1
     case measure=>have:=HK1.out;omega
     case rel=>exact ⟨(wrap64 (x5_1+1)),ez,H',⟨by have:=HK1.out;omega⟩,dz⟩
   ·rw [if_neg c3] at H
    have c3b0:=decide_eq_false c3
    clear c3
    obtain rfl:=Option.some.inj H
    go_wp2
    go_ret
    exact ⟨e2z,dz⟩
def laws_at.f (l0:List Int) (a1:Int):Option (Int):=if a1<(l0.length:Int) then (if 0 <= a1 then (some (wrap64 (rd l0 a1))) else (none)) else (some (Int.tmod (wrap64 ((wrap64 (a1 * 37))+(wrap64 ((l0.length:Int) * 11)))) 256))
set_option maxHeartbeats 8000000 in
set_option maxRecDepth 100000 in
theorem laws_at.calls (A0:Option Addr) (c0:Nat) (l0:List Int) (a1:Int) (r:Int) (w:World) (hr0:Kd.C (Kd.int .u8) w A0 l0.length l0) (hc0:l0.length <= c0) (h:laws_at.f l0 a1=some r) :
  Calls Tryz.prog 22 #[.slice A0 l0.length c0,.int .i64 a1] w fun e w'=>e=.returned (.int .i64 r) /\ Drawn0 w w':=by
 have HR0:=am hr0
 have HC0:=am hc0
 clear hr0 hc0
 have H:(if a1<(l0.length:Int) then (if 0 <= a1 then (some (wrap64 (rd l0 a1))) else (none)) else (some (Int.tmod (wrap64 ((wrap64 (a1 * 37))+(wrap64 ((l0.length:Int) * 11)))) 256)))=some r:=h
 clear h
 by_cases c3:a1<(l0.length:Int)
 ·rw [if_pos c3] at H
  have c3b0:=decide_eq_true c3
  clear c3
  replace H:=iz H
  obtain ⟨c4,H⟩:=H
  have c4b0:=decide_eq_true c4
  clear c4
  obtain rfl:=Option.some.inj H
  have p797:0 <= (a1:Int):=oz
  have q797:a1<(l0.length:Int):=oz
  obtain ⟨ad797,e797,hx797_0⟩:=Kd.at_int HR0.out a1 p797 q797
  cases e797
  replace p797:=eq_true p797
  replace q797:=eq_true q797
  go_enter Tryz.func22,Tryz.ntmps22
  go_wp2
  go_ret
  exact ⟨e2z,dz⟩
 ·rw [if_neg c3] at H
  have c3b0:=decide_eq_false c3
  clear c3
  obtain rfl:=Option.some.inj H
  go_enter Tryz.func22,Tryz.ntmps22
  go_wp2
  go_ret
  exact ⟨e2z,dz⟩
end Go.Proofs.YthmpgocaoccnaaaGreatDoor.PFnFresh
