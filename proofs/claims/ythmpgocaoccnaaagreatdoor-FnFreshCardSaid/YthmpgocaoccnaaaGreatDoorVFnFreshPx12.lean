/- PFnFreshx12, of the words and walks that the law FnFresh needs; made by this session's program out of printed texts. -/
import Derived.Test.YthmpgocaoccnaaaGreatDoorVFnFreshPx0
import Derived.Test.YthmpgocaoccnaaaGreatDoorVFnFreshPx4
import Derived.Test.YthmpgocaoccnaaaGreatDoorVFnFreshPx6
import Derived.Test.YthmpgocaoccnaaaGreatDoorVFnFreshPx7
import Derived.Test.YthmpgocaoccnaaaGreatDoorVFnFreshPx10
import Derived.Test.YthmpgocaoccnaaaGreatDoorVFnFreshPx11
namespace Go.Proofs.YthmpgocaoccnaaaGreatDoor.PFnFresh
open Go.RowKit Go.Proofs.YthmpgocaoccnaaaGreatDoorW.PrintWords Go.Proofs.YthmpgocaoccnaaaGreatDoorW.PrintLast Go.Proofs.YthmpgocaoccnaaaGreatDoorW.PrintMore
attribute [local go_sem] max2_int min2_int max_two min_two max_three min_three max_four min_four
set_option linter.unusedVariables false
set_option linter.unusedSimpArgs false
attribute [local go_sem high] eqA30 eqA45
def impl_SameNodes.l0:Nat -> List (S45) -> List (S45) -> Int -> Int -> Option (Bool)
 | 0,_,_,_,_=>none
 | k+1,x0,x1,x12,x13=>if x13<x12 then (if 0 <= x13 then (if x13<(x0.length:Int) then (if x13<(x1.length:Int) then (if (!(((rd_T45 x0 x13).f0) == ((rd_T45 x1 x13).f0)) || (!(((rd_T45 x0 x13).f1) == ((rd_T45 x1 x13).f1)) || (!(((rd_T45 x0 x13).f2) == ((rd_T45 x1 x13).f2)) || (!(((rd_T45 x0 x13).f3) == ((rd_T45 x1 x13).f3)) || (!(((rd_T45 x0 x13).f4) == ((rd_T45 x1 x13).f4)) || (!((((rd_T45 x0 x13).f5).toList) == (((rd_T45 x1 x13).f5).toList)) || (!((((rd_T45 x0 x13).f6).toList) == (((rd_T45 x1 x13).f6).toList)))))))))=true then (some false) else (impl_SameNodes.l0 k x0 x1 x12 (wrap64 (x13+1)))) else (none)) else (none)) else (none)) else (some true)
def impl_SameNodes.f (k:Nat) (l0:List (S45)) (l1:List (S45)):Option (Bool):=if (l0.length:Int)=(l1.length:Int) then (impl_SameNodes.l0 k l0 l1 (l0.length:Int) 0) else (some false)
theorem impl_SameNodes.mono_l:∀ k,(∀ y0 y1 y2 y3,LeO (impl_SameNodes.l0 k y0 y1 y2 y3) (impl_SameNodes.l0 (k+1) y0 y1 y2 y3))
 | 0=>fun _ _ _ _ r h=>by simp [impl_SameNodes.l0] at h
 | k+1=>by
  have ih0:=impl_SameNodes.mono_l k
  ·intro y0 y1 y2 y3
   unfold impl_SameNodes.l0
   with_reducible repeat' first|exact ih0 _ _ _ _|exact lrz _|exact lnz _|refine liz ?_ ?_|refine lbz ?_ fun _=>?_
theorem impl_SameNodes.mono:∀ a0 a1 k,LeO (impl_SameNodes.f k a0 a1) (impl_SameNodes.f (k+1) a0 a1):=by
 intro a0 a1 k
 have ih0:=impl_SameNodes.mono_l k
 unfold impl_SameNodes.f
 with_reducible repeat' first|exact ih0 _ _ _ _|exact lrz _|exact lnz _|refine liz ?_ ?_|refine lbz ?_ fun _=>?_
set_option maxHeartbeats 8000000 in
set_option maxRecDepth 100000 in
theorem impl_SameNodes.calls (k:Nat) (A0:Option Addr) (c0:Nat) (l0:List (S45)) (A1:Option Addr) (c1:Nat) (l1:List (S45)) (r:Bool) (w:World) (hr0:Kd.C k45 w A0 l0.length l0) (hc0:l0.length <= c0) (hr1:Kd.C k45 w A1 l1.length l1) (hc1:l1.length <= c1) (h:impl_SameNodes.f k l0 l1=some r) :
  Calls Tryz.prog 55 #[.slice A0 l0.length c0,.slice A1 l1.length c1] w fun e w'=>e=.returned (.bool r) /\ Drawn0 w w':=by
 have hu45:=Tryz.underlying45
 have HR0:=am hr0
 have HC0:=am hc0
 clear hr0 hc0
 have HR1:=am hr1
 have HC1:=am hc1
 clear hr1 hc1
 have H:(if (l0.length:Int)=(l1.length:Int) then (impl_SameNodes.l0 k l0 l1 (l0.length:Int) 0) else (some false))=some r:=h
 clear h
 by_cases c3:(l0.length:Int)=(l1.length:Int)
 ·rw [if_pos c3] at H
  have c3b0:((l0.length:Int) == (l1.length:Int))=true:=beq_iff_eq.mpr c3
  have c3b1:((l0.length:Int) != (l1.length:Int))=false:=bne_eq_false_iff_eq.mpr c3
  have c3b2:(l0.length == l1.length)=true:=by first|simpa using c3|(simp at c3 ⊢;omega)
  clear c3
  have H':=am H
  clear H
  go_enter Tryz.func55,Tryz.ntmps55
  go_wp2
  repeat (go_quiet (fail);try go_wp2)
  go_loopg [13] k (fun kq v13 w'=>∃ (x13_1:Int),v13=.int .i64 x13_1 /\ Aside0 (impl_SameNodes.l0 kq l0 l1 (l0.length:Int) x13_1=some r) /\ Aside0 (kq <= k) /\ Drawn0 w w')
  case atStart=>exact ⟨(0),ez,H',⟨Nat.le_refl _⟩,dz⟩
  case round =>
   clear H'
   try clear c1
   try clear p2
   try clear c3
   try clear c3b0
   try clear c3b1
   try clear c3b2
   obtain ⟨x13_1,rfl,HA,HK1,⟨m1,rfl⟩⟩:=hrel
   cases gk with
   | zero=>exact absurd HA.out (by simp [impl_SameNodes.l0])
   | succ k1 =>
    have H:=HA.out
    clear HA
    simp only [impl_SameNodes.l0] at H
    by_cases c4:x13_1<(l0.length:Int)
    ·rw [if_pos c4] at H
     have c4b0:=decide_eq_true c4
     clear c4
     replace H:=iz H
     obtain ⟨c5,H⟩:=H
     have c5b0:=decide_eq_true c5
     clear c5
     replace H:=iz H
     obtain ⟨c6,H⟩:=H
     have c6b0:=decide_eq_true c6
     clear c6
     replace H:=iz H
     obtain ⟨c7,H⟩:=H
     have c7b0:=decide_eq_true c7
     clear c7
     by_cases c8:(!(((rd_T45 l0 x13_1).f0) == ((rd_T45 l1 x13_1).f0)) || (!(((rd_T45 l0 x13_1).f1) == ((rd_T45 l1 x13_1).f1)) || (!(((rd_T45 l0 x13_1).f2) == ((rd_T45 l1 x13_1).f2)) || (!(((rd_T45 l0 x13_1).f3) == ((rd_T45 l1 x13_1).f3)) || (!(((rd_T45 l0 x13_1).f4) == ((rd_T45 l1 x13_1).f4)) || (!((((rd_T45 l0 x13_1).f5).toList) == (((rd_T45 l1 x13_1).f5).toList)) || (!((((rd_T45 l0 x13_1).f6).toList) == (((rd_T45 l1 x13_1).f6).toList)))))))))=true
     ·rw [if_pos c8] at H
      have c8b0:(!(((rd_T45 l0 x13_1).f0) == ((rd_T45 l1 x13_1).f0)) || (!(((rd_T45 l0 x13_1).f1) == ((rd_T45 l1 x13_1).f1)) || (!(((rd_T45 l0 x13_1).f2) == ((rd_T45 l1 x13_1).f2)) || (!(((rd_T45 l0 x13_1).f3) == ((rd_T45 l1 x13_1).f3)) || (!(((rd_T45 l0 x13_1).f4) == ((rd_T45 l1 x13_1).f4)) || (!((((rd_T45 l0 x13_1).f5).toList) == (((rd_T45 l1 x13_1).f5).toList)) || (!((((rd_T45 l0 x13_1).f6).toList) == (((rd_T45 l1 x13_1).f6).toList)))))))))=true:=c8
      clear c8
      obtain rfl:=Option.some.inj H
      have p291:0 <= (x13_1:Int):=oz
      have q291:x13_1<(l0.length:Int):=oz
      obtain ⟨ad291,e291,hx291_0,hx291_1,hx291_2,hx291_3,hx291_4,hx291_5,hx291_6⟩:=at_T45 HR0.out x13_1 p291 q291
      cases e291
      replace p291:=eq_true p291
      replace q291:=eq_true q291
      have p292:0 <= (x13_1:Int):=oz
      have q292:x13_1<(l1.length:Int):=oz
      obtain ⟨ad292,e292,hx292_0,hx292_1,hx292_2,hx292_3,hx292_4,hx292_5,hx292_6⟩:=at_T45 HR1.out x13_1 p292 q292
      cases e292
      replace p292:=eq_true p292
      replace q292:=eq_true q292
      go_wp2
      repeat (go_quiet (fail);try go_wp2)
      go_ret
      exact ⟨e2z,dz⟩
     ·rw [if_neg c8] at H
      have c8b0:(!(((rd_T45 l0 x13_1).f0) == ((rd_T45 l1 x13_1).f0)) || (!(((rd_T45 l0 x13_1).f1) == ((rd_T45 l1 x13_1).f1)) || (!(((rd_T45 l0 x13_1).f2) == ((rd_T45 l1 x13_1).f2)) || (!(((rd_T45 l0 x13_1).f3) == ((rd_T45 l1 x13_1).f3)) || (!(((rd_T45 l0 x13_1).f4) == ((rd_T45 l1 x13_1).f4)) || (!((((rd_T45 l0 x13_1).f5).toList) == (((rd_T45 l1 x13_1).f5).toList)) || (!((((rd_T45 l0 x13_1).f6).toList) == (((rd_T45 l1 x13_1).f6).toList)))))))))=false:=by simpa using c8
      clear c8
      have H':=am H
      clear H
      have p291:0 <= (x13_1:Int):=oz
      have q291:x13_1<(l0.length:Int):=oz
      obtain ⟨ad291,e291,hx291_0,hx291_1,hx291_2,hx291_3,hx291_4,hx291_5,hx291_6⟩:=at_T45 HR0.out x13_1 p291 q291
      cases e291
      replace p291:=eq_true p291
      replace q291:=eq_true q291
      have p292:0 <= (x13_1:Int):=oz
      have q292:x13_1<(l1.length:Int):=oz
      obtain ⟨ad292,e292,hx292_0,hx292_1,hx292_2,hx292_3,hx292_4,hx292_5,hx292_6⟩:=at_T45 HR1.out x13_1 p292 q292
      cases e292
      replace p292:=eq_true p292
      replace q292:=eq_true q292
      go_wp2
      repeat (go_quiet (fail);try go_wp2)
      go_roundg k1
      case measure=>have:=HK1.out;omega
      case rel=>exact ⟨(wrap64 (x13_1+1)),ez,H',⟨by have:=HK1.out;omega⟩,dz⟩
    ·rw [if_neg c4] at H
     have c4b0:=decide_eq_false c4
     clear c4
     obtain rfl:=Option.some.inj H
     go_wp2
     repeat (go_quiet (fail);try go_wp2)
     go_ret
     exact ⟨e2z,dz⟩
 ·rw [if_neg c3] at H
  have c3b0:((l0.length:Int) == (l1.length:Int))=false:=beq_eq_false_iff_ne.mpr c3
  have c3b1:((l0.length:Int) != (l1.length:Int))=true:=bne_iff_ne.mpr c3
  have c3b2:(l0.length == l1.length)=false:=by first|simpa using c3|(simp at c3 ⊢;omega)
  obtain rfl:=Option.some.inj H
  go_enter Tryz.func55,Tryz.ntmps55
  go_wp2
  repeat (go_quiet (fail);try go_wp2)
  go_ret
  exact ⟨e2z,dz⟩
def impl_AlphaSame.f (k:Nat) (l0:List (S45)) (l1:List (S45)):Option (Bool):=(impl_NodesOk.f k l0).bind fun t293=>(if t293=true then ((impl_NodesOk.f k l1).bind fun t294=>(if t294=true then ((impl_Canon.f k l0).bind fun t295=>((impl_Canon.f k l1).bind fun t298=>((impl_SameNodes.f k t295 t298).bind fun t301=>(some t301)))) else (some false))) else (some false))
theorem impl_AlphaSame.mono:∀ a0 a1 k,LeO (impl_AlphaSame.f k a0 a1) (impl_AlphaSame.f (k+1) a0 a1):=by
 intro a0 a1 k
 unfold impl_AlphaSame.f
 with_reducible repeat' first|exact impl_Canon.mono _ _|exact impl_NodesOk.mono _ _|exact impl_SameNodes.mono _ _ _|exact lrz _|exact lnz _|refine liz ?_ ?_|refine lbz ?_ fun _=>?_
set_option maxHeartbeats 8000000 in
set_option maxRecDepth 100000 in
theorem impl_AlphaSame.calls (k:Nat) (A0:Option Addr) (c0:Nat) (l0:List (S45)) (A1:Option Addr) (c1:Nat) (l1:List (S45)) (r:Bool) (w:World) (hr0:Kd.C k45 w A0 l0.length l0) (hc0:l0.length <= c0) (hr1:Kd.C k45 w A1 l1.length l1) (hc1:l1.length <= c1) (h:impl_AlphaSame.f k l0 l1=some r) :
  Calls Tryz.prog 35 #[.slice A0 l0.length c0,.slice A1 l1.length c1] w fun e w'=>e=.returned (.bool r) /\ Below w.heap.size w w':=by
 have HR0:=am hr0
 have HC0:=am hc0
 clear hr0 hc0
 have HR1:=am hr1
 have HC1:=am hc1
 clear hr1 hc1
 have HB:=am (Below.refl w.heap.size w)
 have H:((impl_NodesOk.f k l0).bind fun t293=>(if t293=true then ((impl_NodesOk.f k l1).bind fun t294=>(if t294=true then ((impl_Canon.f k l0).bind fun t295=>((impl_Canon.f k l1).bind fun t298=>((impl_SameNodes.f k t295 t298).bind fun t301=>(some t301)))) else (some false))) else (some false)))=some r:=h
 clear h
 replace H:=bi H
 obtain ⟨t293,A30,H⟩:=H
 try dsimp only at H
 have A3:=am A30
 clear A30
 by_cases c4:t293=true
 ·subst c4
  have H1:=hp H
  clear H
  have H:=H1
  clear H1
  replace H:=bi H
  obtain ⟨t294,A50,H⟩:=H
  try dsimp only at H
  have A5:=am A50
  clear A50
  by_cases c6:t294=true
  ·subst c6
   have H1:=hp H
   clear H
   have H:=H1
   clear H1
   replace H:=bi H
   obtain ⟨t295,A70,H⟩:=H
   try dsimp only at H
   have A7:=am A70
   clear A70
   replace H:=bi H
   obtain ⟨t298,A80,H⟩:=H
   try dsimp only at H
   have A8:=am A80
   clear A80
   replace H:=bi H
   obtain ⟨t301,A90,H⟩:=H
   try dsimp only at H
   have A9:=am A90
   clear A90
   obtain rfl:=Option.some.inj H
   go_enter Tryz.func35,Tryz.ntmps35
   go_wp2_with (first|((with_reducible refine gate_callee (f:=44) rfl ?_);refine goesL_ (some 6) rfl rfl Tryz.func44 kr rfl #[.slice A0 l0.length c0] rfl lz ?_;(with_reducible refine (impl_NodesOk.calls k _ _ l0 true _ ?side1 ?side2 A3.out).mono ?_);(case side1=>repeat (first|exact HR0.out|(with_reducible refine Kd.C_alloc ?_ _)|(with_reducible refine Kd.C_drewN ?_ _)|(with_reducible refine Kd.C_drew ?_)));(case side2=>exact HC0.out);rintro e w10 ⟨rfl,hb⟩;refine ⟨_,rfl,?_⟩;replace HB:=bs (bz0 HB.out) hb;(try clear hb);(try clear hi))|(go_at_call 44;(with_reducible refine (impl_NodesOk.calls k _ _ l1 true _ ?side1 ?side2 A5.out).mono ?_);(case side1=>exact cz (Kd.C_below HR1.out HB.out));(case side2=>exact HC1.out);rintro e w11 ⟨rfl,hb⟩;replace HB:=bs (bz0 HB.out) hb;(try clear hb);(try clear hi))|(go_at_call 18;(with_reducible refine (impl_Canon.calls k _ _ l0 t295 _ ?side1 ?side2 A7.out).mono ?_);(case side1=>exact cz (Kd.C_below HR0.out HB.out));(case side2=>exact HC0.out);rintro e w12 ⟨v296,rfl,ho0,hb⟩;have HO297:=am (Kd.R_lower ho0 (below_size (bz0 HB.out)));replace HB:=bs (bz0 HB.out) hb;(try clear hb);(try clear ho0))|(go_at_call 18;(with_reducible refine (impl_Canon.calls k _ _ l1 t298 _ ?side1 ?side2 A8.out).mono ?_);(case side1=>exact cz (Kd.C_below HR1.out HB.out));(case side2=>exact HC1.out);rintro e w13 ⟨v299,rfl,ho0,hb⟩;have HO300:=am (Kd.R_lower (Kd.R_new' ho0 (Kd.R_lt (rz HO297.out))) (below_size (bz0 HB.out)));replace HO297:=am (Kd.R_elder' (rz HO297.out) (Kd.R_base ho0) hb);replace HB:=bs (bz0 HB.out) hb;(try clear hb);(try clear ho0);obtain ⟨Ao14,co14,eo14⟩:=Kd.R_slice HO297.out;subst eo14;obtain ⟨Ao15,co15,eo15⟩:=Kd.R_slice HO300.out;subst eo15)|(go_at_call 55;(with_reducible refine (impl_SameNodes.calls k _ _ t295 _ _ t298 t301 _ ?side1 ?side2 ?side3 ?side4 A9.out).mono ?_);(case side1=>exact cz (Kd.R_reads' HO297.out).2.2);(case side2=>exact (Kd.R_reads' HO297.out).2.1);(case side3=>exact cz (Kd.R_reads' HO300.out).2.2);(case side4=>exact (Kd.R_reads' HO300.out).2.1);rintro e w' ⟨rfl,⟨nd,rfl⟩⟩))
   go_ret
   exact ⟨gz,(bz0 HB.out)⟩
  ·replace c6:=Bool.eq_false_iff.mpr c6
   subst c6
   have H1:=hq H
   clear H
   have H:=H1
   clear H1
   obtain rfl:=Option.some.inj H
   go_enter Tryz.func35,Tryz.ntmps35
   go_wp2_with (first|((with_reducible refine gate_callee (f:=44) rfl ?_);refine goesL_ (some 6) rfl rfl Tryz.func44 kr rfl #[.slice A0 l0.length c0] rfl lz ?_;(with_reducible refine (impl_NodesOk.calls k _ _ l0 true _ ?side1 ?side2 A3.out).mono ?_);(case side1=>repeat (first|exact HR0.out|(with_reducible refine Kd.C_alloc ?_ _)|(with_reducible refine Kd.C_drewN ?_ _)|(with_reducible refine Kd.C_drew ?_)));(case side2=>exact HC0.out);rintro e w16 ⟨rfl,hb⟩;refine ⟨_,rfl,?_⟩;replace HB:=bs (bz0 HB.out) hb;(try clear hb);(try clear hi))|(go_at_call 44;(with_reducible refine (impl_NodesOk.calls k _ _ l1 false _ ?side1 ?side2 A5.out).mono ?_);(case side1=>exact cz (Kd.C_below HR1.out HB.out));(case side2=>exact HC1.out);rintro e w17 ⟨rfl,hb⟩;replace HB:=bs (bz0 HB.out) hb;(try clear hb);(try clear hi)))
   go_ret
   exact ⟨gz,(bz0 HB.out)⟩
 ·replace c4:=Bool.eq_false_iff.mpr c4
  subst c4
  have H1:=hq H
  clear H
  have H:=H1
  clear H1
  obtain rfl:=Option.some.inj H
  go_enter Tryz.func35,Tryz.ntmps35
  go_wp2_with (first|((with_reducible refine gate_callee (f:=44) rfl ?_);refine goesL_ (some 6) rfl rfl Tryz.func44 kr rfl #[.slice A0 l0.length c0] rfl lz ?_;(with_reducible refine (impl_NodesOk.calls k _ _ l0 false _ ?side1 ?side2 A3.out).mono ?_);(case side1=>repeat (first|exact HR0.out|(with_reducible refine Kd.C_alloc ?_ _)|(with_reducible refine Kd.C_drewN ?_ _)|(with_reducible refine Kd.C_drew ?_)));(case side2=>exact HC0.out);rintro e w18 ⟨rfl,hb⟩;refine ⟨_,rfl,?_⟩;replace HB:=bs (bz0 HB.out) hb;(try clear hb);(try clear hi)))
  go_ret
  exact ⟨gz,(bz0 HB.out)⟩
mutual
def impl_RenameOne.l0:Nat -> List (S45) -> ByteArray -> Bool -> List (S30) -> Int -> Int -> Int -> Int -> Option ((List (S45)) × Bool)
 | 0,_,_,_,_,_,_,_,_=>none
 | k+1,x0,x2,x8,x13,x14,x15,x303000,x303001=>if x15<x14 then (if 0 <= x15 then (if x15<(x13.length:Int) then (if x8=true then (impl_RenameOne.l0 k x0 x2 true x13 x14 (wrap64 (x15+1)) x303000 x303001) else (impl_RenameOne.l0 k x0 x2 (((rd_T30 x13 x15).f0) == x303000 && (((rd_T30 x13 x15).f1) == x303001)) x13 x14 (wrap64 (x15+1)) x303000 x303001)) else (none)) else (none)) else (if x8=true then ((impl_isName.f k x2).bind fun t308=>(impl_RenameOne.j1 k x0 x2 (!t308) x303000 x303001)) else (impl_RenameOne.j1 k x0 x2 true x303000 x303001))
def impl_RenameOne.j1:Nat -> List (S45) -> ByteArray -> Bool -> Int -> Int -> Option ((List (S45)) × Bool)
 | 0,_,_,_,_,_=>none
 | k+1,x0,x2,x32,x303000,x303001=>if x32=true then ((impl_copyNodes.f x0).bind fun t309=>(some (t309,false))) else ((impl_copyNodes.f x0).bind fun t312=>((impl_binders.f k x0).bind fun t315=>((impl_rename.f k t312 t315 x303000 x303001 x2).bind fun t318=>((impl_AlphaSame.f k x0 t318).bind fun t319=>(if t319=true then (some (t318,true)) else ((impl_copyNodes.f x0).bind fun t320=>(some (t320,false))))))))
end
def impl_RenameOne.f (k:Nat) (l0:List (S45)) (a1_0:Int) (a1_1:Int) (a2:ByteArray):Option ((List (S45)) × Bool):=(impl_Sites.f k l0).bind fun t303=>(impl_RenameOne.l0 k l0 a2 false t303 (t303.length:Int) 0 a1_0 a1_1)
theorem impl_RenameOne.mono_l:∀ k,(∀ y0 y1 y2 y3 y4 y5 y6 y7,LeO (impl_RenameOne.l0 k y0 y1 y2 y3 y4 y5 y6 y7) (impl_RenameOne.l0 (k+1) y0 y1 y2 y3 y4 y5 y6 y7)) /\ (∀ y0 y1 y2 y3 y4,LeO (impl_RenameOne.j1 k y0 y1 y2 y3 y4) (impl_RenameOne.j1 (k+1) y0 y1 y2 y3 y4))
 | 0=>⟨fun _ _ _ _ _ _ _ _ r h=>by simp [impl_RenameOne.l0] at h,fun _ _ _ _ _ r h=>by simp [impl_RenameOne.j1] at h⟩
 | k+1=>by
  obtain ⟨ih0,ih1⟩:=impl_RenameOne.mono_l k
  refine ⟨?_,?_⟩
  ·intro y0 y1 y2 y3 y4 y5 y6 y7
   unfold impl_RenameOne.l0
   with_reducible repeat' first|exact ih0 _ _ _ _ _ _ _ _|exact ih1 _ _ _ _ _|exact impl_AlphaSame.mono _ _ _|exact impl_Sites.mono _ _|exact impl_binders.mono _ _|exact impl_isName.mono _ _|exact impl_rename.mono _ _ _ _ _ _|exact lrz _|exact lnz _|refine liz ?_ ?_|refine lbz ?_ fun _=>?_
  ·intro y0 y1 y2 y3 y4
   unfold impl_RenameOne.j1
   with_reducible repeat' first|exact ih0 _ _ _ _ _ _ _ _|exact ih1 _ _ _ _ _|exact impl_AlphaSame.mono _ _ _|exact impl_Sites.mono _ _|exact impl_binders.mono _ _|exact impl_isName.mono _ _|exact impl_rename.mono _ _ _ _ _ _|exact lrz _|exact lnz _|refine liz ?_ ?_|refine lbz ?_ fun _=>?_
theorem impl_RenameOne.mono:∀ a0 a1 a2 a3 k,LeO (impl_RenameOne.f k a0 a1 a2 a3) (impl_RenameOne.f (k+1) a0 a1 a2 a3):=by
 intro a0 a1 a2 a3 k
 obtain ⟨ih0,ih1⟩:=impl_RenameOne.mono_l k
 unfold impl_RenameOne.f
 with_reducible repeat' first|exact ih0 _ _ _ _ _ _ _ _|exact ih1 _ _ _ _ _|exact impl_AlphaSame.mono _ _ _|exact impl_Sites.mono _ _|exact impl_binders.mono _ _|exact impl_isName.mono _ _|exact impl_rename.mono _ _ _ _ _ _|exact lrz _|exact lnz _|refine liz ?_ ?_|refine lbz ?_ fun _=>?_
set_option maxHeartbeats 8000000 in
set_option maxRecDepth 100000 in
theorem impl_RenameOne.calls (k:Nat) (A0:Option Addr) (c0:Nat) (l0:List (S45)) (a1_0:Int) (a1_1:Int) (a2:ByteArray) (r1:List (S45)) (r2:Bool) (w:World) (hr0:Kd.C k45 w A0 l0.length l0) (hc0:l0.length <= c0) (h:impl_RenameOne.f k l0 a1_0 a1_1 a2=some (r1,r2)) :
  Calls Tryz.prog 9 #[.slice A0 l0.length c0,.agg #[.int .i64 a1_0,.int .i64 a1_1],.string a2] w fun e w'=>∃ v0_:Value,e=.returned (.tuple #[v0_,.bool r2]) /\ Kd.R k45 45 w' w.heap.size (fun _=>True) v0_ r1 /\ Below w.heap.size w w':=by
 have hu30:=Tryz.underlying30
 have HR0:=am hr0
 have HC0:=am hc0
 clear hr0 hc0
 have HB:=am (Below.refl w.heap.size w)
 have H:((impl_Sites.f k l0).bind fun t303=>(impl_RenameOne.l0 k l0 a2 false t303 (t303.length:Int) 0 a1_0 a1_1))=some (r1,r2):=h
 clear h
 replace H:=bi H
 obtain ⟨t303,A40,H⟩:=H
 try dsimp only at H
 have A4:=am A40
 clear A40
 have H':=am H
 clear H
 go_enter Tryz.func9,Tryz.ntmps9
 go_wp2_with (first|((with_reducible refine gate_dst (N:=4) rfl ?_);refine box_event ?hg (N:=4) ?hd (cs:=#[.int .i64 a1_0,.int .i64 a1_1]) (t:=30) ?hr ?_;(case hd=>rfl);(case hg=>rfl);(case hr=>exact vz);intro gb302 hg w5 hbox hb;have BK302:=am (hbox);have GW302:=am ((by rw [hg];exact (below_size (bz0 HB.out)):w.heap.size <= gb302));have GE302:=GW302;replace HB:=bs (bz0 HB.out) hb;clear hb hbox hg)|((with_reducible refine gate_callee (f:=30) rfl ?_);refine goesL_ (some 13) rfl rfl Tryz.func30 kr rfl #[.slice A0 l0.length c0] rfl lz ?_;(with_reducible refine (impl_Sites.calls k _ _ l0 t303 _ ?side1 ?side2 A4.out).mono ?_);(case side1=>exact cz (Kd.C_below HR0.out HB.out));(case side2=>exact HC0.out);rintro e w6 ⟨v304,rfl,ho0,hb⟩;refine ⟨_,rfl,?_⟩;have HO305:=am (Kd.R_lower (Kd.R_newB ho0 (g:=gb302) (o:=.cells #[.int .i64 a1_0,.int .i64 a1_1] 30 (0,0)) (kz BK302.out)) (below_size (bz1 HB.out GE302.out)));replace BK302:=kb BK302 hb;replace HB:=bs (bz1 HB.out GE302.out) hb;(try clear hb);(try clear ho0);obtain ⟨Ao7,co7,eo7⟩:=Kd.R_slice HO305.out;subst eo7))
 (try simp only [Act.put,sz1,sz2,sz3])
 go_loopg [8,15] k (fun kq v8 v15 w'=>∃ (x8_1:Bool) (x15_1:Int),v8=.bool x8_1 /\ v15=.int .i64 x15_1 /\ Aside0 (impl_RenameOne.l0 kq l0 a2 x8_1 t303 (t303.length:Int) x15_1 a1_0 a1_1=some (r1,r2)) /\ Aside0 (kq <= k) /\ Aside0 (Kd.R k30 30 w' w.heap.size (fun k_=>k_≠gb302) (.slice Ao7 t303.length co7) t303) /\ Aside0 (w'.heap[gb302]?=some (.cells #[.int .i64 a1_0,.int .i64 a1_1] 30 (0,0))) /\ Aside0 (Below w.heap.size w w'))
 case atStart=>exact ⟨(false),(0),ez,ez,H',⟨Nat.le_refl _⟩,⟨by refine rq ?_;exact Kd.R_mono HO305.out (fun _ hk=>hk.2)⟩,⟨by refine kq ?_;exact BK302.out⟩,⟨(bz1 HB.out GE302.out)⟩⟩
 case round =>
  clear H'
  try clear p2
  try clear c3
  obtain ⟨x8_1,x15_1,rfl,rfl,HA,HK1,HO_13,BK302,HB⟩:=hrel
  cases gk with
  | zero=>exact absurd HA.out (by simp [impl_RenameOne.l0])
  | succ k1 =>
   have H:=HA.out
   clear HA
   simp only [impl_RenameOne.l0] at H
   by_cases c8:x15_1<(t303.length:Int)
   ·rw [if_pos c8] at H
    have c8b0:=decide_eq_true c8
    clear c8
    replace H:=iz H
    obtain ⟨c9,H⟩:=H
    have c9b0:=decide_eq_true c9
    clear c9
    replace H:=iz H
    obtain ⟨c10,H⟩:=H
    have c10b0:=decide_eq_true c10
    clear c10
    by_cases c11:x8_1=true
    ·subst c11
     have H1:=hp H
     clear H
     have H:=H1
     clear H1
     have H':=am H
     clear H
     have p306:0 <= (x15_1:Int):=oz
     have q306:x15_1<(t303.length:Int):=oz
     obtain ⟨ad306,e306,hx306_0,hx306_1⟩:=at_T30 (Kd.R_reads' HO_13.out).2.2 x15_1 p306 q306
     cases e306
     replace p306:=eq_true p306
     replace q306:=eq_true q306
     go_wp2_with (first|((with_reducible refine gate_dst (N:=10) rfl ?_);refine box_event ?hg (N:=10) ?hd (cs:=#[.int .i64 0,.int .i64 0]) (t:=30) ?hr ?_;(case hd=>rfl);(case hg=>rfl);(case hr=>exact vz);intro gb307 hg w12 hbox hb;replace HO_13:=am (Kd.R_below (Kd.R_elderB (rz HO_13.out) gb307 (Nat.le_of_eq hg.symm)) hb);have BK307:=am (hbox);have GW307:=am ((by rw [hg];exact (below_size (bz1 HB.out GE302.out)):w.heap.size <= gb307));have GE307:=GW307;replace HB:=bs (bz1 HB.out GE302.out) hb;have NB302_307:=am ((by rw [hg];exact Nat.ne_of_lt (blk_lt (kz BK302.out)):gb302≠gb307));have NB307_302:=am ((by rw [hg];exact Nat.ne_of_gt (blk_lt (kz BK302.out)):gb307≠gb302));replace BK302:=kb BK302 hb;clear hb hbox hg;have hnb13:=NB307_302.out;have hnc13:=NB302_307.out;obtain ⟨hcz14_0,hcz14_1⟩:=cz2 BK307.out;obtain ⟨hfz14_0,hfz14_1⟩:=fz2 BK307.out))
     go_roundg k1
     case measure=>have:=HK1.out;omega
     case rel=>exact ⟨(true),(wrap64 (x15_1+1)),ez,ez,H',⟨by have:=HK1.out;omega⟩,⟨by refine rq ?_;first|(with_reducible exact Kd.R_mono (Kd.R_far (p:=⟨gb307,1,none⟩) (Kd.R_far (p:=⟨gb307,0,none⟩) (Kd.R_mono HO_13.out (fun k_ hk=>(⟨hk,hk.2⟩:_ /\ k_≠gb307))) (fun _ hk=>hk.2) (.int .i64 ((rd_T30 t303 x15_1).f0))) (fun _ hk=>hk.2) (.int .i64 ((rd_T30 t303 x15_1).f1))) (fun _ hk=>hk.1.1))|exact Kd.R_mono (Kd.R_far (p:=⟨gb307,1,none⟩) (Kd.R_drewN (Kd.R_far (p:=⟨gb307,0,none⟩) (Kd.R_mono HO_13.out (fun k_ hk=>(⟨hk,hk.2⟩:_ /\ k_≠gb307))) (fun _ hk=>hk.2) (.int .i64 ((rd_T30 t303 x15_1).f0))) _) (fun _ hk=>hk.2) (.int .i64 ((rd_T30 t303 x15_1).f1))) (fun _ hk=>hk.1.1)⟩,⟨by refine kq ?_;refine blk_far ?_ NB302_307.out _;refine kq ?_;refine blk_far ?_ NB302_307.out _;refine kq ?_;exact BK302.out⟩,⟨(bz2 HB.out GE302.out GE307.out)⟩⟩
    ·replace c11:=Bool.eq_false_iff.mpr c11
     subst c11
     have H1:=hq H
     clear H
     have H:=H1
     clear H1
     have H':=am H
     clear H
     have p306:0 <= (x15_1:Int):=oz
     have q306:x15_1<(t303.length:Int):=oz
     obtain ⟨ad306,e306,hx306_0,hx306_1⟩:=at_T30 (Kd.R_reads' HO_13.out).2.2 x15_1 p306 q306
     cases e306
     replace p306:=eq_true p306
     replace q306:=eq_true q306
     go_wp2_with (first|((with_reducible refine gate_dst (N:=10) rfl ?_);refine box_event ?hg (N:=10) ?hd (cs:=#[.int .i64 0,.int .i64 0]) (t:=30) ?hr ?_;(case hd=>rfl);(case hg=>rfl);(case hr=>exact vz);intro gb307 hg w15 hbox hb;replace HO_13:=am (Kd.R_below (Kd.R_elderB (rz HO_13.out) gb307 (Nat.le_of_eq hg.symm)) hb);have BK307:=am (hbox);have GW307:=am ((by rw [hg];exact (below_size (bz1 HB.out GE302.out)):w.heap.size <= gb307));have GE307:=GW307;replace HB:=bs (bz1 HB.out GE302.out) hb;have NB302_307:=am ((by rw [hg];exact Nat.ne_of_lt (blk_lt (kz BK302.out)):gb302≠gb307));have NB307_302:=am ((by rw [hg];exact Nat.ne_of_gt (blk_lt (kz BK302.out)):gb307≠gb302));replace BK302:=kb BK302 hb;clear hb hbox hg;have hnb16:=NB307_302.out;have hnc16:=NB302_307.out;obtain ⟨hcz17_0,hcz17_1⟩:=cz2 BK307.out;obtain ⟨hfz17_0,hfz17_1⟩:=fz2 BK307.out;obtain ⟨hcz18_0,hcz18_1⟩:=cz2 BK302.out;obtain ⟨hfz18_0,hfz18_1⟩:=fz2 BK302.out))
     go_roundg k1
     case measure=>have:=HK1.out;omega
     case rel=>exact ⟨((((rd_T30 t303 x15_1).f0) == a1_0 && (((rd_T30 t303 x15_1).f1) == a1_1))),(wrap64 (x15_1+1)),ez,ez,H',⟨by have:=HK1.out;omega⟩,⟨by refine rq ?_;first|(with_reducible exact Kd.R_mono (Kd.R_far (p:=⟨gb307,1,none⟩) (Kd.R_far (p:=⟨gb307,0,none⟩) (Kd.R_mono HO_13.out (fun k_ hk=>(⟨hk,hk.2⟩:_ /\ k_≠gb307))) (fun _ hk=>hk.2) (.int .i64 ((rd_T30 t303 x15_1).f0))) (fun _ hk=>hk.2) (.int .i64 ((rd_T30 t303 x15_1).f1))) (fun _ hk=>hk.1.1))|exact Kd.R_mono (Kd.R_far (p:=⟨gb307,1,none⟩) (Kd.R_drewN (Kd.R_far (p:=⟨gb307,0,none⟩) (Kd.R_mono HO_13.out (fun k_ hk=>(⟨hk,hk.2⟩:_ /\ k_≠gb307))) (fun _ hk=>hk.2) (.int .i64 ((rd_T30 t303 x15_1).f0))) _) (fun _ hk=>hk.2) (.int .i64 ((rd_T30 t303 x15_1).f1))) (fun _ hk=>hk.1.1)⟩,⟨by refine kq ?_;refine blk_far ?_ NB302_307.out _;refine kq ?_;refine blk_far ?_ NB302_307.out _;refine kq ?_;exact BK302.out⟩,⟨(bz2 HB.out GE302.out GE307.out)⟩⟩
   ·rw [if_neg c8] at H
    have c8b0:=decide_eq_false c8
    clear c8
    have HC19:=am H
    clear H
    go_upto_region 7 with (fail)
    go_cut [32] (fun v32 wc=>∃ (kq:Nat) (x32_18:Bool),v32=.bool x32_18 /\ Aside0 (impl_RenameOne.j1 kq l0 a2 x32_18 a1_0 a1_1=some (r1,r2)) /\ Aside0 (kq <= k1) /\ Aside0 (wc.heap[gb302]?=some (.cells #[.int .i64 a1_0,.int .i64 a1_1] 30 (0,0))) /\ Aside0 (Below w.heap.size w wc))
    case first =>
     have H:=HC19.out
     clear HC19
     by_cases c20:x8_1=true
     ·subst c20
      have H1:=hp H
      clear H
      have H:=H1
      clear H1
      replace H:=bi H
      obtain ⟨t308,A210,H⟩:=H
      try dsimp only at H
      have A21:=am A210
      clear A210
      have H':=am H
      clear H
      go_wp2_with (first|(go_at_call 31;(with_reducible refine (impl_isName.calls k1 a2 t308 _ A21.out).mono ?_);rintro e w22 ⟨rfl,hb⟩;replace HO_13:=qz HO_13 hb;replace BK302:=kb BK302 hb;replace HB:=bs (bz1 HB.out GE302.out) hb;(try clear hb);(try clear hi)))
      go_meet
      case rel=>exact ⟨_,(!t308),ez,H',⟨by have:=HK1.out;first|omega|exact Nat.le_refl _⟩,⟨by refine kq ?_;exact BK302.out⟩,⟨(bz1 HB.out GE302.out)⟩⟩
     ·replace c20:=Bool.eq_false_iff.mpr c20
      subst c20
      have H1:=hq H
      clear H
      have H:=H1
      clear H1
      have H':=am H
      clear H
      go_wp2
      go_meet
      case rel=>exact ⟨_,(true),ez,H',⟨by have:=HK1.out;first|omega|exact Nat.le_refl _⟩,⟨by refine kq ?_;exact BK302.out⟩,⟨(bz1 HB.out GE302.out)⟩⟩
    case rest =>
     clear HC19
     try clear c1
     try clear c2
     try clear p2
     try clear c3
     try clear p3
     try clear q3
     try clear hx3
     try clear p6
     try clear c8
     try clear c8b0
     try clear c9
     try clear c9b0
     try clear c10
     try clear c10b0
     try clear c11
     try clear c13
     try clear c16
     try clear c20
     try clear hcz14_0 hcz14_1
     try clear hcz17_0 hcz17_1
     try clear hcz18_0 hcz18_1
     try clear hfz14_0 hfz14_1
     try clear hfz17_0 hfz17_1
     try clear hfz18_0 hfz18_1
     try clear hx306_0
     try clear hx306_1
     try clear p2
     try clear p306
     try clear q306
     obtain ⟨kq,x32_18,rfl,HA,HJ18,BK302,HB⟩:=hcut
     cases kq with
     | zero=>exact absurd HA.out (by simp [impl_RenameOne.j1])
     | succ kj18 =>
      have H:=HA.out
      clear HA
      simp only [impl_RenameOne.j1] at H
      by_cases c23:x32_18=true
      ·subst c23
       have H1:=hp H
       clear H
       have H:=H1
       clear H1
       replace H:=bi H
       obtain ⟨t309,A240,H⟩:=H
       try dsimp only at H
       have A24:=am A240
       clear A240
       simp only [Option.some.injEq,Prod.mk.injEq] at H
       obtain ⟨rfl,rfl⟩:=H
       go_wp2_with (first|((with_reducible refine gate_callee (f:=32) rfl ?_);refine goesL_ (some 34) rfl rfl Tryz.func32 kr rfl #[.slice A0 l0.length c0] rfl lz ?_;(with_reducible refine (impl_copyNodes.calls _ _ l0 t309 _ ?side1 ?side2 A24.out).mono ?_);(case side1=>exact cz (Kd.C_below HR0.out HB.out));(case side2=>exact HC0.out);rintro e w25 ⟨v310,rfl,ho0,hb⟩;refine ⟨_,rfl,?_⟩;have HO311:=am (Kd.R_lower ho0 (below_size (bz1 HB.out GE302.out)));replace BK302:=kb BK302 hb;replace HB:=bs (bz1 HB.out GE302.out) hb;(try clear hb);(try clear ho0)))
       go_ret2
       exact ⟨_,gz,by refine rq ?_;exact HO311.out,(bz1 HB.out GE302.out)⟩
      ·replace c23:=Bool.eq_false_iff.mpr c23
       subst c23
       have H1:=hq H
       clear H
       have H:=H1
       clear H1
       replace H:=bi H
       obtain ⟨t312,A260,H⟩:=H
       try dsimp only at H
       have A26:=am A260
       clear A260
       replace H:=bi H
       obtain ⟨t315,A270,H⟩:=H
       try dsimp only at H
       have A27:=am A270
       clear A270
       replace H:=bi H
       obtain ⟨t318,A280,H⟩:=H
       try dsimp only at H
       have A28:=am A280
       clear A280
       replace H:=bi H
       obtain ⟨t319,A290,H⟩:=H
       try dsimp only at H
       have A29:=am A290
       clear A290
       by_cases c30:t319=true
       ·subst c30
        have H1:=hp H
        clear H
        have H:=H1
        clear H1
        simp only [Option.some.injEq,Prod.mk.injEq] at H
        obtain ⟨rfl,rfl⟩:=H
        try go_wp2_with (first|((with_reducible refine gate_callee (f:=32) rfl ?_);refine goesL_ (some 36) rfl rfl Tryz.func32 kr rfl #[.slice A0 l0.length c0] rfl lz ?_;(with_reducible refine (impl_copyNodes.calls _ _ l0 t312 _ ?side1 ?side2 A26.out).mono ?_);(case side1=>exact cz (Kd.C_below HR0.out HB.out));(case side2=>exact HC0.out);rintro e w31 ⟨v313,rfl,ho0,hb⟩;refine ⟨_,rfl,?_⟩;have HO314:=am (Kd.R_lower ho0 (below_size (bz1 HB.out GE302.out)));replace BK302:=kb BK302 hb;replace HB:=bs (bz1 HB.out GE302.out) hb;(try clear hb);(try clear ho0)))
        have n0_:=am (Kd.R_drew HO314.out)
        have n1_:=am (blk_drew BK302.out)
        have n2_:=am (below_drew1 HB.out)
        clear HO314
        clear BK302
        clear HB
        have HO314:=n0_
        have BK302:=n1_
        have HB:=n2_
        clear n0_ n1_ n2_
        refine start_ (n:=6) (S:=fun w'=>w'.cell? ⟨gb302,0,none⟩=some (.int .i64 a1_0) /\ w'.cell? ⟨gb302,1,none⟩=some (.int .i64 a1_1)) (ds:=[]) (mk_ 0 6) kr rfl rfl ⟨(blk_cell BK302.out 0).trans rfl,(blk_cell BK302.out 1).trans rfl⟩ (fun hHeld=>?_)
        generalize w31.drew=w32 at HO314 BK302 HB hHeld ⊢
        refine pure_ (i:=0) (N:=some 37) (v:=?_) (a':=?_) (mk_ 1 5) rfl rfl kr (fun _ _ _ h=>h) (Or.inl ⟨by rfl,?_⟩) ?_ ?_
        rotate_left
        ·intro w'
         go_simp
         with_reducible rfl
        rotate_left
        ·simp only [Act.put,sz1,sz2,sz3,i64_w,i32_w]
         rfl
        refine pure_ (i:=1) (N:=some 38) (v:=?_) (a':=?_) (mk_ 2 4) rfl rfl kr (fun _ _ _ h=>h) (Or.inl ⟨by rfl,?_⟩) ?_ ?_
        rotate_left
        ·intro w'
         go_simp
         with_reducible rfl
        rotate_left
        ·simp only [Act.put,sz1,sz2,sz3,i64_w,i32_w]
         rfl
        refine pure_ (i:=4) (N:=some 41) (v:=?_) (a':=?_) (bm_ 6 19) rfl rfl kr (fun _ _ _ h=>h) (Or.inl ⟨by rfl,?_⟩) ?_ ?_
        rotate_left
        ·intro w'
         go_simp
         with_reducible rfl
        rotate_left
        ·simp only [Act.put,sz1,sz2,sz3,i64_w,i32_w]
         rfl
        refine take_ (i:=3) (N:=some 40) (v:=?_) (a':=?_) (bm_ 6 27) rfl rfl kr (fun _ _ _ h=>h) (Or.inl ⟨by rfl,?_⟩) hHeld ?_ ?_
        rotate_left
        ·rintro w' ⟨s0,s1⟩
         go_simp
         with_reducible rfl
        rotate_left
        ·simp only [Act.put,sz1,sz2,sz3,i64_w,i32_w]
         rfl
        refine one_ (i:=2) (N:=some 39) (mk_ 5 1) rfl rfl kr (by decide) (fun K hK=>?_)
        refine goes_ Tryz.func34 kr rfl #[.slice A0 l0.length c0] (by rfl) rfl rfl lz ?_
        with_reducible refine (impl_binders.calls kj18 _ _ l0 t315 _ ?side1 ?side2 A27.out).mono ?_
        (case side1=>exact cz (Kd.C_below HR0.out HB.out))
        (case side2=>exact HC0.out)
        rintro e w33 ⟨v316,rfl,ho0,hb⟩
        refine ⟨_,rfl,?_⟩
        have n0_:=qz HO314 hb
        have n1_:=am (Kd.R_lower (Kd.R_newB ho0 (g:=gb302) (o:=.cells #[.int .i64 a1_0,.int .i64 a1_1] 30 (0,0)) (kz BK302.out)) (below_size (bz1 HB.out GE302.out)))
        have n2_:=am (blk_below (kz BK302.out) hb)
        have n3_:=am (below_step (bz1 HB.out GE302.out) hb)
        clear HO314
        clear BK302
        clear HB
        have HO314:=n0_
        have HO317:=n1_
        have BK302:=n2_
        have HB:=n3_
        clear n0_ n1_ n2_ n3_
        (try clear hb)
        (try clear hb2)
        (try clear hk)
        (try clear hi)
        (try clear ho0)
        obtain ⟨Ao34,co34,eo34⟩:=Kd.R_slice HO314.out
        (first|subst eo34|(injection eo34 with f1_ f2_ f3_;have f4_:=f1_.symm;have f5_:=f3_.symm;clear f1_ f2_ f3_;subst f4_;subst f5_))
        obtain ⟨Ao35,co35,eo35⟩:=Kd.R_slice HO317.out
        (first|subst eo35|(injection eo35 with f1_ f2_ f3_;have f4_:=f1_.symm;have f5_:=f3_.symm;clear f1_ f2_ f3_;subst f4_;subst f5_))
        refine hK.out _ _ ⟨(blk_cell BK302.out 0).trans rfl,(blk_cell BK302.out 1).trans rfl⟩ (fun hHeld=>?_)
        clear hK K
        refine norm_ (a':=?_) ?_ ?_
        rotate_left
        ·show Act.put _ (some 39) _=_
         simp only [Act.put,sz1,sz2,sz3,i64_w,i32_w]
         rfl
        refine one_ (i:=5) (N:=some 42) (mk_ 6 0) rfl rfl kr (by decide) (fun K hK=>?_)
        refine goes_ Tryz.func33 kr rfl #[.slice Ao34 t312.length co34,.slice Ao35 t315.length co35,.agg #[.int .i64 a1_0,.int .i64 a1_1],.string a2] (by rfl) rfl rfl lz ?_
        with_reducible refine (impl_rename.calls kj18 (fun k_=>some k_=(.slice Ao34 t312.length co34:Value).ownBlock) (.slice Ao34 t312.length co34) t312 _ _ t315 a1_0 a1_1 a2 t318 w _ ?side1 ?side2 ?side3 ?side4 A28.out).mono ?_
        (case side1=>repeat (first|(with_reducible first|exact HB.out|apply below_alloc|apply pw_below_drewN|apply below_drew1|refine below_set ?_ GE302.out)|exact HB.out))
        (case side2=>exact Kd.R_tight rfl HO314.out)
        (case side3=>exact Kd.C_kept_own ((Kd.R_apart' HO317.out (Kd.R_typed HO314.out) (by decide))) (fun k_ hk_ hs_=>by with_reducible first|exact absurd hs_ hk_.2|exact absurd hs_ hk_|exact absurd hs_ hk_.1|exact absurd hs_ hk_.2|exact absurd hs_ hk_.1.1|exact absurd hs_ hk_.1.2))
        (case side4=>exact (Kd.R_reads' HO317.out).2.1)
        rintro e w36 ⟨rfl,hy0,hb,hkp⟩
        refine ⟨_,rfl,?_⟩
        have n0_:=am (blk_kept (kz BK302.out) hkp (fun hs_=>(fun e_=>(Kd.R_ne HO314.out BK302.out (by decide)) e_) hs_))
        have n1_:=am (Kd.R_reok rfl hy0 (fun k_ e_=>HO314.out.1 k_ e_))
        have n2_:=am (Kd.R_mono (ok':=fun k_=>k_≠gb302) (Kd.R_keptB ((Kd.R_apart' HO317.out (Kd.R_typed HO314.out) (by decide))) hkp (fun k_ hk_ hs_=>by with_reducible first|exact absurd hs_ hk_.2|exact absurd hs_ hk_|exact absurd hs_ hk_.1|exact absurd hs_ hk_.2|exact absurd hs_ hk_.1.1|exact absurd hs_ hk_.1.2)) (fun k_ hk_=>by first|exact hk_.1.1.2|(with_reducible first|exact hk_.1|exact hk_.1.1|exact hk_.1.2|exact hk_.1.1.1|exact hk_.1.1.2|exact hk_.2.1|exact hk_.1.2.1|exact hk_.1.2.2)))
        have n3_:=am (hb)
        clear BK302
        clear HO314
        clear HO317
        clear HB
        have BK302:=n0_
        have HO314:=n1_
        have HO317:=n2_
        have HB:=n3_
        clear n0_ n1_ n2_ n3_
        (try clear hb)
        (try clear hkp)
        (try clear hy0)
        refine hK.out _ _ ⟨(blk_cell BK302.out 0).trans rfl,(blk_cell BK302.out 1).trans rfl⟩ (fun hHeld=>?_)
        clear hK K
        refine norm_ (a':=?_) ?_ ?_
        rotate_left
        ·show Act.put _ (some 42) _=_
         simp only [Act.put,sz1,sz2,sz3,i64_w,i32_w]
         rfl
        refine done_ kr ?_
        try go_wp2_with (first|((with_reducible refine gate_callee (f:=35) rfl ?_);refine goesL_ (some 45) rfl rfl Tryz.func35 kr rfl #[.slice A0 l0.length c0,.slice Ao34 t318.length co34] rfl (by (try simp only [List.map_toArray,List.map_cons,List.map_nil]);first|done|(rw [show t318.length=t312.length from (Kd.R_reads' HO314.out).1.symm] <;> rfl)|rfl|(simp only [List.length_drop,List.length_take];rfl)) ?_;(with_reducible refine (impl_AlphaSame.calls kj18 _ _ l0 _ _ t318 true _ ?side1 ?side2 ?side3 ?side4 A29.out).mono ?_);(case side1=>exact cz (Kd.C_below HR0.out HB.out));(case side2=>exact HC0.out);(case side3=>exact cz (Kd.R_reads' HO314.out).2.2);(case side4=>rw [show t318.length=t312.length from (Kd.R_reads' HO314.out).1.symm];exact (Kd.R_reads' HO314.out).2.1);rintro e w37 ⟨rfl,hb⟩;refine ⟨_,rfl,?_⟩;replace HO314:=qz HO314 hb;replace HO317:=qz HO317 hb;replace BK302:=kb BK302 hb;replace HB:=bs (bz1 HB.out GE302.out) hb;(try clear hb);(try clear hi)))
        go_ret2
        exact ⟨_,gz,by refine rq ?_;exact HO314.out,(bz1 HB.out GE302.out)⟩
       ·replace c30:=Bool.eq_false_iff.mpr c30
        subst c30
        have H1:=hq H
        clear H
        have H:=H1
        clear H1
        replace H:=bi H
        obtain ⟨t320,A380,H⟩:=H
        try dsimp only at H
        have A38:=am A380
        clear A380
        simp only [Option.some.injEq,Prod.mk.injEq] at H
        obtain ⟨rfl,rfl⟩:=H
        try go_wp2_with (first|((with_reducible refine gate_callee (f:=32) rfl ?_);refine goesL_ (some 36) rfl rfl Tryz.func32 kr rfl #[.slice A0 l0.length c0] rfl lz ?_;(with_reducible refine (impl_copyNodes.calls _ _ l0 t312 _ ?side1 ?side2 A26.out).mono ?_);(case side1=>exact cz (Kd.C_below HR0.out HB.out));(case side2=>exact HC0.out);rintro e w39 ⟨v313,rfl,ho0,hb⟩;refine ⟨_,rfl,?_⟩;have HO314:=am (Kd.R_lower ho0 (below_size (bz1 HB.out GE302.out)));replace BK302:=kb BK302 hb;replace HB:=bs (bz1 HB.out GE302.out) hb;(try clear hb);(try clear ho0)))
        have n0_:=am (Kd.R_drew HO314.out)
        have n1_:=am (blk_drew BK302.out)
        have n2_:=am (below_drew1 HB.out)
        clear HO314
        clear BK302
        clear HB
        have HO314:=n0_
        have BK302:=n1_
        have HB:=n2_
        clear n0_ n1_ n2_
        refine start_ (n:=6) (S:=fun w'=>w'.cell? ⟨gb302,0,none⟩=some (.int .i64 a1_0) /\ w'.cell? ⟨gb302,1,none⟩=some (.int .i64 a1_1)) (ds:=[]) (mk_ 0 6) kr rfl rfl ⟨(blk_cell BK302.out 0).trans rfl,(blk_cell BK302.out 1).trans rfl⟩ (fun hHeld=>?_)
        generalize w39.drew=w40 at HO314 BK302 HB hHeld ⊢
        refine pure_ (i:=0) (N:=some 37) (v:=?_) (a':=?_) (mk_ 1 5) rfl rfl kr (fun _ _ _ h=>h) (Or.inl ⟨by rfl,?_⟩) ?_ ?_
        rotate_left
        ·intro w'
         go_simp
         with_reducible rfl
        rotate_left
        ·simp only [Act.put,sz1,sz2,sz3,i64_w,i32_w]
         rfl
        refine pure_ (i:=1) (N:=some 38) (v:=?_) (a':=?_) (mk_ 2 4) rfl rfl kr (fun _ _ _ h=>h) (Or.inl ⟨by rfl,?_⟩) ?_ ?_
        rotate_left
        ·intro w'
         go_simp
         with_reducible rfl
        rotate_left
        ·simp only [Act.put,sz1,sz2,sz3,i64_w,i32_w]
         rfl
        refine pure_ (i:=4) (N:=some 41) (v:=?_) (a':=?_) (bm_ 6 19) rfl rfl kr (fun _ _ _ h=>h) (Or.inl ⟨by rfl,?_⟩) ?_ ?_
        rotate_left
        ·intro w'
         go_simp
         with_reducible rfl
        rotate_left
        ·simp only [Act.put,sz1,sz2,sz3,i64_w,i32_w]
         rfl
        refine take_ (i:=3) (N:=some 40) (v:=?_) (a':=?_) (bm_ 6 27) rfl rfl kr (fun _ _ _ h=>h) (Or.inl ⟨by rfl,?_⟩) hHeld ?_ ?_
        rotate_left
        ·rintro w' ⟨s0,s1⟩
         go_simp
         with_reducible rfl
        rotate_left
        ·simp only [Act.put,sz1,sz2,sz3,i64_w,i32_w]
         rfl
        refine one_ (i:=2) (N:=some 39) (mk_ 5 1) rfl rfl kr (by decide) (fun K hK=>?_)
        refine goes_ Tryz.func34 kr rfl #[.slice A0 l0.length c0] (by rfl) rfl rfl lz ?_
        with_reducible refine (impl_binders.calls kj18 _ _ l0 t315 _ ?side1 ?side2 A27.out).mono ?_
        (case side1=>exact cz (Kd.C_below HR0.out HB.out))
        (case side2=>exact HC0.out)
        rintro e w41 ⟨v316,rfl,ho0,hb⟩
        refine ⟨_,rfl,?_⟩
        have n0_:=qz HO314 hb
        have n1_:=am (Kd.R_lower (Kd.R_newB ho0 (g:=gb302) (o:=.cells #[.int .i64 a1_0,.int .i64 a1_1] 30 (0,0)) (kz BK302.out)) (below_size (bz1 HB.out GE302.out)))
        have n2_:=am (blk_below (kz BK302.out) hb)
        have n3_:=am (below_step (bz1 HB.out GE302.out) hb)
        clear HO314
        clear BK302
        clear HB
        have HO314:=n0_
        have HO317:=n1_
        have BK302:=n2_
        have HB:=n3_
        clear n0_ n1_ n2_ n3_
        (try clear hb)
        (try clear hb2)
        (try clear hk)
        (try clear hi)
        (try clear ho0)
        obtain ⟨Ao42,co42,eo42⟩:=Kd.R_slice HO314.out
        (first|subst eo42|(injection eo42 with f1_ f2_ f3_;have f4_:=f1_.symm;have f5_:=f3_.symm;clear f1_ f2_ f3_;subst f4_;subst f5_))
        obtain ⟨Ao43,co43,eo43⟩:=Kd.R_slice HO317.out
        (first|subst eo43|(injection eo43 with f1_ f2_ f3_;have f4_:=f1_.symm;have f5_:=f3_.symm;clear f1_ f2_ f3_;subst f4_;subst f5_))
        refine hK.out _ _ ⟨(blk_cell BK302.out 0).trans rfl,(blk_cell BK302.out 1).trans rfl⟩ (fun hHeld=>?_)
        clear hK K
        refine norm_ (a':=?_) ?_ ?_
        rotate_left
        ·show Act.put _ (some 39) _=_
         simp only [Act.put,sz1,sz2,sz3,i64_w,i32_w]
         rfl
        refine one_ (i:=5) (N:=some 42) (mk_ 6 0) rfl rfl kr (by decide) (fun K hK=>?_)
        refine goes_ Tryz.func33 kr rfl #[.slice Ao42 t312.length co42,.slice Ao43 t315.length co43,.agg #[.int .i64 a1_0,.int .i64 a1_1],.string a2] (by rfl) rfl rfl lz ?_
        with_reducible refine (impl_rename.calls kj18 (fun k_=>some k_=(.slice Ao42 t312.length co42:Value).ownBlock) (.slice Ao42 t312.length co42) t312 _ _ t315 a1_0 a1_1 a2 t318 w _ ?side1 ?side2 ?side3 ?side4 A28.out).mono ?_
        (case side1=>repeat (first|(with_reducible first|exact HB.out|apply below_alloc|apply pw_below_drewN|apply below_drew1|refine below_set ?_ GE302.out)|exact HB.out))
        (case side2=>exact Kd.R_tight rfl HO314.out)
        (case side3=>exact Kd.C_kept_own ((Kd.R_apart' HO317.out (Kd.R_typed HO314.out) (by decide))) (fun k_ hk_ hs_=>by with_reducible first|exact absurd hs_ hk_.2|exact absurd hs_ hk_|exact absurd hs_ hk_.1|exact absurd hs_ hk_.2|exact absurd hs_ hk_.1.1|exact absurd hs_ hk_.1.2))
        (case side4=>exact (Kd.R_reads' HO317.out).2.1)
        rintro e w44 ⟨rfl,hy0,hb,hkp⟩
        refine ⟨_,rfl,?_⟩
        have n0_:=am (blk_kept (kz BK302.out) hkp (fun hs_=>(fun e_=>(Kd.R_ne HO314.out BK302.out (by decide)) e_) hs_))
        have n1_:=am (Kd.R_reok rfl hy0 (fun k_ e_=>HO314.out.1 k_ e_))
        have n2_:=am (Kd.R_mono (ok':=fun k_=>k_≠gb302) (Kd.R_keptB ((Kd.R_apart' HO317.out (Kd.R_typed HO314.out) (by decide))) hkp (fun k_ hk_ hs_=>by with_reducible first|exact absurd hs_ hk_.2|exact absurd hs_ hk_|exact absurd hs_ hk_.1|exact absurd hs_ hk_.2|exact absurd hs_ hk_.1.1|exact absurd hs_ hk_.1.2)) (fun k_ hk_=>by first|exact hk_.1.1.2|(with_reducible first|exact hk_.1|exact hk_.1.1|exact hk_.1.2|exact hk_.1.1.1|exact hk_.1.1.2|exact hk_.2.1|exact hk_.1.2.1|exact hk_.1.2.2)))
        have n3_:=am (hb)
        clear BK302
        clear HO314
        clear HO317
        clear HB
        have BK302:=n0_
        have HO314:=n1_
        have HO317:=n2_
        have HB:=n3_
        clear n0_ n1_ n2_ n3_
        (try clear hb)
        (try clear hkp)
        (try clear hy0)
        refine hK.out _ _ ⟨(blk_cell BK302.out 0).trans rfl,(blk_cell BK302.out 1).trans rfl⟩ (fun hHeld=>?_)
        clear hK K
        refine norm_ (a':=?_) ?_ ?_
        rotate_left
        ·show Act.put _ (some 42) _=_
         simp only [Act.put,sz1,sz2,sz3,i64_w,i32_w]
         rfl
        refine done_ kr ?_
        try go_wp2_with (first|((with_reducible refine gate_callee (f:=35) rfl ?_);refine goesL_ (some 45) rfl rfl Tryz.func35 kr rfl #[.slice A0 l0.length c0,.slice Ao42 t318.length co42] rfl (by (try simp only [List.map_toArray,List.map_cons,List.map_nil]);first|done|(rw [show t318.length=t312.length from (Kd.R_reads' HO314.out).1.symm] <;> rfl)|rfl|(simp only [List.length_drop,List.length_take];rfl)) ?_;(with_reducible refine (impl_AlphaSame.calls kj18 _ _ l0 _ _ t318 false _ ?side1 ?side2 ?side3 ?side4 A29.out).mono ?_);(case side1=>exact cz (Kd.C_below HR0.out HB.out));(case side2=>exact HC0.out);(case side3=>exact cz (Kd.R_reads' HO314.out).2.2);(case side4=>rw [show t318.length=t312.length from (Kd.R_reads' HO314.out).1.symm];exact (Kd.R_reads' HO314.out).2.1);rintro e w45 ⟨rfl,hb⟩;refine ⟨_,rfl,?_⟩;replace HO314:=qz HO314 hb;replace HO317:=qz HO317 hb;replace BK302:=kb BK302 hb;replace HB:=bs (bz1 HB.out GE302.out) hb;(try clear hb);(try clear hi))|((with_reducible refine gate_callee (f:=32) rfl ?_);refine goesL_ (some 48) rfl rfl Tryz.func32 kr rfl #[.slice A0 l0.length c0] rfl lz ?_;(with_reducible refine (impl_copyNodes.calls _ _ l0 t320 _ ?side1 ?side2 A38.out).mono ?_);(case side1=>exact cz (Kd.C_below HR0.out HB.out));(case side2=>exact HC0.out);rintro e w46 ⟨v321,rfl,ho0,hb⟩;refine ⟨_,rfl,?_⟩;replace HO317:=qz HO317 hb;have HO322:=am (Kd.R_lower (Kd.R_new' ho0 (Kd.R_lt (rz HO314.out))) (below_size (bz1 HB.out GE302.out)));replace HO314:=am (Kd.R_elder' (rz HO314.out) (Kd.R_base ho0) hb);replace BK302:=kb BK302 hb;replace HB:=bs (bz1 HB.out GE302.out) hb;(try clear hb);(try clear ho0)))
        go_ret2
        exact ⟨_,gz,by refine rq ?_;exact Kd.R_mono HO322.out (fun _ hk=>trivial),(bz1 HB.out GE302.out)⟩
def laws_big.f (l0:List Int):Option (Bool):=some (decide ((l0.length:Int) > 1048576))
set_option maxHeartbeats 8000000 in
set_option maxRecDepth 100000 in
theorem laws_big.calls (A0:Option Addr) (c0:Nat) (l0:List Int) (r:Bool) (w:World) (hr0:Kd.C (Kd.int .u8) w A0 l0.length l0) (hc0:l0.length <= c0) (h:laws_big.f l0=some r) :
  Calls Tryz.prog 13 #[.slice A0 l0.length c0] w fun e w'=>e=.returned (.bool r) /\ Drawn0 w w':=by
 have HR0:=am hr0
 have HC0:=am hc0
 clear hr0 hc0
 have H:(some (decide ((l0.length:Int) > 1048576)))=some r:=h
 clear h
 obtain rfl:=Option.some.inj H
 go_enter Tryz.func13,Tryz.ntmps13
 go_wp2
 go_ret
 exact ⟨e2z,dz⟩
end Go.Proofs.YthmpgocaoccnaaaGreatDoor.PFnFresh
