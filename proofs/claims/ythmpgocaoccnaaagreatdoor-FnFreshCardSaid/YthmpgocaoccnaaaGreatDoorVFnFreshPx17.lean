/- PFnFreshx17, of the words and walks that the law FnFresh needs; made by this session's program out of printed texts. -/
import Derived.Test.YthmpgocaoccnaaaGreatDoorVFnFreshPx0
import Derived.Test.YthmpgocaoccnaaaGreatDoorVFnFreshPx13
import Derived.Test.YthmpgocaoccnaaaGreatDoorVFnFreshPx14
import Derived.Test.YthmpgocaoccnaaaGreatDoorVFnFreshPx16
namespace Go.Proofs.YthmpgocaoccnaaaGreatDoor.PFnFresh
open Go.RowKit Go.Proofs.YthmpgocaoccnaaaGreatDoorW.PrintWords Go.Proofs.YthmpgocaoccnaaaGreatDoorW.PrintLast Go.Proofs.YthmpgocaoccnaaaGreatDoorW.PrintMore
attribute [local go_sem] max2_int min2_int max_two min_two max_three min_three max_four min_four
set_option linter.unusedVariables false
set_option linter.unusedSimpArgs false
mutual
def spec_l3Fields.j0:Nat -> Bool -> Int -> Int -> Int -> Int -> Int -> ByteArray -> ByteArray -> Option (Bool)
 | 0,_,_,_,_,_,_,_,_=>none
 | k+1,x36,x560000,x560001,x560002,x560003,x560004,x560005,x560006=>if x36=true then (some false) else ((spec_l3Names.f k x560000).bind fun t562=>((spec_l3Name.f k x560005).bind fun t563=>(if ((decide (t562 > 0)) != t563)=true then (spec_l3Fields.j1 k true x560000 x560001 x560002 x560003 x560004 x560005 x560006) else (if t562=0 then (if x560005.toList=([]:List UInt8) then ((spec_l3Name.f k x560006).bind fun t564=>(if ((decide (t562 > 1)) != t564)=true then (spec_l3Fields.j1 k true x560000 x560001 x560002 x560003 x560004 x560005 x560006) else (if t562<2 then (spec_l3Fields.j1 k (x560006.toList != ([]:List UInt8)) x560000 x560001 x560002 x560003 x560004 x560005 x560006) else (spec_l3Fields.j1 k false x560000 x560001 x560002 x560003 x560004 x560005 x560006)))) else (spec_l3Fields.j1 k true x560000 x560001 x560002 x560003 x560004 x560005 x560006)) else ((spec_l3Name.f k x560006).bind fun t565=>(if ((decide (t562 > 1)) != t565)=true then (spec_l3Fields.j1 k true x560000 x560001 x560002 x560003 x560004 x560005 x560006) else (if t562<2 then (spec_l3Fields.j1 k (x560006.toList != ([]:List UInt8)) x560000 x560001 x560002 x560003 x560004 x560005 x560006) else (spec_l3Fields.j1 k false x560000 x560001 x560002 x560003 x560004 x560005 x560006))))))))
def spec_l3Fields.j1:Nat -> Bool -> Int -> Int -> Int -> Int -> Int -> ByteArray -> ByteArray -> Option (Bool)
 | 0,_,_,_,_,_,_,_,_=>none
 | k+1,x71,x560000,x560001,x560002,x560003,x560004,x560005,x560006=>if x71=true then (some false) else (if x560000=2 then ((spec_l1In.f x560004 0 65535).bind fun t566=>(some t566)) else (if x560000=8 then ((spec_l1In.f x560004 0 3).bind fun t567=>(some t567)) else (some (x560004 == 0))))
end
def spec_l3Fields.f (k:Nat) (a0_0:Int) (a0_1:Int) (a0_2:Int) (a0_3:Int) (a0_4:Int) (a0_5:ByteArray) (a0_6:ByteArray):Option (Bool):=(spec_l1In.f a0_0 1 19).bind fun t560=>(if t560=true then ((spec_Arity.f k a0_0).bind fun t561=>(if t561<1 then (if a0_1=0 then (if t561<2 then (if a0_2=0 then (if t561<3 then (spec_l3Fields.j0 k (a0_3 != 0) a0_0 a0_1 a0_2 a0_3 a0_4 a0_5 a0_6) else (spec_l3Fields.j0 k false a0_0 a0_1 a0_2 a0_3 a0_4 a0_5 a0_6)) else (spec_l3Fields.j0 k true a0_0 a0_1 a0_2 a0_3 a0_4 a0_5 a0_6)) else (if t561<3 then (spec_l3Fields.j0 k (a0_3 != 0) a0_0 a0_1 a0_2 a0_3 a0_4 a0_5 a0_6) else (spec_l3Fields.j0 k false a0_0 a0_1 a0_2 a0_3 a0_4 a0_5 a0_6))) else (spec_l3Fields.j0 k true a0_0 a0_1 a0_2 a0_3 a0_4 a0_5 a0_6)) else (if t561<2 then (if a0_2=0 then (if t561<3 then (spec_l3Fields.j0 k (a0_3 != 0) a0_0 a0_1 a0_2 a0_3 a0_4 a0_5 a0_6) else (spec_l3Fields.j0 k false a0_0 a0_1 a0_2 a0_3 a0_4 a0_5 a0_6)) else (spec_l3Fields.j0 k true a0_0 a0_1 a0_2 a0_3 a0_4 a0_5 a0_6)) else (if t561<3 then (spec_l3Fields.j0 k (a0_3 != 0) a0_0 a0_1 a0_2 a0_3 a0_4 a0_5 a0_6) else (spec_l3Fields.j0 k false a0_0 a0_1 a0_2 a0_3 a0_4 a0_5 a0_6))))) else (some false))
theorem spec_l3Fields.mono_l:∀ k,(∀ y0 y1 y2 y3 y4 y5 y6 y7,LeO (spec_l3Fields.j0 k y0 y1 y2 y3 y4 y5 y6 y7) (spec_l3Fields.j0 (k+1) y0 y1 y2 y3 y4 y5 y6 y7)) /\ (∀ y0 y1 y2 y3 y4 y5 y6 y7,LeO (spec_l3Fields.j1 k y0 y1 y2 y3 y4 y5 y6 y7) (spec_l3Fields.j1 (k+1) y0 y1 y2 y3 y4 y5 y6 y7))
 | 0=>⟨fun _ _ _ _ _ _ _ _ r h=>by simp [spec_l3Fields.j0] at h,fun _ _ _ _ _ _ _ _ r h=>by simp [spec_l3Fields.j1] at h⟩
 | k+1=>by
  obtain ⟨ih0,ih1⟩:=spec_l3Fields.mono_l k
  refine ⟨?_,?_⟩
  ·intro y0 y1 y2 y3 y4 y5 y6 y7
   unfold spec_l3Fields.j0
   with_reducible repeat' first|exact ih0 _ _ _ _ _ _ _ _|exact ih1 _ _ _ _ _ _ _ _|exact spec_Arity.mono _ _|exact spec_l3Name.mono _ _|exact spec_l3Names.mono _ _|exact lrz _|exact lnz _|refine liz ?_ ?_|refine lbz ?_ fun _=>?_
  ·intro y0 y1 y2 y3 y4 y5 y6 y7
   unfold spec_l3Fields.j1
   with_reducible repeat' first|exact ih0 _ _ _ _ _ _ _ _|exact ih1 _ _ _ _ _ _ _ _|exact spec_Arity.mono _ _|exact spec_l3Name.mono _ _|exact spec_l3Names.mono _ _|exact lrz _|exact lnz _|refine liz ?_ ?_|refine lbz ?_ fun _=>?_
theorem spec_l3Fields.mono:∀ a0 a1 a2 a3 a4 a5 a6 k,LeO (spec_l3Fields.f k a0 a1 a2 a3 a4 a5 a6) (spec_l3Fields.f (k+1) a0 a1 a2 a3 a4 a5 a6):=by
 intro a0 a1 a2 a3 a4 a5 a6 k
 obtain ⟨ih0,ih1⟩:=spec_l3Fields.mono_l k
 unfold spec_l3Fields.f
 with_reducible repeat' first|exact ih0 _ _ _ _ _ _ _ _|exact ih1 _ _ _ _ _ _ _ _|exact spec_Arity.mono _ _|exact spec_l3Name.mono _ _|exact spec_l3Names.mono _ _|exact lrz _|exact lnz _|refine liz ?_ ?_|refine lbz ?_ fun _=>?_
set_option maxHeartbeats 8000000 in
set_option maxRecDepth 100000 in
theorem spec_l3Fields.calls (k:Nat) (a0_0:Int) (a0_1:Int) (a0_2:Int) (a0_3:Int) (a0_4:Int) (a0_5:ByteArray) (a0_6:ByteArray) (r:Bool) (w:World) (h:spec_l3Fields.f k a0_0 a0_1 a0_2 a0_3 a0_4 a0_5 a0_6=some r) :
  Calls Tryz.prog 60 #[.agg #[.int .i64 a0_0,.int .i64 a0_1,.int .i64 a0_2,.int .i64 a0_3,.int .i64 a0_4,.string a0_5,.string a0_6]] w fun e w'=>e=.returned (.bool r) /\ Below w.heap.size w w':=by
 have hu45:=Tryz.underlying45
 have HB:=am (Below.refl w.heap.size w)
 have H:((spec_l1In.f a0_0 1 19).bind fun t560=>(if t560=true then ((spec_Arity.f k a0_0).bind fun t561=>(if t561<1 then (if a0_1=0 then (if t561<2 then (if a0_2=0 then (if t561<3 then (spec_l3Fields.j0 k (a0_3 != 0) a0_0 a0_1 a0_2 a0_3 a0_4 a0_5 a0_6) else (spec_l3Fields.j0 k false a0_0 a0_1 a0_2 a0_3 a0_4 a0_5 a0_6)) else (spec_l3Fields.j0 k true a0_0 a0_1 a0_2 a0_3 a0_4 a0_5 a0_6)) else (if t561<3 then (spec_l3Fields.j0 k (a0_3 != 0) a0_0 a0_1 a0_2 a0_3 a0_4 a0_5 a0_6) else (spec_l3Fields.j0 k false a0_0 a0_1 a0_2 a0_3 a0_4 a0_5 a0_6))) else (spec_l3Fields.j0 k true a0_0 a0_1 a0_2 a0_3 a0_4 a0_5 a0_6)) else (if t561<2 then (if a0_2=0 then (if t561<3 then (spec_l3Fields.j0 k (a0_3 != 0) a0_0 a0_1 a0_2 a0_3 a0_4 a0_5 a0_6) else (spec_l3Fields.j0 k false a0_0 a0_1 a0_2 a0_3 a0_4 a0_5 a0_6)) else (spec_l3Fields.j0 k true a0_0 a0_1 a0_2 a0_3 a0_4 a0_5 a0_6)) else (if t561<3 then (spec_l3Fields.j0 k (a0_3 != 0) a0_0 a0_1 a0_2 a0_3 a0_4 a0_5 a0_6) else (spec_l3Fields.j0 k false a0_0 a0_1 a0_2 a0_3 a0_4 a0_5 a0_6))))) else (some false)))=some r:=h
 clear h
 replace H:=bi H
 obtain ⟨t560,A20,H⟩:=H
 try dsimp only at H
 have A2:=am A20
 clear A20
 by_cases c3:t560=true
 ·subst c3
  have H1:=hp H
  clear H
  have H:=H1
  clear H1
  replace H:=bi H
  obtain ⟨t561,A40,H⟩:=H
  try dsimp only at H
  have A4:=am A40
  clear A40
  have HC5:=am H
  clear H
  go_enter Tryz.func60,Tryz.ntmps60
  go_upto_region 4 with (first|((with_reducible refine gate_dst (N:=1) rfl ?_);refine box_event ?hg (N:=1) ?hd (cs:=#[.int .i64 a0_0,.int .i64 a0_1,.int .i64 a0_2,.int .i64 a0_3,.int .i64 a0_4,.string a0_5,.string a0_6]) (t:=45) ?hr ?_;(case hd=>rfl);(case hg=>rfl);(case hr=>exact vz);intro gb559 hg w6 hbox hb;have BK559:=am (hbox);have GW559:=am ((by rw [hg];exact (below_size (bz0 HB.out)):w.heap.size <= gb559));have GE559:=GW559;replace HB:=bs (bz0 HB.out) hb;clear hb hbox hg;obtain ⟨hcz7_0,hcz7_1,hcz7_2,hcz7_3,hcz7_4,hcz7_5,hcz7_6⟩:=cz7 BK559.out;obtain ⟨hfz7_0,hfz7_1,hfz7_2,hfz7_3,hfz7_4,hfz7_5,hfz7_6⟩:=fz7 BK559.out)|((with_reducible refine gate_callee (f:=40) rfl ?_);refine goesL_ (some 7) rfl rfl Tryz.func40 kr rfl #[.int .i64 a0_0,.int .i64 1,.int .i64 19] rfl lz ?_;(with_reducible refine (spec_l1In.calls a0_0 1 19 true _ A2.out).mono ?_);rintro e w' ⟨rfl,⟨nd,rfl⟩⟩;refine ⟨_,rfl,?_⟩)|((with_reducible refine gate_callee (f:=79) rfl ?_);refine goesL_ (some 11) rfl rfl Tryz.func79 kr rfl #[.int .i64 a0_0] rfl lz ?_;(with_reducible refine (spec_Arity.calls k a0_0 t561 _ A4.out).mono ?_);rintro e w' ⟨rfl,⟨nd,rfl⟩⟩;refine ⟨_,rfl,?_⟩))
  (try simp only [Act.put,sz1,sz2,sz3])
  go_cut [36] (fun v36 wc=>∃ (kq:Nat) (x36_4:Bool),v36=.bool x36_4 /\ Aside0 (spec_l3Fields.j0 kq x36_4 a0_0 a0_1 a0_2 a0_3 a0_4 a0_5 a0_6=some r) /\ Aside0 (kq <= k) /\ Aside0 (wc.heap[gb559]?=some (.cells #[.int .i64 a0_0,.int .i64 a0_1,.int .i64 a0_2,.int .i64 a0_3,.int .i64 a0_4,.string a0_5,.string a0_6] 45 (0,0))) /\ Aside0 (Below w.heap.size w wc))
  case first =>
   have H:=HC5.out
   clear HC5
   by_cases c8:t561<1
   ·rw [if_pos c8] at H
    have c8b0:=decide_eq_true c8
    clear c8
    (first|rw [c8b0]|(simp only [i64_w,i32_w];rw [c8b0])|skip)
    by_cases c9:a0_1=0
    ·rw [if_pos c9] at H
     have c9b0:(a0_1 == 0)=true:=beq_iff_eq.mpr c9
     have c9b1:(a0_1 != 0)=false:=bne_eq_false_iff_eq.mpr c9
     clear c9
     by_cases c10:t561<2
     ·rw [if_pos c10] at H
      have c10b0:=decide_eq_true c10
      clear c10
      by_cases c11:a0_2=0
      ·rw [if_pos c11] at H
       have c11b0:(a0_2 == 0)=true:=beq_iff_eq.mpr c11
       have c11b1:(a0_2 != 0)=false:=bne_eq_false_iff_eq.mpr c11
       clear c11
       by_cases c12:t561<3
       ·rw [if_pos c12] at H
        have c12b0:=decide_eq_true c12
        clear c12
        have H':=am H
        clear H
        obtain ⟨hcz13_0,hcz13_1,hcz13_2,hcz13_3,hcz13_4,hcz13_5,hcz13_6⟩:=cz7 BK559.out
        obtain ⟨hfz13_0,hfz13_1,hfz13_2,hfz13_3,hfz13_4,hfz13_5,hfz13_6⟩:=fz7 BK559.out
        go_wp2
        go_meet
        case rel=>exact ⟨_,((a0_3 != 0)),ez,H',⟨by first|omega|exact Nat.le_refl _⟩,⟨by refine kq ?_;exact BK559.out⟩,⟨(bz1 HB.out GE559.out)⟩⟩
       ·rw [if_neg c12] at H
        have c12b0:=decide_eq_false c12
        clear c12
        have H':=am H
        clear H
        obtain ⟨hcz14_0,hcz14_1,hcz14_2,hcz14_3,hcz14_4,hcz14_5,hcz14_6⟩:=cz7 BK559.out
        obtain ⟨hfz14_0,hfz14_1,hfz14_2,hfz14_3,hfz14_4,hfz14_5,hfz14_6⟩:=fz7 BK559.out
        go_wp2
        go_meet
        case rel=>exact ⟨_,(false),ez,H',⟨by first|omega|exact Nat.le_refl _⟩,⟨by refine kq ?_;exact BK559.out⟩,⟨(bz1 HB.out GE559.out)⟩⟩
      ·rw [if_neg c11] at H
       have c11b0:(a0_2 == 0)=false:=beq_eq_false_iff_ne.mpr c11
       have c11b1:(a0_2 != 0)=true:=bne_iff_ne.mpr c11
       have H':=am H
       clear H
       obtain ⟨hcz15_0,hcz15_1,hcz15_2,hcz15_3,hcz15_4,hcz15_5,hcz15_6⟩:=cz7 BK559.out
       obtain ⟨hfz15_0,hfz15_1,hfz15_2,hfz15_3,hfz15_4,hfz15_5,hfz15_6⟩:=fz7 BK559.out
       go_wp2
       go_meet
       case rel=>exact ⟨_,(true),ez,H',⟨by first|omega|exact Nat.le_refl _⟩,⟨by refine kq ?_;exact BK559.out⟩,⟨(bz1 HB.out GE559.out)⟩⟩
     ·rw [if_neg c10] at H
      have c10b0:=decide_eq_false c10
      clear c10
      by_cases c16:t561<3
      ·rw [if_pos c16] at H
       have c16b0:=decide_eq_true c16
       clear c16
       have H':=am H
       clear H
       obtain ⟨hcz17_0,hcz17_1,hcz17_2,hcz17_3,hcz17_4,hcz17_5,hcz17_6⟩:=cz7 BK559.out
       obtain ⟨hfz17_0,hfz17_1,hfz17_2,hfz17_3,hfz17_4,hfz17_5,hfz17_6⟩:=fz7 BK559.out
       go_wp2
       go_meet
       case rel=>exact ⟨_,((a0_3 != 0)),ez,H',⟨by first|omega|exact Nat.le_refl _⟩,⟨by refine kq ?_;exact BK559.out⟩,⟨(bz1 HB.out GE559.out)⟩⟩
      ·rw [if_neg c16] at H
       have c16b0:=decide_eq_false c16
       clear c16
       have H':=am H
       clear H
       obtain ⟨hcz18_0,hcz18_1,hcz18_2,hcz18_3,hcz18_4,hcz18_5,hcz18_6⟩:=cz7 BK559.out
       obtain ⟨hfz18_0,hfz18_1,hfz18_2,hfz18_3,hfz18_4,hfz18_5,hfz18_6⟩:=fz7 BK559.out
       go_wp2
       go_meet
       case rel=>exact ⟨_,(false),ez,H',⟨by first|omega|exact Nat.le_refl _⟩,⟨by refine kq ?_;exact BK559.out⟩,⟨(bz1 HB.out GE559.out)⟩⟩
    ·rw [if_neg c9] at H
     have c9b0:(a0_1 == 0)=false:=beq_eq_false_iff_ne.mpr c9
     have c9b1:(a0_1 != 0)=true:=bne_iff_ne.mpr c9
     have H':=am H
     clear H
     obtain ⟨hcz19_0,hcz19_1,hcz19_2,hcz19_3,hcz19_4,hcz19_5,hcz19_6⟩:=cz7 BK559.out
     obtain ⟨hfz19_0,hfz19_1,hfz19_2,hfz19_3,hfz19_4,hfz19_5,hfz19_6⟩:=fz7 BK559.out
     go_wp2
     go_meet
     case rel=>exact ⟨_,(true),ez,H',⟨by first|omega|exact Nat.le_refl _⟩,⟨by refine kq ?_;exact BK559.out⟩,⟨(bz1 HB.out GE559.out)⟩⟩
   ·rw [if_neg c8] at H
    have c8b0:=decide_eq_false c8
    clear c8
    (first|rw [c8b0]|(simp only [i64_w,i32_w];rw [c8b0])|skip)
    by_cases c20:t561<2
    ·rw [if_pos c20] at H
     have c20b0:=decide_eq_true c20
     clear c20
     by_cases c21:a0_2=0
     ·rw [if_pos c21] at H
      have c21b0:(a0_2 == 0)=true:=beq_iff_eq.mpr c21
      have c21b1:(a0_2 != 0)=false:=bne_eq_false_iff_eq.mpr c21
      clear c21
      by_cases c22:t561<3
      ·rw [if_pos c22] at H
       have c22b0:=decide_eq_true c22
       clear c22
       have H':=am H
       clear H
       obtain ⟨hcz23_0,hcz23_1,hcz23_2,hcz23_3,hcz23_4,hcz23_5,hcz23_6⟩:=cz7 BK559.out
       obtain ⟨hfz23_0,hfz23_1,hfz23_2,hfz23_3,hfz23_4,hfz23_5,hfz23_6⟩:=fz7 BK559.out
       go_wp2
       go_meet
       case rel=>exact ⟨_,((a0_3 != 0)),ez,H',⟨by first|omega|exact Nat.le_refl _⟩,⟨by refine kq ?_;exact BK559.out⟩,⟨(bz1 HB.out GE559.out)⟩⟩
      ·rw [if_neg c22] at H
       have c22b0:=decide_eq_false c22
       clear c22
       have H':=am H
       clear H
       obtain ⟨hcz24_0,hcz24_1,hcz24_2,hcz24_3,hcz24_4,hcz24_5,hcz24_6⟩:=cz7 BK559.out
       obtain ⟨hfz24_0,hfz24_1,hfz24_2,hfz24_3,hfz24_4,hfz24_5,hfz24_6⟩:=fz7 BK559.out
       go_wp2
       go_meet
       case rel=>exact ⟨_,(false),ez,H',⟨by first|omega|exact Nat.le_refl _⟩,⟨by refine kq ?_;exact BK559.out⟩,⟨(bz1 HB.out GE559.out)⟩⟩
     ·rw [if_neg c21] at H
      have c21b0:(a0_2 == 0)=false:=beq_eq_false_iff_ne.mpr c21
      have c21b1:(a0_2 != 0)=true:=bne_iff_ne.mpr c21
      have H':=am H
      clear H
      obtain ⟨hcz25_0,hcz25_1,hcz25_2,hcz25_3,hcz25_4,hcz25_5,hcz25_6⟩:=cz7 BK559.out
      obtain ⟨hfz25_0,hfz25_1,hfz25_2,hfz25_3,hfz25_4,hfz25_5,hfz25_6⟩:=fz7 BK559.out
      go_wp2
      go_meet
      case rel=>exact ⟨_,(true),ez,H',⟨by first|omega|exact Nat.le_refl _⟩,⟨by refine kq ?_;exact BK559.out⟩,⟨(bz1 HB.out GE559.out)⟩⟩
    ·rw [if_neg c20] at H
     have c20b0:=decide_eq_false c20
     clear c20
     by_cases c26:t561<3
     ·rw [if_pos c26] at H
      have c26b0:=decide_eq_true c26
      clear c26
      have H':=am H
      clear H
      obtain ⟨hcz27_0,hcz27_1,hcz27_2,hcz27_3,hcz27_4,hcz27_5,hcz27_6⟩:=cz7 BK559.out
      obtain ⟨hfz27_0,hfz27_1,hfz27_2,hfz27_3,hfz27_4,hfz27_5,hfz27_6⟩:=fz7 BK559.out
      go_wp2
      go_meet
      case rel=>exact ⟨_,((a0_3 != 0)),ez,H',⟨by first|omega|exact Nat.le_refl _⟩,⟨by refine kq ?_;exact BK559.out⟩,⟨(bz1 HB.out GE559.out)⟩⟩
     ·rw [if_neg c26] at H
      have c26b0:=decide_eq_false c26
      clear c26
      have H':=am H
      clear H
      go_wp2
      go_meet
      case rel=>exact ⟨_,(false),ez,H',⟨by first|omega|exact Nat.le_refl _⟩,⟨by refine kq ?_;exact BK559.out⟩,⟨(bz1 HB.out GE559.out)⟩⟩
  case rest =>
   clear HC5
   try clear c1
   try clear c2
   try clear p2
   try clear c3
   try clear c4
   try clear c6
   try clear c7
   try clear c8
   try clear c8b0
   try clear c9
   try clear c9b0
   try clear c9b1
   try clear c10
   try clear c10b0
   try clear c11
   try clear c11b0
   try clear c11b1
   try clear c12
   try clear c12b0
   try clear c16
   try clear c16b0
   try clear c20
   try clear c20b0
   try clear c21
   try clear c21b0
   try clear c21b1
   try clear c22
   try clear c22b0
   try clear c26
   try clear c26b0
   try clear hcz13_0 hcz13_1 hcz13_2 hcz13_3 hcz13_4 hcz13_5 hcz13_6
   try clear hcz14_0 hcz14_1 hcz14_2 hcz14_3 hcz14_4 hcz14_5 hcz14_6
   try clear hcz15_0 hcz15_1 hcz15_2 hcz15_3 hcz15_4 hcz15_5 hcz15_6
   try clear hcz17_0 hcz17_1 hcz17_2 hcz17_3 hcz17_4 hcz17_5 hcz17_6
   try clear hcz18_0 hcz18_1 hcz18_2 hcz18_3 hcz18_4 hcz18_5 hcz18_6
   try clear hcz19_0 hcz19_1 hcz19_2 hcz19_3 hcz19_4 hcz19_5 hcz19_6
   try clear hcz23_0 hcz23_1 hcz23_2 hcz23_3 hcz23_4 hcz23_5 hcz23_6
   try clear hcz24_0 hcz24_1 hcz24_2 hcz24_3 hcz24_4 hcz24_5 hcz24_6
   try clear hcz25_0 hcz25_1 hcz25_2 hcz25_3 hcz25_4 hcz25_5 hcz25_6
   try clear hcz27_0 hcz27_1 hcz27_2 hcz27_3 hcz27_4 hcz27_5 hcz27_6
   try clear hcz7_0 hcz7_1 hcz7_2 hcz7_3 hcz7_4 hcz7_5 hcz7_6
   try clear hfz13_0 hfz13_1 hfz13_2 hfz13_3 hfz13_4 hfz13_5 hfz13_6
   try clear hfz14_0 hfz14_1 hfz14_2 hfz14_3 hfz14_4 hfz14_5 hfz14_6
   try clear hfz15_0 hfz15_1 hfz15_2 hfz15_3 hfz15_4 hfz15_5 hfz15_6
   try clear hfz17_0 hfz17_1 hfz17_2 hfz17_3 hfz17_4 hfz17_5 hfz17_6
   try clear hfz18_0 hfz18_1 hfz18_2 hfz18_3 hfz18_4 hfz18_5 hfz18_6
   try clear hfz19_0 hfz19_1 hfz19_2 hfz19_3 hfz19_4 hfz19_5 hfz19_6
   try clear hfz23_0 hfz23_1 hfz23_2 hfz23_3 hfz23_4 hfz23_5 hfz23_6
   try clear hfz24_0 hfz24_1 hfz24_2 hfz24_3 hfz24_4 hfz24_5 hfz24_6
   try clear hfz25_0 hfz25_1 hfz25_2 hfz25_3 hfz25_4 hfz25_5 hfz25_6
   try clear hfz27_0 hfz27_1 hfz27_2 hfz27_3 hfz27_4 hfz27_5 hfz27_6
   try clear hfz7_0 hfz7_1 hfz7_2 hfz7_3 hfz7_4 hfz7_5 hfz7_6
   obtain ⟨kq,x36_4,rfl,HA,HJ4,BK559,HB⟩:=hcut
   cases kq with
   | zero=>exact absurd HA.out (by simp [spec_l3Fields.j0])
   | succ kj4 =>
    have H:=HA.out
    clear HA
    simp only [spec_l3Fields.j0] at H
    by_cases c28:x36_4=true
    ·subst c28
     have H1:=hp H
     clear H
     have H:=H1
     clear H1
     obtain rfl:=Option.some.inj H
     go_wp2
     go_ret
     exact ⟨gz,(bz1 HB.out GE559.out)⟩
    ·replace c28:=Bool.eq_false_iff.mpr c28
     subst c28
     have H1:=hq H
     clear H
     have H:=H1
     clear H1
     replace H:=bi H
     obtain ⟨t562,A290,H⟩:=H
     try dsimp only at H
     have A29:=am A290
     clear A290
     have HC30:=am H
     clear H
     obtain ⟨hcz31_0,hcz31_1,hcz31_2,hcz31_3,hcz31_4,hcz31_5,hcz31_6⟩:=cz7 BK559.out
     obtain ⟨hfz31_0,hfz31_1,hfz31_2,hfz31_3,hfz31_4,hfz31_5,hfz31_6⟩:=fz7 BK559.out
     go_upto_region 7 with (first|((with_reducible refine gate_callee (f:=80) rfl ?_);refine goesL_ (some 39) rfl rfl Tryz.func80 kr rfl #[.int .i64 a0_0] rfl lz ?_;(with_reducible refine (spec_l3Names.calls kj4 a0_0 t562 _ A29.out).mono ?_);rintro e w' ⟨rfl,⟨nd,rfl⟩⟩;refine ⟨_,rfl,?_⟩))
     (try simp only [Act.put,sz1,sz2,sz3])
     go_cut [71] (fun v71 wc=>∃ (kq:Nat) (x71_29:Bool),v71=.bool x71_29 /\ Aside0 (spec_l3Fields.j1 kq x71_29 a0_0 a0_1 a0_2 a0_3 a0_4 a0_5 a0_6=some r) /\ Aside0 (kq <= kj4) /\ Aside0 (wc.heap[gb559]?=some (.cells #[.int .i64 a0_0,.int .i64 a0_1,.int .i64 a0_2,.int .i64 a0_3,.int .i64 a0_4,.string a0_5,.string a0_6] 45 (0,0))) /\ Aside0 (Below w.heap.size w wc))
     case first =>
      have H:=HC30.out
      clear HC30
      replace H:=bi H
      obtain ⟨t563,A320,H⟩:=H
      try dsimp only at H
      have A32:=am A320
      clear A320
      by_cases c33:((decide (t562 > 0)) != t563)=true
      ·rw [if_pos c33] at H
       have c33b0:((decide (t562 > 0)) != t563)=true:=c33
       (try (have c33b1:decide ((decide (t562 > 0))=t563)=false:=by simpa using c33))
       (try (have c33b2:((decide (t562 > 0)) == t563)=false:=by simpa using c33))
       (try (have c33b3:¬ ((decide (t562 > 0))=t563):=by simpa using c33))
       clear c33
       (first|rw [c33b0]|(simp only [i64_w,i32_w];rw [c33b0])|skip)
       have H':=am H
       clear H
       obtain ⟨hcz34_0,hcz34_1,hcz34_2,hcz34_3,hcz34_4,hcz34_5,hcz34_6⟩:=cz7 BK559.out
       obtain ⟨hfz34_0,hfz34_1,hfz34_2,hfz34_3,hfz34_4,hfz34_5,hfz34_6⟩:=fz7 BK559.out
       go_wp2_with (first|((with_reducible refine gate_callee (f:=26) rfl ?_);refine goesL_ (some 44) rfl rfl Tryz.func26 kr rfl #[.string a0_5] rfl lz ?_;(with_reducible refine (spec_l3Name.calls kj4 a0_5 t563 _ A32.out).mono ?_);rintro e w35 ⟨rfl,hb⟩;refine ⟨_,rfl,?_⟩;replace BK559:=kb BK559 hb;replace HB:=bs (bz1 HB.out GE559.out) hb;(try clear hb);(try clear hi)))
       go_meet
       case rel=>exact ⟨_,(true),ez,H',⟨by have:=HJ4.out;first|omega|exact Nat.le_refl _⟩,⟨by refine kq ?_;exact BK559.out⟩,⟨(bz1 HB.out GE559.out)⟩⟩
      ·rw [if_neg c33] at H
       have c33b0:((decide (t562 > 0)) != t563)=false:=by simpa using c33
       (try (have c33b1:decide ((decide (t562 > 0))=t563)=true:=by simpa using c33))
       (try (have c33b2:((decide (t562 > 0)) == t563)=true:=by simpa using c33))
       clear c33
       (first|rw [c33b0]|(simp only [i64_w,i32_w];rw [c33b0])|skip)
       by_cases c36:t562=0
       ·rw [if_pos c36] at H
        have c36b0:(t562 == 0)=true:=beq_iff_eq.mpr c36
        have c36b1:(t562 != 0)=false:=bne_eq_false_iff_eq.mpr c36
        clear c36
        by_cases c37:a0_5.toList=([]:List UInt8)
        ·rw [if_pos c37] at H
         have c37b0:(a0_5.toList == ([]:List UInt8))=true:=beq_iff_eq.mpr c37
         have c37b1:(a0_5.toList != ([]:List UInt8))=false:=bne_eq_false_iff_eq.mpr c37
         clear c37
         replace H:=bi H
         obtain ⟨t564,A380,H⟩:=H
         try dsimp only at H
         have A38:=am A380
         clear A380
         by_cases c39:((decide (t562 > 1)) != t564)=true
         ·rw [if_pos c39] at H
          have c39b0:((decide (t562 > 1)) != t564)=true:=c39
          (try (have c39b1:decide ((decide (t562 > 1))=t564)=false:=by simpa using c39))
          (try (have c39b2:((decide (t562 > 1)) == t564)=false:=by simpa using c39))
          (try (have c39b3:¬ ((decide (t562 > 1))=t564):=by simpa using c39))
          clear c39
          have H':=am H
          clear H
          obtain ⟨hcz40_0,hcz40_1,hcz40_2,hcz40_3,hcz40_4,hcz40_5,hcz40_6⟩:=cz7 BK559.out
          obtain ⟨hfz40_0,hfz40_1,hfz40_2,hfz40_3,hfz40_4,hfz40_5,hfz40_6⟩:=fz7 BK559.out
          go_wp2_with (first|((with_reducible refine gate_callee (f:=26) rfl ?_);refine goesL_ (some 44) rfl rfl Tryz.func26 kr rfl #[.string a0_5] rfl lz ?_;(with_reducible refine (spec_l3Name.calls kj4 a0_5 t563 _ A32.out).mono ?_);rintro e w41 ⟨rfl,hb⟩;refine ⟨_,rfl,?_⟩;replace BK559:=kb BK559 hb;replace HB:=bs (bz1 HB.out GE559.out) hb;(try clear hb);obtain ⟨hcz42_0,hcz42_1,hcz42_2,hcz42_3,hcz42_4,hcz42_5,hcz42_6⟩:=cz7 BK559.out;obtain ⟨hfz42_0,hfz42_1,hfz42_2,hfz42_3,hfz42_4,hfz42_5,hfz42_6⟩:=fz7 BK559.out)|(go_at_call 26;(with_reducible refine (spec_l3Name.calls kj4 a0_6 t564 _ A38.out).mono ?_);rintro e w43 ⟨rfl,hb⟩;replace BK559:=kb BK559 hb;replace HB:=bs (bz1 HB.out GE559.out) hb;(try clear hb);(try clear hi)))
          go_meet
          case rel=>exact ⟨_,(true),ez,H',⟨by have:=HJ4.out;first|omega|exact Nat.le_refl _⟩,⟨by refine kq ?_;exact BK559.out⟩,⟨(bz1 HB.out GE559.out)⟩⟩
         ·rw [if_neg c39] at H
          have c39b0:((decide (t562 > 1)) != t564)=false:=by simpa using c39
          (try (have c39b1:decide ((decide (t562 > 1))=t564)=true:=by simpa using c39))
          (try (have c39b2:((decide (t562 > 1)) == t564)=true:=by simpa using c39))
          clear c39
          by_cases c44:t562<2
          ·rw [if_pos c44] at H
           have c44b0:=decide_eq_true c44
           clear c44
           have H':=am H
           clear H
           obtain ⟨hcz45_0,hcz45_1,hcz45_2,hcz45_3,hcz45_4,hcz45_5,hcz45_6⟩:=cz7 BK559.out
           obtain ⟨hfz45_0,hfz45_1,hfz45_2,hfz45_3,hfz45_4,hfz45_5,hfz45_6⟩:=fz7 BK559.out
           go_wp2_with (first|((with_reducible refine gate_callee (f:=26) rfl ?_);refine goesL_ (some 44) rfl rfl Tryz.func26 kr rfl #[.string a0_5] rfl lz ?_;(with_reducible refine (spec_l3Name.calls kj4 a0_5 t563 _ A32.out).mono ?_);rintro e w46 ⟨rfl,hb⟩;refine ⟨_,rfl,?_⟩;replace BK559:=kb BK559 hb;replace HB:=bs (bz1 HB.out GE559.out) hb;(try clear hb);obtain ⟨hcz47_0,hcz47_1,hcz47_2,hcz47_3,hcz47_4,hcz47_5,hcz47_6⟩:=cz7 BK559.out;obtain ⟨hfz47_0,hfz47_1,hfz47_2,hfz47_3,hfz47_4,hfz47_5,hfz47_6⟩:=fz7 BK559.out)|(go_at_call 26;(with_reducible refine (spec_l3Name.calls kj4 a0_6 t564 _ A38.out).mono ?_);rintro e w48 ⟨rfl,hb⟩;replace BK559:=kb BK559 hb;replace HB:=bs (bz1 HB.out GE559.out) hb;(try clear hb);obtain ⟨hcz49_0,hcz49_1,hcz49_2,hcz49_3,hcz49_4,hcz49_5,hcz49_6⟩:=cz7 BK559.out;obtain ⟨hfz49_0,hfz49_1,hfz49_2,hfz49_3,hfz49_4,hfz49_5,hfz49_6⟩:=fz7 BK559.out))
           go_meet
           case rel=>exact ⟨_,((a0_6.toList != ([]:List UInt8))),ez,H',⟨by have:=HJ4.out;first|omega|exact Nat.le_refl _⟩,⟨by refine kq ?_;exact BK559.out⟩,⟨(bz1 HB.out GE559.out)⟩⟩
          ·rw [if_neg c44] at H
           have c44b0:=decide_eq_false c44
           clear c44
           have H':=am H
           clear H
           obtain ⟨hcz50_0,hcz50_1,hcz50_2,hcz50_3,hcz50_4,hcz50_5,hcz50_6⟩:=cz7 BK559.out
           obtain ⟨hfz50_0,hfz50_1,hfz50_2,hfz50_3,hfz50_4,hfz50_5,hfz50_6⟩:=fz7 BK559.out
           go_wp2_with (first|((with_reducible refine gate_callee (f:=26) rfl ?_);refine goesL_ (some 44) rfl rfl Tryz.func26 kr rfl #[.string a0_5] rfl lz ?_;(with_reducible refine (spec_l3Name.calls kj4 a0_5 t563 _ A32.out).mono ?_);rintro e w51 ⟨rfl,hb⟩;refine ⟨_,rfl,?_⟩;replace BK559:=kb BK559 hb;replace HB:=bs (bz1 HB.out GE559.out) hb;(try clear hb);obtain ⟨hcz52_0,hcz52_1,hcz52_2,hcz52_3,hcz52_4,hcz52_5,hcz52_6⟩:=cz7 BK559.out;obtain ⟨hfz52_0,hfz52_1,hfz52_2,hfz52_3,hfz52_4,hfz52_5,hfz52_6⟩:=fz7 BK559.out)|(go_at_call 26;(with_reducible refine (spec_l3Name.calls kj4 a0_6 t564 _ A38.out).mono ?_);rintro e w53 ⟨rfl,hb⟩;replace BK559:=kb BK559 hb;replace HB:=bs (bz1 HB.out GE559.out) hb;(try clear hb);(try clear hi)))
           go_meet
           case rel=>exact ⟨_,(false),ez,H',⟨by have:=HJ4.out;first|omega|exact Nat.le_refl _⟩,⟨by refine kq ?_;exact BK559.out⟩,⟨(bz1 HB.out GE559.out)⟩⟩
        ·rw [if_neg c37] at H
         have c37b0:(a0_5.toList == ([]:List UInt8))=false:=beq_eq_false_iff_ne.mpr c37
         have c37b1:(a0_5.toList != ([]:List UInt8))=true:=bne_iff_ne.mpr c37
         have H':=am H
         clear H
         obtain ⟨hcz54_0,hcz54_1,hcz54_2,hcz54_3,hcz54_4,hcz54_5,hcz54_6⟩:=cz7 BK559.out
         obtain ⟨hfz54_0,hfz54_1,hfz54_2,hfz54_3,hfz54_4,hfz54_5,hfz54_6⟩:=fz7 BK559.out
         go_wp2_with (first|((with_reducible refine gate_callee (f:=26) rfl ?_);refine goesL_ (some 44) rfl rfl Tryz.func26 kr rfl #[.string a0_5] rfl lz ?_;(with_reducible refine (spec_l3Name.calls kj4 a0_5 t563 _ A32.out).mono ?_);rintro e w55 ⟨rfl,hb⟩;refine ⟨_,rfl,?_⟩;replace BK559:=kb BK559 hb;replace HB:=bs (bz1 HB.out GE559.out) hb;(try clear hb);obtain ⟨hcz56_0,hcz56_1,hcz56_2,hcz56_3,hcz56_4,hcz56_5,hcz56_6⟩:=cz7 BK559.out;obtain ⟨hfz56_0,hfz56_1,hfz56_2,hfz56_3,hfz56_4,hfz56_5,hfz56_6⟩:=fz7 BK559.out))
         go_meet
         case rel=>exact ⟨_,(true),ez,H',⟨by have:=HJ4.out;first|omega|exact Nat.le_refl _⟩,⟨by refine kq ?_;exact BK559.out⟩,⟨(bz1 HB.out GE559.out)⟩⟩
       ·rw [if_neg c36] at H
        have c36b0:(t562 == 0)=false:=beq_eq_false_iff_ne.mpr c36
        have c36b1:(t562 != 0)=true:=bne_iff_ne.mpr c36
        replace H:=bi H
        obtain ⟨t565,A570,H⟩:=H
        try dsimp only at H
        have A57:=am A570
        clear A570
        by_cases c58:((decide (t562 > 1)) != t565)=true
        ·rw [if_pos c58] at H
         have c58b0:((decide (t562 > 1)) != t565)=true:=c58
         (try (have c58b1:decide ((decide (t562 > 1))=t565)=false:=by simpa using c58))
         (try (have c58b2:((decide (t562 > 1)) == t565)=false:=by simpa using c58))
         (try (have c58b3:¬ ((decide (t562 > 1))=t565):=by simpa using c58))
         clear c58
         have H':=am H
         clear H
         obtain ⟨hcz59_0,hcz59_1,hcz59_2,hcz59_3,hcz59_4,hcz59_5,hcz59_6⟩:=cz7 BK559.out
         obtain ⟨hfz59_0,hfz59_1,hfz59_2,hfz59_3,hfz59_4,hfz59_5,hfz59_6⟩:=fz7 BK559.out
         go_wp2_with (first|((with_reducible refine gate_callee (f:=26) rfl ?_);refine goesL_ (some 44) rfl rfl Tryz.func26 kr rfl #[.string a0_5] rfl lz ?_;(with_reducible refine (spec_l3Name.calls kj4 a0_5 t563 _ A32.out).mono ?_);rintro e w60 ⟨rfl,hb⟩;refine ⟨_,rfl,?_⟩;replace BK559:=kb BK559 hb;replace HB:=bs (bz1 HB.out GE559.out) hb;(try clear hb);obtain ⟨hcz61_0,hcz61_1,hcz61_2,hcz61_3,hcz61_4,hcz61_5,hcz61_6⟩:=cz7 BK559.out;obtain ⟨hfz61_0,hfz61_1,hfz61_2,hfz61_3,hfz61_4,hfz61_5,hfz61_6⟩:=fz7 BK559.out)|(go_at_call 26;(with_reducible refine (spec_l3Name.calls kj4 a0_6 t565 _ A57.out).mono ?_);rintro e w62 ⟨rfl,hb⟩;replace BK559:=kb BK559 hb;replace HB:=bs (bz1 HB.out GE559.out) hb;(try clear hb);(try clear hi)))
         go_meet
         case rel=>exact ⟨_,(true),ez,H',⟨by have:=HJ4.out;first|omega|exact Nat.le_refl _⟩,⟨by refine kq ?_;exact BK559.out⟩,⟨(bz1 HB.out GE559.out)⟩⟩
        ·rw [if_neg c58] at H
         have c58b0:((decide (t562 > 1)) != t565)=false:=by simpa using c58
         (try (have c58b1:decide ((decide (t562 > 1))=t565)=true:=by simpa using c58))
         (try (have c58b2:((decide (t562 > 1)) == t565)=true:=by simpa using c58))
         clear c58
         by_cases c63:t562<2
         ·rw [if_pos c63] at H
          have c63b0:=decide_eq_true c63
          clear c63
          have H':=am H
          clear H
          obtain ⟨hcz64_0,hcz64_1,hcz64_2,hcz64_3,hcz64_4,hcz64_5,hcz64_6⟩:=cz7 BK559.out
          obtain ⟨hfz64_0,hfz64_1,hfz64_2,hfz64_3,hfz64_4,hfz64_5,hfz64_6⟩:=fz7 BK559.out
          go_wp2_with (first|((with_reducible refine gate_callee (f:=26) rfl ?_);refine goesL_ (some 44) rfl rfl Tryz.func26 kr rfl #[.string a0_5] rfl lz ?_;(with_reducible refine (spec_l3Name.calls kj4 a0_5 t563 _ A32.out).mono ?_);rintro e w65 ⟨rfl,hb⟩;refine ⟨_,rfl,?_⟩;replace BK559:=kb BK559 hb;replace HB:=bs (bz1 HB.out GE559.out) hb;(try clear hb);obtain ⟨hcz66_0,hcz66_1,hcz66_2,hcz66_3,hcz66_4,hcz66_5,hcz66_6⟩:=cz7 BK559.out;obtain ⟨hfz66_0,hfz66_1,hfz66_2,hfz66_3,hfz66_4,hfz66_5,hfz66_6⟩:=fz7 BK559.out)|(go_at_call 26;(with_reducible refine (spec_l3Name.calls kj4 a0_6 t565 _ A57.out).mono ?_);rintro e w67 ⟨rfl,hb⟩;replace BK559:=kb BK559 hb;replace HB:=bs (bz1 HB.out GE559.out) hb;(try clear hb);obtain ⟨hcz68_0,hcz68_1,hcz68_2,hcz68_3,hcz68_4,hcz68_5,hcz68_6⟩:=cz7 BK559.out;obtain ⟨hfz68_0,hfz68_1,hfz68_2,hfz68_3,hfz68_4,hfz68_5,hfz68_6⟩:=fz7 BK559.out))
          go_meet
          case rel=>exact ⟨_,((a0_6.toList != ([]:List UInt8))),ez,H',⟨by have:=HJ4.out;first|omega|exact Nat.le_refl _⟩,⟨by refine kq ?_;exact BK559.out⟩,⟨(bz1 HB.out GE559.out)⟩⟩
         ·rw [if_neg c63] at H
          have c63b0:=decide_eq_false c63
          clear c63
          have H':=am H
          clear H
          obtain ⟨hcz69_0,hcz69_1,hcz69_2,hcz69_3,hcz69_4,hcz69_5,hcz69_6⟩:=cz7 BK559.out
          obtain ⟨hfz69_0,hfz69_1,hfz69_2,hfz69_3,hfz69_4,hfz69_5,hfz69_6⟩:=fz7 BK559.out
          go_wp2_with (first|((with_reducible refine gate_callee (f:=26) rfl ?_);refine goesL_ (some 44) rfl rfl Tryz.func26 kr rfl #[.string a0_5] rfl lz ?_;(with_reducible refine (spec_l3Name.calls kj4 a0_5 t563 _ A32.out).mono ?_);rintro e w70 ⟨rfl,hb⟩;refine ⟨_,rfl,?_⟩;replace BK559:=kb BK559 hb;replace HB:=bs (bz1 HB.out GE559.out) hb;(try clear hb);obtain ⟨hcz71_0,hcz71_1,hcz71_2,hcz71_3,hcz71_4,hcz71_5,hcz71_6⟩:=cz7 BK559.out;obtain ⟨hfz71_0,hfz71_1,hfz71_2,hfz71_3,hfz71_4,hfz71_5,hfz71_6⟩:=fz7 BK559.out)|(go_at_call 26;(with_reducible refine (spec_l3Name.calls kj4 a0_6 t565 _ A57.out).mono ?_);rintro e w72 ⟨rfl,hb⟩;replace BK559:=kb BK559 hb;replace HB:=bs (bz1 HB.out GE559.out) hb;(try clear hb);(try clear hi)))
          go_meet
          case rel=>exact ⟨_,(false),ez,H',⟨by have:=HJ4.out;first|omega|exact Nat.le_refl _⟩,⟨by refine kq ?_;exact BK559.out⟩,⟨(bz1 HB.out GE559.out)⟩⟩
     case rest =>
      clear HC30
      try clear c1
      try clear c2
      try clear p2
      try clear c3
      try clear c4
      try clear c5
      try clear c6
      try clear c7
      try clear c8
      try clear c8b0
      try clear c9
      try clear c9b0
      try clear c9b1
      try clear c10
      try clear c10b0
      try clear c11
      try clear c11b0
      try clear c11b1
      try clear c12
      try clear c12b0
      try clear c16
      try clear c16b0
      try clear c20
      try clear c20b0
      try clear c21
      try clear c21b0
      try clear c21b1
      try clear c22
      try clear c22b0
      try clear c26
      try clear c26b0
      try clear c28
      try clear c33
      try clear c33b0
      try clear c33b1
      try clear c33b2
      try clear c36
      try clear c36b0
      try clear c36b1
      try clear c37
      try clear c37b0
      try clear c37b1
      try clear c39
      try clear c39b0
      try clear c39b1
      try clear c39b2
      try clear c44
      try clear c44b0
      try clear c58
      try clear c58b0
      try clear c58b1
      try clear c58b2
      try clear c63
      try clear c63b0
      try clear hcz13_0 hcz13_1 hcz13_2 hcz13_3 hcz13_4 hcz13_5 hcz13_6
      try clear hcz14_0 hcz14_1 hcz14_2 hcz14_3 hcz14_4 hcz14_5 hcz14_6
      try clear hcz15_0 hcz15_1 hcz15_2 hcz15_3 hcz15_4 hcz15_5 hcz15_6
      try clear hcz17_0 hcz17_1 hcz17_2 hcz17_3 hcz17_4 hcz17_5 hcz17_6
      try clear hcz18_0 hcz18_1 hcz18_2 hcz18_3 hcz18_4 hcz18_5 hcz18_6
      try clear hcz19_0 hcz19_1 hcz19_2 hcz19_3 hcz19_4 hcz19_5 hcz19_6
      try clear hcz23_0 hcz23_1 hcz23_2 hcz23_3 hcz23_4 hcz23_5 hcz23_6
      try clear hcz24_0 hcz24_1 hcz24_2 hcz24_3 hcz24_4 hcz24_5 hcz24_6
      try clear hcz25_0 hcz25_1 hcz25_2 hcz25_3 hcz25_4 hcz25_5 hcz25_6
      try clear hcz27_0 hcz27_1 hcz27_2 hcz27_3 hcz27_4 hcz27_5 hcz27_6
      try clear hcz31_0 hcz31_1 hcz31_2 hcz31_3 hcz31_4 hcz31_5 hcz31_6
      try clear hcz34_0 hcz34_1 hcz34_2 hcz34_3 hcz34_4 hcz34_5 hcz34_6
      try clear hcz40_0 hcz40_1 hcz40_2 hcz40_3 hcz40_4 hcz40_5 hcz40_6
      try clear hcz42_0 hcz42_1 hcz42_2 hcz42_3 hcz42_4 hcz42_5 hcz42_6
      try clear hcz45_0 hcz45_1 hcz45_2 hcz45_3 hcz45_4 hcz45_5 hcz45_6
      try clear hcz47_0 hcz47_1 hcz47_2 hcz47_3 hcz47_4 hcz47_5 hcz47_6
      try clear hcz49_0 hcz49_1 hcz49_2 hcz49_3 hcz49_4 hcz49_5 hcz49_6
      try clear hcz50_0 hcz50_1 hcz50_2 hcz50_3 hcz50_4 hcz50_5 hcz50_6
      try clear hcz52_0 hcz52_1 hcz52_2 hcz52_3 hcz52_4 hcz52_5 hcz52_6
      try clear hcz54_0 hcz54_1 hcz54_2 hcz54_3 hcz54_4 hcz54_5 hcz54_6
      try clear hcz56_0 hcz56_1 hcz56_2 hcz56_3 hcz56_4 hcz56_5 hcz56_6
      try clear hcz59_0 hcz59_1 hcz59_2 hcz59_3 hcz59_4 hcz59_5 hcz59_6
      try clear hcz61_0 hcz61_1 hcz61_2 hcz61_3 hcz61_4 hcz61_5 hcz61_6
      try clear hcz64_0 hcz64_1 hcz64_2 hcz64_3 hcz64_4 hcz64_5 hcz64_6
      try clear hcz66_0 hcz66_1 hcz66_2 hcz66_3 hcz66_4 hcz66_5 hcz66_6
      try clear hcz68_0 hcz68_1 hcz68_2 hcz68_3 hcz68_4 hcz68_5 hcz68_6
      try clear hcz69_0 hcz69_1 hcz69_2 hcz69_3 hcz69_4 hcz69_5 hcz69_6
      try clear hcz71_0 hcz71_1 hcz71_2 hcz71_3 hcz71_4 hcz71_5 hcz71_6
      try clear hcz7_0 hcz7_1 hcz7_2 hcz7_3 hcz7_4 hcz7_5 hcz7_6
      try clear hfz13_0 hfz13_1 hfz13_2 hfz13_3 hfz13_4 hfz13_5 hfz13_6
      try clear hfz14_0 hfz14_1 hfz14_2 hfz14_3 hfz14_4 hfz14_5 hfz14_6
      try clear hfz15_0 hfz15_1 hfz15_2 hfz15_3 hfz15_4 hfz15_5 hfz15_6
      try clear hfz17_0 hfz17_1 hfz17_2 hfz17_3 hfz17_4 hfz17_5 hfz17_6
      try clear hfz18_0 hfz18_1 hfz18_2 hfz18_3 hfz18_4 hfz18_5 hfz18_6
      try clear hfz19_0 hfz19_1 hfz19_2 hfz19_3 hfz19_4 hfz19_5 hfz19_6
      try clear hfz23_0 hfz23_1 hfz23_2 hfz23_3 hfz23_4 hfz23_5 hfz23_6
      try clear hfz24_0 hfz24_1 hfz24_2 hfz24_3 hfz24_4 hfz24_5 hfz24_6
      try clear hfz25_0 hfz25_1 hfz25_2 hfz25_3 hfz25_4 hfz25_5 hfz25_6
      try clear hfz27_0 hfz27_1 hfz27_2 hfz27_3 hfz27_4 hfz27_5 hfz27_6
      try clear hfz31_0 hfz31_1 hfz31_2 hfz31_3 hfz31_4 hfz31_5 hfz31_6
      try clear hfz34_0 hfz34_1 hfz34_2 hfz34_3 hfz34_4 hfz34_5 hfz34_6
      try clear hfz40_0 hfz40_1 hfz40_2 hfz40_3 hfz40_4 hfz40_5 hfz40_6
      try clear hfz42_0 hfz42_1 hfz42_2 hfz42_3 hfz42_4 hfz42_5 hfz42_6
      try clear hfz45_0 hfz45_1 hfz45_2 hfz45_3 hfz45_4 hfz45_5 hfz45_6
      try clear hfz47_0 hfz47_1 hfz47_2 hfz47_3 hfz47_4 hfz47_5 hfz47_6
      try clear hfz49_0 hfz49_1 hfz49_2 hfz49_3 hfz49_4 hfz49_5 hfz49_6
      try clear hfz50_0 hfz50_1 hfz50_2 hfz50_3 hfz50_4 hfz50_5 hfz50_6
      try clear hfz52_0 hfz52_1 hfz52_2 hfz52_3 hfz52_4 hfz52_5 hfz52_6
      try clear hfz54_0 hfz54_1 hfz54_2 hfz54_3 hfz54_4 hfz54_5 hfz54_6
      try clear hfz56_0 hfz56_1 hfz56_2 hfz56_3 hfz56_4 hfz56_5 hfz56_6
      try clear hfz59_0 hfz59_1 hfz59_2 hfz59_3 hfz59_4 hfz59_5 hfz59_6
      try clear hfz61_0 hfz61_1 hfz61_2 hfz61_3 hfz61_4 hfz61_5 hfz61_6
      try clear hfz64_0 hfz64_1 hfz64_2 hfz64_3 hfz64_4 hfz64_5 hfz64_6
      try clear hfz66_0 hfz66_1 hfz66_2 hfz66_3 hfz66_4 hfz66_5 hfz66_6
      try clear hfz68_0 hfz68_1 hfz68_2 hfz68_3 hfz68_4 hfz68_5 hfz68_6
      try clear hfz69_0 hfz69_1 hfz69_2 hfz69_3 hfz69_4 hfz69_5 hfz69_6
      try clear hfz71_0 hfz71_1 hfz71_2 hfz71_3 hfz71_4 hfz71_5 hfz71_6
      try clear hfz7_0 hfz7_1 hfz7_2 hfz7_3 hfz7_4 hfz7_5 hfz7_6
      try clear p2
      obtain ⟨kq,x71_29,rfl,HA,HJ29,BK559,HB⟩:=hcut
      cases kq with
      | zero=>exact absurd HA.out (by simp [spec_l3Fields.j1])
      | succ kj29 =>
       have H:=HA.out
       clear HA
       simp only [spec_l3Fields.j1] at H
       by_cases c73:x71_29=true
       ·subst c73
        have H1:=hp H
        clear H
        have H:=H1
        clear H1
        obtain rfl:=Option.some.inj H
        go_wp2
        go_ret
        exact ⟨gz,(bz1 HB.out GE559.out)⟩
       ·replace c73:=Bool.eq_false_iff.mpr c73
        subst c73
        have H1:=hq H
        clear H
        have H:=H1
        clear H1
        by_cases c74:a0_0=2
        ·rw [if_pos c74] at H
         have c74b0:(a0_0 == 2)=true:=beq_iff_eq.mpr c74
         have c74b1:(a0_0 != 2)=false:=bne_eq_false_iff_eq.mpr c74
         clear c74
         replace H:=bi H
         obtain ⟨t566,A750,H⟩:=H
         try dsimp only at H
         have A75:=am A750
         clear A750
         obtain rfl:=Option.some.inj H
         obtain ⟨hcz76_0,hcz76_1,hcz76_2,hcz76_3,hcz76_4,hcz76_5,hcz76_6⟩:=cz7 BK559.out
         obtain ⟨hfz76_0,hfz76_1,hfz76_2,hfz76_3,hfz76_4,hfz76_5,hfz76_6⟩:=fz7 BK559.out
         go_wp2_with (first|((with_reducible refine gate_callee (f:=40) rfl ?_);refine goesL_ (some 78) rfl rfl Tryz.func40 kr rfl #[.int .i64 a0_4,.int .i64 0,.int .i64 65535] rfl lz ?_;(with_reducible refine (spec_l1In.calls a0_4 0 65535 t566 _ A75.out).mono ?_);rintro e w' ⟨rfl,⟨nd,rfl⟩⟩;refine ⟨_,rfl,?_⟩))
         go_ret
         exact ⟨gz,(bz1 HB.out GE559.out)⟩
        ·rw [if_neg c74] at H
         have c74b0:(a0_0 == 2)=false:=beq_eq_false_iff_ne.mpr c74
         have c74b1:(a0_0 != 2)=true:=bne_iff_ne.mpr c74
         by_cases c77:a0_0=8
         ·rw [if_pos c77] at H
          have c77b0:(a0_0 == 8)=true:=beq_iff_eq.mpr c77
          have c77b1:(a0_0 != 8)=false:=bne_eq_false_iff_eq.mpr c77
          clear c77
          replace H:=bi H
          obtain ⟨t567,A780,H⟩:=H
          try dsimp only at H
          have A78:=am A780
          clear A780
          obtain rfl:=Option.some.inj H
          obtain ⟨hcz79_0,hcz79_1,hcz79_2,hcz79_3,hcz79_4,hcz79_5,hcz79_6⟩:=cz7 BK559.out
          obtain ⟨hfz79_0,hfz79_1,hfz79_2,hfz79_3,hfz79_4,hfz79_5,hfz79_6⟩:=fz7 BK559.out
          go_wp2_with (first|((with_reducible refine gate_callee (f:=40) rfl ?_);refine goesL_ (some 83) rfl rfl Tryz.func40 kr rfl #[.int .i64 a0_4,.int .i64 0,.int .i64 3] rfl lz ?_;(with_reducible refine (spec_l1In.calls a0_4 0 3 t567 _ A78.out).mono ?_);rintro e w' ⟨rfl,⟨nd,rfl⟩⟩;refine ⟨_,rfl,?_⟩))
          go_ret
          exact ⟨gz,(bz1 HB.out GE559.out)⟩
         ·rw [if_neg c77] at H
          have c77b0:(a0_0 == 8)=false:=beq_eq_false_iff_ne.mpr c77
          have c77b1:(a0_0 != 8)=true:=bne_iff_ne.mpr c77
          obtain rfl:=Option.some.inj H
          obtain ⟨hcz80_0,hcz80_1,hcz80_2,hcz80_3,hcz80_4,hcz80_5,hcz80_6⟩:=cz7 BK559.out
          obtain ⟨hfz80_0,hfz80_1,hfz80_2,hfz80_3,hfz80_4,hfz80_5,hfz80_6⟩:=fz7 BK559.out
          go_wp2
          go_ret
          exact ⟨gz,(bz1 HB.out GE559.out)⟩
 ·replace c3:=Bool.eq_false_iff.mpr c3
  subst c3
  have H1:=hq H
  clear H
  have H:=H1
  clear H1
  obtain rfl:=Option.some.inj H
  go_enter Tryz.func60,Tryz.ntmps60
  go_wp2_with (first|((with_reducible refine gate_dst (N:=1) rfl ?_);refine box_event ?hg (N:=1) ?hd (cs:=#[.int .i64 a0_0,.int .i64 a0_1,.int .i64 a0_2,.int .i64 a0_3,.int .i64 a0_4,.string a0_5,.string a0_6]) (t:=45) ?hr ?_;(case hd=>rfl);(case hg=>rfl);(case hr=>exact vz);intro gb559 hg w81 hbox hb;have BK559:=am (hbox);have GW559:=am ((by rw [hg];exact (below_size (bz0 HB.out)):w.heap.size <= gb559));have GE559:=GW559;replace HB:=bs (bz0 HB.out) hb;clear hb hbox hg;obtain ⟨hcz82_0,hcz82_1,hcz82_2,hcz82_3,hcz82_4,hcz82_5,hcz82_6⟩:=cz7 BK559.out;obtain ⟨hfz82_0,hfz82_1,hfz82_2,hfz82_3,hfz82_4,hfz82_5,hfz82_6⟩:=fz7 BK559.out)|((with_reducible refine gate_callee (f:=40) rfl ?_);refine goesL_ (some 7) rfl rfl Tryz.func40 kr rfl #[.int .i64 a0_0,.int .i64 1,.int .i64 19] rfl lz ?_;(with_reducible refine (spec_l1In.calls a0_0 1 19 false _ A2.out).mono ?_);rintro e w' ⟨rfl,⟨nd,rfl⟩⟩;refine ⟨_,rfl,?_⟩))
  go_ret
  exact ⟨gz,(bz1 HB.out GE559.out)⟩
end Go.Proofs.YthmpgocaoccnaaaGreatDoor.PFnFresh
