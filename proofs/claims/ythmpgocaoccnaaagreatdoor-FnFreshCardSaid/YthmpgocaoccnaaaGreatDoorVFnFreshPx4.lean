/- PFnFreshx4, of the words and walks that the law FnFresh needs; made by this session's program out of printed texts. -/
import Derived.Test.YthmpgocaoccnaaaGreatDoorVFnFreshPx0
import Derived.Test.YthmpgocaoccnaaaGreatDoorVFnFreshPx3
namespace Go.Proofs.YthmpgocaoccnaaaGreatDoor.PFnFresh
open Go.RowKit Go.Proofs.YthmpgocaoccnaaaGreatDoorW.PrintWords Go.Proofs.YthmpgocaoccnaaaGreatDoorW.PrintLast Go.Proofs.YthmpgocaoccnaaaGreatDoorW.PrintMore
attribute [local go_sem] max2_int min2_int max_two min_two max_three min_three max_four min_four
set_option linter.unusedVariables false
set_option linter.unusedSimpArgs false
def impl_isName.f (k:Nat) (a0:ByteArray):Option (Bool):=(impl_IsWord.f k a0).bind fun t126=>(if t126=true then ((impl_IsKey.f k a0).bind fun t127=>(some (!t127))) else (some false))
theorem impl_isName.mono:∀ a0 k,LeO (impl_isName.f k a0) (impl_isName.f (k+1) a0):=by
 intro a0 k
 unfold impl_isName.f
 with_reducible repeat' first|exact impl_IsKey.mono _ _|exact impl_IsWord.mono _ _|exact lrz _|exact lnz _|refine liz ?_ ?_|refine lbz ?_ fun _=>?_
set_option maxHeartbeats 8000000 in
set_option maxRecDepth 100000 in
theorem impl_isName.calls (k:Nat) (a0:ByteArray) (r:Bool) (w:World) (h:impl_isName.f k a0=some r) :
  Calls Tryz.prog 31 #[.string a0] w fun e w'=>e=.returned (.bool r) /\ Below w.heap.size w w':=by
 have HB:=am (Below.refl w.heap.size w)
 have H:((impl_IsWord.f k a0).bind fun t126=>(if t126=true then ((impl_IsKey.f k a0).bind fun t127=>(some (!t127))) else (some false)))=some r:=h
 clear h
 replace H:=bi H
 obtain ⟨t126,A20,H⟩:=H
 try dsimp only at H
 have A2:=am A20
 clear A20
 by_cases c3:t126=true
 ·subst c3
  have H1:=hp H
  clear H
  have H:=H1
  clear H1
  replace H:=bi H
  obtain ⟨t127,A40,H⟩:=H
  try dsimp only at H
  have A4:=am A40
  clear A40
  obtain rfl:=Option.some.inj H
  go_enter Tryz.func31,Tryz.ntmps31
  go_wp2_with (first|((with_reducible refine gate_callee (f:=21) rfl ?_);refine goesL_ (some 4) rfl rfl Tryz.func21 kr rfl #[.string a0] rfl lz ?_;(with_reducible refine (impl_IsWord.calls k a0 true _ A2.out).mono ?_);rintro e w' ⟨rfl,⟨nd,rfl⟩⟩;refine ⟨_,rfl,?_⟩)|(go_at_call 24;(with_reducible refine (impl_IsKey.calls k a0 t127 _ A4.out).mono ?_);rintro e w5 ⟨rfl,hb⟩;replace HB:=bs (bz0 HB.out) hb;(try clear hb);(try clear hi)))
  go_ret
  exact ⟨gz,(bz0 HB.out)⟩
 ·replace c3:=Bool.eq_false_iff.mpr c3
  subst c3
  have H1:=hq H
  clear H
  have H:=H1
  clear H1
  obtain rfl:=Option.some.inj H
  go_enter Tryz.func31,Tryz.ntmps31
  go_wp2_with (first|((with_reducible refine gate_callee (f:=21) rfl ?_);refine goesL_ (some 4) rfl rfl Tryz.func21 kr rfl #[.string a0] rfl lz ?_;(with_reducible refine (impl_IsWord.calls k a0 false _ A2.out).mono ?_);rintro e w' ⟨rfl,⟨nd,rfl⟩⟩;refine ⟨_,rfl,?_⟩))
  go_ret
  exact ⟨gz,(bz0 HB.out)⟩
def impl_nameFits.f (k:Nat) (a0:ByteArray) (a1:Bool):Option (Bool):=if a1=true then ((impl_isName.f k a0).bind fun t128=>(some t128)) else (some (a0.toList == ([]:List UInt8)))
theorem impl_nameFits.mono:∀ a0 a1 k,LeO (impl_nameFits.f k a0 a1) (impl_nameFits.f (k+1) a0 a1):=by
 intro a0 a1 k
 unfold impl_nameFits.f
 with_reducible repeat' first|exact impl_isName.mono _ _|exact lrz _|exact lnz _|refine liz ?_ ?_|refine lbz ?_ fun _=>?_
set_option maxHeartbeats 8000000 in
set_option maxRecDepth 100000 in
theorem impl_nameFits.calls (k:Nat) (a0:ByteArray) (a1:Bool) (r:Bool) (w:World) (h:impl_nameFits.f k a0 a1=some r) :
  Calls Tryz.prog 82 #[.string a0,.bool a1] w fun e w'=>e=.returned (.bool r) /\ Below w.heap.size w w':=by
 have HB:=am (Below.refl w.heap.size w)
 have H:(if a1=true then ((impl_isName.f k a0).bind fun t128=>(some t128)) else (some (a0.toList == ([]:List UInt8))))=some r:=h
 clear h
 by_cases c3:a1=true
 ·subst c3
  have H1:=hp H
  clear H
  have H:=H1
  clear H1
  replace H:=bi H
  obtain ⟨t128,A40,H⟩:=H
  try dsimp only at H
  have A4:=am A40
  clear A40
  obtain rfl:=Option.some.inj H
  go_enter Tryz.func82,Tryz.ntmps82
  go_wp2_with (first|((with_reducible refine gate_callee (f:=31) rfl ?_);refine goesL_ (some 7) rfl rfl Tryz.func31 kr rfl #[.string a0] rfl lz ?_;(with_reducible refine (impl_isName.calls k a0 t128 _ A4.out).mono ?_);rintro e w5 ⟨rfl,hb⟩;refine ⟨_,rfl,?_⟩;replace HB:=bs (bz0 HB.out) hb;(try clear hb);(try clear hi)))
  go_ret
  exact ⟨gz,(bz0 HB.out)⟩
 ·replace c3:=Bool.eq_false_iff.mpr c3
  subst c3
  have H1:=hq H
  clear H
  have H:=H1
  clear H1
  obtain rfl:=Option.some.inj H
  go_enter Tryz.func82,Tryz.ntmps82
  go_wp2
  go_ret
  exact ⟨gz,(bz0 HB.out)⟩
mutual
def impl_Arity.j0:Nat -> Int -> Bool -> Option (Int)
 | 0,_,_=>none
 | k+1,x3,x4=>if x4=true then (some 1) else (if x3=4 then (impl_Arity.j1 k x3 (x3 == 4)) else (if x3=5 then (impl_Arity.j1 k x3 (x3 == 5)) else (if x3=6 then (impl_Arity.j1 k x3 (x3 == 6)) else (if x3=8 then (impl_Arity.j1 k x3 (x3 == 8)) else (if x3=9 then (impl_Arity.j1 k x3 (x3 == 9)) else (if x3=13 then (impl_Arity.j1 k x3 (x3 == 13)) else (if x3=17 then (impl_Arity.j1 k x3 (x3 == 17)) else (impl_Arity.j1 k x3 (x3 == 19)))))))))
def impl_Arity.j1:Nat -> Int -> Bool -> Option (Int)
 | 0,_,_=>none
 | k+1,x3,x11=>if x11=true then (some 2) else (if x3=7 then (some 3) else (if x3=14 then (some 3) else (some 0)))
end
def impl_Arity.f (k:Nat) (a0:Int):Option (Int):=if a0=3 then (impl_Arity.j0 k a0 (a0 == 3)) else (if a0=10 then (impl_Arity.j0 k a0 (a0 == 10)) else (if a0=11 then (impl_Arity.j0 k a0 (a0 == 11)) else (if a0=15 then (impl_Arity.j0 k a0 (a0 == 15)) else (if a0=16 then (impl_Arity.j0 k a0 (a0 == 16)) else (impl_Arity.j0 k a0 (a0 == 18))))))
theorem impl_Arity.mono_l:∀ k,(∀ y0 y1,LeO (impl_Arity.j0 k y0 y1) (impl_Arity.j0 (k+1) y0 y1)) /\ (∀ y0 y1,LeO (impl_Arity.j1 k y0 y1) (impl_Arity.j1 (k+1) y0 y1))
 | 0=>⟨fun _ _ r h=>by simp [impl_Arity.j0] at h,fun _ _ r h=>by simp [impl_Arity.j1] at h⟩
 | k+1=>by
  obtain ⟨ih0,ih1⟩:=impl_Arity.mono_l k
  refine ⟨?_,?_⟩
  ·intro y0 y1
   unfold impl_Arity.j0
   with_reducible repeat' first|exact ih0 _ _|exact ih1 _ _|exact lrz _|exact lnz _|refine liz ?_ ?_|refine lbz ?_ fun _=>?_
  ·intro y0 y1
   unfold impl_Arity.j1
   with_reducible repeat' first|exact ih0 _ _|exact ih1 _ _|exact lrz _|exact lnz _|refine liz ?_ ?_|refine lbz ?_ fun _=>?_
theorem impl_Arity.mono:∀ a0 k,LeO (impl_Arity.f k a0) (impl_Arity.f (k+1) a0):=by
 intro a0 k
 obtain ⟨ih0,ih1⟩:=impl_Arity.mono_l k
 unfold impl_Arity.f
 with_reducible repeat' first|exact ih0 _ _|exact ih1 _ _|exact lrz _|exact lnz _|refine liz ?_ ?_|refine lbz ?_ fun _=>?_
set_option maxHeartbeats 8000000 in
set_option maxRecDepth 100000 in
theorem impl_Arity.calls (k:Nat) (a0:Int) (r:Int) (w:World) (h:impl_Arity.f k a0=some r) :
  Calls Tryz.prog 83 #[.int .i64 a0] w fun e w'=>e=.returned (.int .i64 r) /\ Drawn0 w w':=by
 have H:(if a0=3 then (impl_Arity.j0 k a0 (a0 == 3)) else (if a0=10 then (impl_Arity.j0 k a0 (a0 == 10)) else (if a0=11 then (impl_Arity.j0 k a0 (a0 == 11)) else (if a0=15 then (impl_Arity.j0 k a0 (a0 == 15)) else (if a0=16 then (impl_Arity.j0 k a0 (a0 == 16)) else (impl_Arity.j0 k a0 (a0 == 18)))))))=some r:=h
 clear h
 have HC2:=am H
 clear H
 go_enter Tryz.func83,Tryz.ntmps83
 go_upto_if 4 with (fail)
 go_cut [4] (fun v4 wc=>∃ (kq:Nat) (x4_1:Bool),v4=.bool x4_1 /\ Aside0 (impl_Arity.j0 kq a0 x4_1=some r) /\ Aside0 (kq <= k) /\ Drawn0 w wc)
 case first =>
  have H:=HC2.out
  clear HC2
  by_cases c3:a0=3
  ·rw [if_pos c3] at H
   have c3b0:(a0 == 3)=true:=beq_iff_eq.mpr c3
   have c3b1:(a0 != 3)=false:=bne_eq_false_iff_eq.mpr c3
   clear c3
   (first|rw [c3b0]|(simp only [i64_w,i32_w];rw [c3b0])|skip)
   have H':=am H
   clear H
   go_wp2
   go_meet
   case rel=>exact ⟨_,((a0 == 3)),ez,H',⟨by first|omega|exact Nat.le_refl _⟩,dz⟩
  ·rw [if_neg c3] at H
   have c3b0:(a0 == 3)=false:=beq_eq_false_iff_ne.mpr c3
   have c3b1:(a0 != 3)=true:=bne_iff_ne.mpr c3
   (first|rw [c3b0]|(simp only [i64_w,i32_w];rw [c3b0])|skip)
   by_cases c4:a0=10
   ·rw [if_pos c4] at H
    have c4b0:(a0 == 10)=true:=beq_iff_eq.mpr c4
    have c4b1:(a0 != 10)=false:=bne_eq_false_iff_eq.mpr c4
    clear c4
    have H':=am H
    clear H
    go_wp2
    go_meet
    case rel=>exact ⟨_,((a0 == 10)),ez,H',⟨by first|omega|exact Nat.le_refl _⟩,dz⟩
   ·rw [if_neg c4] at H
    have c4b0:(a0 == 10)=false:=beq_eq_false_iff_ne.mpr c4
    have c4b1:(a0 != 10)=true:=bne_iff_ne.mpr c4
    by_cases c5:a0=11
    ·rw [if_pos c5] at H
     have c5b0:(a0 == 11)=true:=beq_iff_eq.mpr c5
     have c5b1:(a0 != 11)=false:=bne_eq_false_iff_eq.mpr c5
     clear c5
     have H':=am H
     clear H
     go_wp2
     go_meet
     case rel=>exact ⟨_,((a0 == 11)),ez,H',⟨by first|omega|exact Nat.le_refl _⟩,dz⟩
    ·rw [if_neg c5] at H
     have c5b0:(a0 == 11)=false:=beq_eq_false_iff_ne.mpr c5
     have c5b1:(a0 != 11)=true:=bne_iff_ne.mpr c5
     by_cases c6:a0=15
     ·rw [if_pos c6] at H
      have c6b0:(a0 == 15)=true:=beq_iff_eq.mpr c6
      have c6b1:(a0 != 15)=false:=bne_eq_false_iff_eq.mpr c6
      clear c6
      have H':=am H
      clear H
      go_wp2
      go_meet
      case rel=>exact ⟨_,((a0 == 15)),ez,H',⟨by first|omega|exact Nat.le_refl _⟩,dz⟩
     ·rw [if_neg c6] at H
      have c6b0:(a0 == 15)=false:=beq_eq_false_iff_ne.mpr c6
      have c6b1:(a0 != 15)=true:=bne_iff_ne.mpr c6
      by_cases c7:a0=16
      ·rw [if_pos c7] at H
       have c7b0:(a0 == 16)=true:=beq_iff_eq.mpr c7
       have c7b1:(a0 != 16)=false:=bne_eq_false_iff_eq.mpr c7
       clear c7
       have H':=am H
       clear H
       go_wp2
       go_meet
       case rel=>exact ⟨_,((a0 == 16)),ez,H',⟨by first|omega|exact Nat.le_refl _⟩,dz⟩
      ·rw [if_neg c7] at H
       have c7b0:(a0 == 16)=false:=beq_eq_false_iff_ne.mpr c7
       have c7b1:(a0 != 16)=true:=bne_iff_ne.mpr c7
       have H':=am H
       clear H
       go_wp2
       go_meet
       case rel=>exact ⟨_,((a0 == 18)),ez,H',⟨by first|omega|exact Nat.le_refl _⟩,dz⟩
 case rest =>
  clear HC2
  try clear p2
  try clear c3
  try clear c3b0
  try clear c3b1
  try clear c4
  try clear c4b0
  try clear c4b1
  try clear c5
  try clear c5b0
  try clear c5b1
  try clear c6
  try clear c6b0
  try clear c6b1
  try clear c7
  try clear c7b0
  try clear c7b1
  obtain ⟨kq,x4_1,rfl,HA,HJ1,⟨mc1,rfl⟩⟩:=hcut
  cases kq with
  | zero=>exact absurd HA.out (by simp [impl_Arity.j0])
  | succ kj1 =>
   have H:=HA.out
   clear HA
   simp only [impl_Arity.j0] at H
   by_cases c8:x4_1=true
   ·subst c8
    have H1:=hp H
    clear H
    have H:=H1
    clear H1
    obtain rfl:=Option.some.inj H
    go_wp2
    go_ret
    exact ⟨e2z,dz⟩
   ·replace c8:=Bool.eq_false_iff.mpr c8
    subst c8
    have H1:=hq H
    clear H
    have H:=H1
    clear H1
    have HC9:=am H
    clear H
    go_upto_if 11 with (fail)
    go_cut [11] (fun v11 wc=>∃ (kq:Nat) (x11_8:Bool),v11=.bool x11_8 /\ Aside0 (impl_Arity.j1 kq a0 x11_8=some r) /\ Aside0 (kq <= kj1) /\ Drawn0 w wc)
    case first =>
     have H:=HC9.out
     clear HC9
     by_cases c10:a0=4
     ·rw [if_pos c10] at H
      have c10b0:(a0 == 4)=true:=beq_iff_eq.mpr c10
      have c10b1:(a0 != 4)=false:=bne_eq_false_iff_eq.mpr c10
      clear c10
      (first|rw [c10b0]|(simp only [i64_w,i32_w];rw [c10b0])|skip)
      have H':=am H
      clear H
      go_wp2
      go_meet
      case rel=>exact ⟨_,((a0 == 4)),ez,H',⟨by have:=HJ1.out;first|omega|exact Nat.le_refl _⟩,dz⟩
     ·rw [if_neg c10] at H
      have c10b0:(a0 == 4)=false:=beq_eq_false_iff_ne.mpr c10
      have c10b1:(a0 != 4)=true:=bne_iff_ne.mpr c10
      (first|rw [c10b0]|(simp only [i64_w,i32_w];rw [c10b0])|skip)
      by_cases c11:a0=5
      ·rw [if_pos c11] at H
       have c11b0:(a0 == 5)=true:=beq_iff_eq.mpr c11
       have c11b1:(a0 != 5)=false:=bne_eq_false_iff_eq.mpr c11
       clear c11
       have H':=am H
       clear H
       go_wp2
       go_meet
       case rel=>exact ⟨_,((a0 == 5)),ez,H',⟨by have:=HJ1.out;first|omega|exact Nat.le_refl _⟩,dz⟩
      ·rw [if_neg c11] at H
       have c11b0:(a0 == 5)=false:=beq_eq_false_iff_ne.mpr c11
       have c11b1:(a0 != 5)=true:=bne_iff_ne.mpr c11
       by_cases c12:a0=6
       ·rw [if_pos c12] at H
        have c12b0:(a0 == 6)=true:=beq_iff_eq.mpr c12
        have c12b1:(a0 != 6)=false:=bne_eq_false_iff_eq.mpr c12
        clear c12
        have H':=am H
        clear H
        go_wp2
        go_meet
        case rel=>exact ⟨_,((a0 == 6)),ez,H',⟨by have:=HJ1.out;first|omega|exact Nat.le_refl _⟩,dz⟩
       ·rw [if_neg c12] at H
        have c12b0:(a0 == 6)=false:=beq_eq_false_iff_ne.mpr c12
        have c12b1:(a0 != 6)=true:=bne_iff_ne.mpr c12
        by_cases c13:a0=8
        ·rw [if_pos c13] at H
         have c13b0:(a0 == 8)=true:=beq_iff_eq.mpr c13
         have c13b1:(a0 != 8)=false:=bne_eq_false_iff_eq.mpr c13
         clear c13
         have H':=am H
         clear H
         go_wp2
         go_meet
         case rel=>exact ⟨_,((a0 == 8)),ez,H',⟨by have:=HJ1.out;first|omega|exact Nat.le_refl _⟩,dz⟩
        ·rw [if_neg c13] at H
         have c13b0:(a0 == 8)=false:=beq_eq_false_iff_ne.mpr c13
         have c13b1:(a0 != 8)=true:=bne_iff_ne.mpr c13
         by_cases c14:a0=9
         ·rw [if_pos c14] at H
          have c14b0:(a0 == 9)=true:=beq_iff_eq.mpr c14
          have c14b1:(a0 != 9)=false:=bne_eq_false_iff_eq.mpr c14
          clear c14
          have H':=am H
          clear H
          go_wp2
          go_meet
          case rel=>exact ⟨_,((a0 == 9)),ez,H',⟨by have:=HJ1.out;first|omega|exact Nat.le_refl _⟩,dz⟩
         ·rw [if_neg c14] at H
          have c14b0:(a0 == 9)=false:=beq_eq_false_iff_ne.mpr c14
          have c14b1:(a0 != 9)=true:=bne_iff_ne.mpr c14
          by_cases c15:a0=13
          ·rw [if_pos c15] at H
           have c15b0:(a0 == 13)=true:=beq_iff_eq.mpr c15
           have c15b1:(a0 != 13)=false:=bne_eq_false_iff_eq.mpr c15
           clear c15
           have H':=am H
           clear H
           go_wp2
           go_meet
           case rel=>exact ⟨_,((a0 == 13)),ez,H',⟨by have:=HJ1.out;first|omega|exact Nat.le_refl _⟩,dz⟩
          ·rw [if_neg c15] at H
           have c15b0:(a0 == 13)=false:=beq_eq_false_iff_ne.mpr c15
           have c15b1:(a0 != 13)=true:=bne_iff_ne.mpr c15
           by_cases c16:a0=17
           ·rw [if_pos c16] at H
            have c16b0:(a0 == 17)=true:=beq_iff_eq.mpr c16
            have c16b1:(a0 != 17)=false:=bne_eq_false_iff_eq.mpr c16
            clear c16
            have H':=am H
            clear H
            go_wp2
            go_meet
            case rel=>exact ⟨_,((a0 == 17)),ez,H',⟨by have:=HJ1.out;first|omega|exact Nat.le_refl _⟩,dz⟩
           ·rw [if_neg c16] at H
            have c16b0:(a0 == 17)=false:=beq_eq_false_iff_ne.mpr c16
            have c16b1:(a0 != 17)=true:=bne_iff_ne.mpr c16
            have H':=am H
            clear H
            go_wp2
            go_meet
            case rel=>exact ⟨_,((a0 == 19)),ez,H',⟨by have:=HJ1.out;first|omega|exact Nat.le_refl _⟩,dz⟩
    case rest =>
     clear HC9
     try clear c1
     try clear p2
     try clear c3
     try clear c3b0
     try clear c3b1
     try clear c4
     try clear c4b0
     try clear c4b1
     try clear c5
     try clear c5b0
     try clear c5b1
     try clear c6
     try clear c6b0
     try clear c6b1
     try clear c7
     try clear c7b0
     try clear c7b1
     try clear c8
     try clear c10
     try clear c10b0
     try clear c10b1
     try clear c11
     try clear c11b0
     try clear c11b1
     try clear c12
     try clear c12b0
     try clear c12b1
     try clear c13
     try clear c13b0
     try clear c13b1
     try clear c14
     try clear c14b0
     try clear c14b1
     try clear c15
     try clear c15b0
     try clear c15b1
     try clear c16
     try clear c16b0
     try clear c16b1
     try clear p2
     obtain ⟨kq,x11_8,rfl,HA,HJ8,⟨mc8,rfl⟩⟩:=hcut
     cases kq with
     | zero=>exact absurd HA.out (by simp [impl_Arity.j1])
     | succ kj8 =>
      have H:=HA.out
      clear HA
      simp only [impl_Arity.j1] at H
      by_cases c17:x11_8=true
      ·subst c17
       have H1:=hp H
       clear H
       have H:=H1
       clear H1
       obtain rfl:=Option.some.inj H
       go_wp2
       go_ret
       exact ⟨e2z,dz⟩
      ·replace c17:=Bool.eq_false_iff.mpr c17
       subst c17
       have H1:=hq H
       clear H
       have H:=H1
       clear H1
       by_cases c18:a0=7
       ·rw [if_pos c18] at H
        have c18b0:(a0 == 7)=true:=beq_iff_eq.mpr c18
        have c18b1:(a0 != 7)=false:=bne_eq_false_iff_eq.mpr c18
        clear c18
        obtain rfl:=Option.some.inj H
        go_wp2
        go_ret
        exact ⟨e2z,dz⟩
       ·rw [if_neg c18] at H
        have c18b0:(a0 == 7)=false:=beq_eq_false_iff_ne.mpr c18
        have c18b1:(a0 != 7)=true:=bne_iff_ne.mpr c18
        by_cases c19:a0=14
        ·rw [if_pos c19] at H
         have c19b0:(a0 == 14)=true:=beq_iff_eq.mpr c19
         have c19b1:(a0 != 14)=false:=bne_eq_false_iff_eq.mpr c19
         clear c19
         obtain rfl:=Option.some.inj H
         go_wp2
         go_ret
         exact ⟨e2z,dz⟩
        ·rw [if_neg c19] at H
         have c19b0:(a0 == 14)=false:=beq_eq_false_iff_ne.mpr c19
         have c19b1:(a0 != 14)=true:=bne_iff_ne.mpr c19
         obtain rfl:=Option.some.inj H
         go_wp2
         go_ret
         exact ⟨e2z,dz⟩
end Go.Proofs.YthmpgocaoccnaaaGreatDoor.PFnFresh
