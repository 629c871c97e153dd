/- PFnFreshx3, of the words and walks that the law FnFresh needs; made by this session's program out of printed texts. -/
import Derived.Test.YthmpgocaoccnaaaGreatDoorVFnFreshPx0
namespace Go.Proofs.YthmpgocaoccnaaaGreatDoor.PFnFresh
open Go.RowKit Go.Proofs.YthmpgocaoccnaaaGreatDoorW.PrintWords Go.Proofs.YthmpgocaoccnaaaGreatDoorW.PrintLast Go.Proofs.YthmpgocaoccnaaaGreatDoorW.PrintMore
attribute [local go_sem] max2_int min2_int max_two min_two max_three min_three max_four min_four
set_option linter.unusedVariables false
set_option linter.unusedSimpArgs false
def impl_in.f (a0:Int) (a1:Int) (a2:Int):Option (Bool):=if a0≥a1 then (some (decide (a0 <= a2))) else (some false)
set_option maxHeartbeats 8000000 in
set_option maxRecDepth 100000 in
theorem impl_in.calls (a0:Int) (a1:Int) (a2:Int) (r:Bool) (w:World) (h:impl_in.f a0 a1 a2=some r) :
  Calls Tryz.prog 47 #[.int .i64 a0,.int .i64 a1,.int .i64 a2] w fun e w'=>e=.returned (.bool r) /\ Drawn0 w w':=by
 have H:(if a0≥a1 then (some (decide (a0 <= a2))) else (some false))=some r:=h
 clear h
 by_cases c4:a0≥a1
 ·rw [if_pos c4] at H
  have c4b0:decide (a1 <= a0)=true:=decide_eq_true c4
  clear c4
  obtain rfl:=Option.some.inj H
  go_enter Tryz.func47,Tryz.ntmps47
  go_wp2
  go_ret
  exact ⟨e2z,dz⟩
 ·rw [if_neg c4] at H
  have c4b0:decide (a1 <= a0)=false:=decide_eq_false c4
  clear c4
  obtain rfl:=Option.some.inj H
  go_enter Tryz.func47,Tryz.ntmps47
  go_wp2
  go_ret
  exact ⟨e2z,dz⟩
def impl_namesOf.j0:Nat -> Int -> Bool -> Option (Int)
 | 0,_,_=>none
 | k+1,x3,x4=>if x4=true then (some 1) else (if x3=6 then (some 2) else (if x3=14 then (some 2) else (some 0)))
def impl_namesOf.f (k:Nat) (a0:Int):Option (Int):=if a0=1 then (impl_namesOf.j0 k a0 (a0 == 1)) else (if a0=3 then (impl_namesOf.j0 k a0 (a0 == 3)) else (if a0=5 then (impl_namesOf.j0 k a0 (a0 == 5)) else (impl_namesOf.j0 k a0 (a0 == 19))))
theorem impl_namesOf.mono_l:∀ k,(∀ y0 y1,LeO (impl_namesOf.j0 k y0 y1) (impl_namesOf.j0 (k+1) y0 y1))
 | 0=>fun _ _ r h=>by simp [impl_namesOf.j0] at h
 | k+1=>by
  have ih0:=impl_namesOf.mono_l k
  ·intro y0 y1
   unfold impl_namesOf.j0
   with_reducible repeat' first|exact ih0 _ _|exact lrz _|exact lnz _|refine liz ?_ ?_|refine lbz ?_ fun _=>?_
theorem impl_namesOf.mono:∀ a0 k,LeO (impl_namesOf.f k a0) (impl_namesOf.f (k+1) a0):=by
 intro a0 k
 have ih0:=impl_namesOf.mono_l k
 unfold impl_namesOf.f
 with_reducible repeat' first|exact ih0 _ _|exact lrz _|exact lnz _|refine liz ?_ ?_|refine lbz ?_ fun _=>?_
set_option maxHeartbeats 8000000 in
set_option maxRecDepth 100000 in
theorem impl_namesOf.calls (k:Nat) (a0:Int) (r:Int) (w:World) (h:impl_namesOf.f k a0=some r) :
  Calls Tryz.prog 52 #[.int .i64 a0] w fun e w'=>e=.returned (.int .i64 r) /\ Drawn0 w w':=by
 have H:(if a0=1 then (impl_namesOf.j0 k a0 (a0 == 1)) else (if a0=3 then (impl_namesOf.j0 k a0 (a0 == 3)) else (if a0=5 then (impl_namesOf.j0 k a0 (a0 == 5)) else (impl_namesOf.j0 k a0 (a0 == 19)))))=some r:=h
 clear h
 have HC2:=am H
 clear H
 go_enter Tryz.func52,Tryz.ntmps52
 go_upto_if 4 with (fail)
 go_cut [4] (fun v4 wc=>∃ (kq:Nat) (x4_1:Bool),v4=.bool x4_1 /\ Aside0 (impl_namesOf.j0 kq a0 x4_1=some r) /\ Aside0 (kq <= k) /\ Drawn0 w wc)
 case first =>
  have H:=HC2.out
  clear HC2
  by_cases c3:a0=1
  ·rw [if_pos c3] at H
   have c3b0:(a0 == 1)=true:=beq_iff_eq.mpr c3
   have c3b1:(a0 != 1)=false:=bne_eq_false_iff_eq.mpr c3
   clear c3
   (first|rw [c3b0]|(simp only [i64_w,i32_w];rw [c3b0])|skip)
   have H':=am H
   clear H
   go_wp2
   go_meet
   case rel=>exact ⟨_,((a0 == 1)),ez,H',⟨by first|omega|exact Nat.le_refl _⟩,dz⟩
  ·rw [if_neg c3] at H
   have c3b0:(a0 == 1)=false:=beq_eq_false_iff_ne.mpr c3
   have c3b1:(a0 != 1)=true:=bne_iff_ne.mpr c3
   (first|rw [c3b0]|(simp only [i64_w,i32_w];rw [c3b0])|skip)
   by_cases c4:a0=3
   ·rw [if_pos c4] at H
    have c4b0:(a0 == 3)=true:=beq_iff_eq.mpr c4
    have c4b1:(a0 != 3)=false:=bne_eq_false_iff_eq.mpr c4
    clear c4
    have H':=am H
    clear H
    go_wp2
    go_meet
    case rel=>exact ⟨_,((a0 == 3)),ez,H',⟨by first|omega|exact Nat.le_refl _⟩,dz⟩
   ·rw [if_neg c4] at H
    have c4b0:(a0 == 3)=false:=beq_eq_false_iff_ne.mpr c4
    have c4b1:(a0 != 3)=true:=bne_iff_ne.mpr c4
    by_cases c5:a0=5
    ·rw [if_pos c5] at H
     have c5b0:(a0 == 5)=true:=beq_iff_eq.mpr c5
     have c5b1:(a0 != 5)=false:=bne_eq_false_iff_eq.mpr c5
     clear c5
     have H':=am H
     clear H
     go_wp2
     go_meet
     case rel=>exact ⟨_,((a0 == 5)),ez,H',⟨by first|omega|exact Nat.le_refl _⟩,dz⟩
    ·rw [if_neg c5] at H
     have c5b0:(a0 == 5)=false:=beq_eq_false_iff_ne.mpr c5
     have c5b1:(a0 != 5)=true:=bne_iff_ne.mpr c5
     have H':=am H
     clear H
     go_wp2
     go_meet
     case rel=>exact ⟨_,((a0 == 19)),ez,H',⟨by first|omega|exact Nat.le_refl _⟩,dz⟩
 case rest =>
  clear HC2
  try clear p2
  try clear c3
  try clear c3b0
  try clear c3b1
  try clear c4
  try clear c4b0
  try clear c4b1
  try clear c5
  try clear c5b0
  try clear c5b1
  obtain ⟨kq,x4_1,rfl,HA,HJ1,⟨mc1,rfl⟩⟩:=hcut
  cases kq with
  | zero=>exact absurd HA.out (by simp [impl_namesOf.j0])
  | succ kj1 =>
   have H:=HA.out
   clear HA
   simp only [impl_namesOf.j0] at H
   by_cases c6:x4_1=true
   ·subst c6
    have H1:=hp H
    clear H
    have H:=H1
    clear H1
    obtain rfl:=Option.some.inj H
    go_wp2
    go_ret
    exact ⟨e2z,dz⟩
   ·replace c6:=Bool.eq_false_iff.mpr c6
    subst c6
    have H1:=hq H
    clear H
    have H:=H1
    clear H1
    by_cases c7:a0=6
    ·rw [if_pos c7] at H
     have c7b0:(a0 == 6)=true:=beq_iff_eq.mpr c7
     have c7b1:(a0 != 6)=false:=bne_eq_false_iff_eq.mpr c7
     clear c7
     obtain rfl:=Option.some.inj H
     go_wp2
     go_ret
     exact ⟨e2z,dz⟩
    ·rw [if_neg c7] at H
     have c7b0:(a0 == 6)=false:=beq_eq_false_iff_ne.mpr c7
     have c7b1:(a0 != 6)=true:=bne_iff_ne.mpr c7
     by_cases c8:a0=14
     ·rw [if_pos c8] at H
      have c8b0:(a0 == 14)=true:=beq_iff_eq.mpr c8
      have c8b1:(a0 != 14)=false:=bne_eq_false_iff_eq.mpr c8
      clear c8
      obtain rfl:=Option.some.inj H
      go_wp2
      go_ret
      exact ⟨e2z,dz⟩
     ·rw [if_neg c8] at H
      have c8b0:(a0 == 14)=false:=beq_eq_false_iff_ne.mpr c8
      have c8b1:(a0 != 14)=true:=bne_iff_ne.mpr c8
      obtain rfl:=Option.some.inj H
      go_wp2
      go_ret
      exact ⟨e2z,dz⟩
def impl_IsWord.l0:Nat -> ByteArray -> Int -> Option (Bool)
 | 0,_,_=>none
 | k+1,x0,x3=>if x3<(x0.size:Int) then (if 0 <= x3 then (if (bt x0 x3)<97 then (some false) else (if (bt x0 x3) > 122 then (some false) else (impl_IsWord.l0 k x0 (wrap64 (x3+1))))) else (none)) else ((impl_in.f (x0.size:Int) 1 8).bind fun t101=>(some t101))
def impl_IsWord.f (k:Nat) (a0:ByteArray):Option (Bool):=impl_IsWord.l0 k a0 0
theorem impl_IsWord.mono_l:∀ k,(∀ y0 y1,LeO (impl_IsWord.l0 k y0 y1) (impl_IsWord.l0 (k+1) y0 y1))
 | 0=>fun _ _ r h=>by simp [impl_IsWord.l0] at h
 | k+1=>by
  have ih0:=impl_IsWord.mono_l k
  ·intro y0 y1
   unfold impl_IsWord.l0
   with_reducible repeat' first|exact ih0 _ _|exact lrz _|exact lnz _|refine liz ?_ ?_|refine lbz ?_ fun _=>?_
theorem impl_IsWord.mono:∀ a0 k,LeO (impl_IsWord.f k a0) (impl_IsWord.f (k+1) a0):=by
 intro a0 k
 have ih0:=impl_IsWord.mono_l k
 unfold impl_IsWord.f
 with_reducible repeat' first|exact ih0 _ _|exact lrz _|exact lnz _|refine liz ?_ ?_|refine lbz ?_ fun _=>?_
set_option maxHeartbeats 8000000 in
set_option maxRecDepth 100000 in
theorem impl_IsWord.calls (k:Nat) (a0:ByteArray) (r:Bool) (w:World) (h:impl_IsWord.f k a0=some r) :
  Calls Tryz.prog 21 #[.string a0] w fun e w'=>e=.returned (.bool r) /\ Drawn0 w w':=by
 have H:(impl_IsWord.l0 k a0 0)=some r:=h
 clear h
 have H':=am H
 clear H
 go_enter Tryz.func21,Tryz.ntmps21
 go_wp2
 go_loopg [3] k (fun kq v3 w'=>∃ (x3_1:Int),v3=.int .i64 x3_1 /\ Aside0 (impl_IsWord.l0 kq a0 x3_1=some r) /\ Aside0 (kq <= k) /\ Drawn0 w w')
 case atStart=>exact ⟨(0),ez,H',⟨Nat.le_refl _⟩,dz⟩
 case round =>
  clear H'
  obtain ⟨x3_1,rfl,HA,HK1,⟨m1,rfl⟩⟩:=hrel
  cases gk with
  | zero=>exact absurd HA.out (by simp [impl_IsWord.l0])
  | succ k1 =>
   have H:=HA.out
   clear HA
   simp only [impl_IsWord.l0] at H
   by_cases c2:x3_1<(a0.size:Int)
   ·rw [if_pos c2] at H
    have c2b0:=decide_eq_true c2
    clear c2
    replace H:=iz H
    obtain ⟨c3,H⟩:=H
    have c3b0:=decide_eq_true c3
    clear c3
    by_cases c5:(bt a0 x3_1)<97
    ·rw [if_pos c5] at H
     have c5b0:=decide_eq_true c5
     clear c5
     obtain rfl:=Option.some.inj H
     have p4:0 <= (x3_1:Int):=oz
     have q4:x3_1<(a0.size:Int):=oz
     have hx4:=bt_at a0 x3_1
     replace p4:=eq_true p4
     replace q4:=eq_true q4
     go_wp2
     go_ret
     exact ⟨e2z,dz⟩
    ·rw [if_neg c5] at H
     have c5b0:=decide_eq_false c5
     clear c5
     by_cases c7:(bt a0 x3_1) > 122
     ·rw [if_pos c7] at H
      have c7b0:decide (122<(bt a0 x3_1))=true:=decide_eq_true c7
      clear c7
      obtain rfl:=Option.some.inj H
      have p4:0 <= (x3_1:Int):=oz
      have q4:x3_1<(a0.size:Int):=oz
      have hx4:=bt_at a0 x3_1
      replace p4:=eq_true p4
      replace q4:=eq_true q4
      have p6:0 <= (x3_1:Int):=oz
      have q6:x3_1<(a0.size:Int):=oz
      have hx6:=bt_at a0 x3_1
      replace p6:=eq_true p6
      replace q6:=eq_true q6
      go_wp2
      go_ret
      exact ⟨e2z,dz⟩
     ·rw [if_neg c7] at H
      have c7b0:decide (122<(bt a0 x3_1))=false:=decide_eq_false c7
      clear c7
      have H':=am H
      clear H
      have p4:0 <= (x3_1:Int):=oz
      have q4:x3_1<(a0.size:Int):=oz
      have hx4:=bt_at a0 x3_1
      replace p4:=eq_true p4
      replace q4:=eq_true q4
      have p6:0 <= (x3_1:Int):=oz
      have q6:x3_1<(a0.size:Int):=oz
      have hx6:=bt_at a0 x3_1
      replace p6:=eq_true p6
      replace q6:=eq_true q6
      go_wp2
      go_roundg k1
      case measure=>have:=HK1.out;omega
      case rel=>exact ⟨(wrap64 (x3_1+1)),ez,H',⟨by have:=HK1.out;omega⟩,dz⟩
   ·rw [if_neg c2] at H
    have c2b0:=decide_eq_false c2
    clear c2
    replace H:=bi H
    obtain ⟨t101,A80,H⟩:=H
    try dsimp only at H
    have A8:=am A80
    clear A80
    obtain rfl:=Option.some.inj H
    go_wp2_with (first|((with_reducible refine gate_callee (f:=47) rfl ?_);refine goesL_ (some 22) rfl rfl Tryz.func47 kr rfl #[.int .i64 (a0.size:Int),.int .i64 1,.int .i64 8] rfl lz ?_;(with_reducible refine (impl_in.calls (a0.size:Int) 1 8 t101 _ A8.out).mono ?_);rintro e w' ⟨rfl,⟨nd,rfl⟩⟩;refine ⟨_,rfl,?_⟩))
    go_ret
    exact ⟨e2z,dz⟩
def strings_explode.f (a0:ByteArray) (a1:Int):Option (List ByteArray):=none
theorem strings_explode.calls (a0:ByteArray) (a1:Int) (r:List ByteArray) (w:World) (h:strings_explode.f a0 a1=some r) :
  Calls Tryz.prog 85 #[.string a0,.int .i64 a1] w fun e w'=>∃ v0_:Value,e=.returned (v0_) /\ Kd.R Kd.string 9 w' w.heap.size (fun _=>True) v0_ r /\ Below w.heap.size w w':=by
 cases h
def strings_Index.f (a0:ByteArray) (a1:ByteArray):Option (Int):=if a1=(⟨#[32]⟩:ByteArray) then (some (Lib.indexByte a0.data.toList 32)) else (none)
theorem strings_Index.calls (a0:ByteArray) (a1:ByteArray) (r:Int) (w:World) (h:strings_Index.f a0 a1=some r) :
  Calls Tryz.prog 87 #[.string a0,.string a1] w fun e w'=>e=.returned (.int .i64 r) /\ Drawn0 w w':=by
 unfold strings_Index.f at h
 split at h
 ·rename_i e1
  subst e1
  obtain rfl:=Option.some.inj h
  exact (Tryz.strings_Index_one a0 32 w).mono fun e w' ⟨h1,h2⟩=>⟨h1,by rw [h2];exact Drawn0.refl _⟩
 ·cases h
def strings_Count.f (a0:ByteArray) (a1:ByteArray):Option (Int):=if a1=(⟨#[32]⟩:ByteArray) then (some (Lib.countByte a0.data.toList 32)) else (none)
theorem strings_Count.calls (a0:ByteArray) (a1:ByteArray) (r:Int) (w:World) (h:strings_Count.f a0 a1=some r) :
  Calls Tryz.prog 86 #[.string a0,.string a1] w fun e w'=>e=.returned (.int .i64 r) /\ Drawn0 w w':=by
 unfold strings_Count.f at h
 split at h
 ·rename_i e1
  subst e1
  obtain rfl:=Option.some.inj h
  exact (Tryz.strings_Count_one a0 32 w).mono fun e w' ⟨h1,h2⟩=>⟨h1,by rw [h2];exact Drawn0.refl _⟩
 ·cases h
mutual
def strings_genSplit.j0:Nat -> ByteArray -> ByteArray -> Int -> Int -> Option (List ByteArray)
 | 0,_,_,_,_=>none
 | k+1,x0,x1,x2,x3=>if 0 <= (mn x3 (wrap64 ((x0.size:Int)+1))) then (if (mn x3 (wrap64 ((x0.size:Int)+1)):Int).toNat <= 17592186044416 then (strings_genSplit.l0 k x0 x1 x2 (wrap64 ((mn x3 (wrap64 ((x0.size:Int)+1))) - 1)) (List.replicate (mn x3 (wrap64 ((x0.size:Int)+1)):Int).toNat (⟨#[]⟩:ByteArray)) 0) else (none)) else (none)
def strings_genSplit.l0:Nat -> ByteArray -> ByteArray -> Int -> Int -> List ByteArray -> Int -> Option (List ByteArray)
 | 0,_,_,_,_,_,_=>none
 | k+1,x0,x1,x2,x3,x9,x10=>if x10<x3 then ((strings_Index.f x0 x1).bind fun t109=>(if t109<0 then (if 0 <= x10 then (if x10<(x9.length:Int) then (if 0 <= (wrap64 (x10+1)) then (if (wrap64 (x10+1)) <= (x9.length:Int) then (some ((x9.set (x10:Int).toNat x0).take ((wrap64 (x10+1)):Int).toNat)) else (none)) else (none)) else (none)) else (none)) else (if 0 <= (wrap64 (t109+x2)) then (if (wrap64 (t109+x2)) <= (x0.size:Int) then (if 0 <= x10 then (if x10<(x9.length:Int) then (if 0 <= (wrap64 (t109+(x1.size:Int))) then (if (wrap64 (t109+(x1.size:Int))) <= (x0.size:Int) then (strings_genSplit.l0 k (x0.extract ((wrap64 (t109+(x1.size:Int))):Int).toNat x0.size) x1 x2 x3 (x9.set (x10:Int).toNat (x0.extract 0 ((wrap64 (t109+x2)):Int).toNat)) (wrap64 (x10+1))) else (none)) else (none)) else (none)) else (none)) else (none)) else (none)))) else (if 0 <= x10 then (if x10<(x9.length:Int) then (if 0 <= (wrap64 (x10+1)) then (if (wrap64 (x10+1)) <= (x9.length:Int) then (some ((x9.set (x10:Int).toNat x0).take ((wrap64 (x10+1)):Int).toNat)) else (none)) else (none)) else (none)) else (none))
end
def strings_genSplit.f (k:Nat) (a0:ByteArray) (a1:ByteArray) (a2:Int) (a3:Int):Option (List ByteArray):=if a3=0 then (some ([]:List ByteArray)) else (if a1.toList=([]:List UInt8) then ((strings_explode.f a0 a3).bind fun t102=>(some t102)) else (if a3<0 then ((strings_Count.f a0 a1).bind fun t105=>(strings_genSplit.j0 k a0 a1 a2 (wrap64 (t105+1)))) else (strings_genSplit.j0 k a0 a1 a2 a3)))
theorem strings_genSplit.mono_l:∀ k,(∀ y0 y1 y2 y3,LeO (strings_genSplit.j0 k y0 y1 y2 y3) (strings_genSplit.j0 (k+1) y0 y1 y2 y3)) /\ (∀ y0 y1 y2 y3 y4 y5,LeO (strings_genSplit.l0 k y0 y1 y2 y3 y4 y5) (strings_genSplit.l0 (k+1) y0 y1 y2 y3 y4 y5))
 | 0=>⟨fun _ _ _ _ r h=>by simp [strings_genSplit.j0] at h,fun _ _ _ _ _ _ r h=>by simp [strings_genSplit.l0] at h⟩
 | k+1=>by
  obtain ⟨ih0,ih1⟩:=strings_genSplit.mono_l k
  refine ⟨?_,?_⟩
  ·intro y0 y1 y2 y3
   unfold strings_genSplit.j0
   with_reducible repeat' first|exact ih0 _ _ _ _|exact ih1 _ _ _ _ _ _|exact lrz _|exact lnz _|refine liz ?_ ?_|refine lbz ?_ fun _=>?_
  ·intro y0 y1 y2 y3 y4 y5
   unfold strings_genSplit.l0
   with_reducible repeat' first|exact ih0 _ _ _ _|exact ih1 _ _ _ _ _ _|exact lrz _|exact lnz _|refine liz ?_ ?_|refine lbz ?_ fun _=>?_
theorem strings_genSplit.mono:∀ a0 a1 a2 a3 k,LeO (strings_genSplit.f k a0 a1 a2 a3) (strings_genSplit.f (k+1) a0 a1 a2 a3):=by
 intro a0 a1 a2 a3 k
 obtain ⟨ih0,ih1⟩:=strings_genSplit.mono_l k
 unfold strings_genSplit.f
 with_reducible repeat' first|exact ih0 _ _ _ _|exact ih1 _ _ _ _ _ _|exact lrz _|exact lnz _|refine liz ?_ ?_|refine lbz ?_ fun _=>?_
set_option maxHeartbeats 8000000 in
set_option maxRecDepth 100000 in
theorem strings_genSplit.calls (k:Nat) (a0:ByteArray) (a1:ByteArray) (a2:Int) (a3:Int) (r:List ByteArray) (w:World) (h:strings_genSplit.f k a0 a1 a2 a3=some r) :
  Calls Tryz.prog 68 #[.string a0,.string a1,.int .i64 a2,.int .i64 a3] w fun e w'=>∃ v0_:Value,e=.returned (v0_) /\ Kd.R Kd.string 9 w' w.heap.size (fun _=>True) v0_ r /\ Below w.heap.size w w':=by
 have HB:=am (Below.refl w.heap.size w)
 have H:(if a3=0 then (some ([]:List ByteArray)) else (if a1.toList=([]:List UInt8) then ((strings_explode.f a0 a3).bind fun t102=>(some t102)) else (if a3<0 then ((strings_Count.f a0 a1).bind fun t105=>(strings_genSplit.j0 k a0 a1 a2 (wrap64 (t105+1)))) else (strings_genSplit.j0 k a0 a1 a2 a3))))=some r:=h
 clear h
 by_cases c5:a3=0
 ·rw [if_pos c5] at H
  have c5b0:(a3 == 0)=true:=beq_iff_eq.mpr c5
  have c5b1:(a3 != 0)=false:=bne_eq_false_iff_eq.mpr c5
  clear c5
  obtain rfl:=Option.some.inj H
  go_enter Tryz.func68,Tryz.ntmps68
  go_wp2
  go_ret
  exact ⟨_,gz,by first|exact Kd.R_nil _ _ _ _ _|exact Kd.N_nil _ _ _ _ _|exact Kd.V_nil _ _ _ _ _|exact Kd.Q_nil _ _ _ _ _|exact Kd.S_nil _ _ _ _ _,(bz0 HB.out)⟩
 ·rw [if_neg c5] at H
  have c5b0:(a3 == 0)=false:=beq_eq_false_iff_ne.mpr c5
  have c5b1:(a3 != 0)=true:=bne_iff_ne.mpr c5
  by_cases c6:a1.toList=([]:List UInt8)
  ·rw [if_pos c6] at H
   have c6b0:(a1.toList == ([]:List UInt8))=true:=beq_iff_eq.mpr c6
   have c6b1:(a1.toList != ([]:List UInt8))=false:=bne_eq_false_iff_eq.mpr c6
   clear c6
   replace H:=bi H
   obtain ⟨t102,A70,H⟩:=H
   try dsimp only at H
   have A7:=am A70
   clear A70
   obtain rfl:=Option.some.inj H
   go_enter Tryz.func68,Tryz.ntmps68
   go_wp2_with (first|((with_reducible refine gate_callee (f:=85) rfl ?_);refine goesL_ (some 18) rfl rfl Tryz.func85 kr rfl #[.string a0,.int .i64 a3] rfl lz ?_;(with_reducible refine (strings_explode.calls a0 a3 t102 _ A7.out).mono ?_);rintro e w8 ⟨v103,rfl,ho0,hb⟩;refine ⟨_,rfl,?_⟩;have HO104:=am (Kd.R_lower ho0 (below_size (bz0 HB.out)));replace HB:=bs (bz0 HB.out) hb;(try clear hb);(try clear ho0)))
   go_ret
   exact ⟨_,gz,by refine rq ?_;exact HO104.out,(bz0 HB.out)⟩
  ·rw [if_neg c6] at H
   have c6b0:(a1.toList == ([]:List UInt8))=false:=beq_eq_false_iff_ne.mpr c6
   have c6b1:(a1.toList != ([]:List UInt8))=true:=bne_iff_ne.mpr c6
   have HC9:=am H
   clear H
   go_enter Tryz.func68,Tryz.ntmps68
   go_upto_if 20 with (fail)
   go_cut [3] (fun v3 wc=>∃ (kq:Nat) (x3_8:Int),v3=.int .i64 x3_8 /\ Aside0 (strings_genSplit.j0 kq a0 a1 a2 x3_8=some r) /\ Aside0 (kq <= k) /\ Aside0 (Below w.heap.size w wc))
   case first =>
    have H:=HC9.out
    clear HC9
    by_cases c10:a3<0
    ·rw [if_pos c10] at H
     have c10b0:=decide_eq_true c10
     clear c10
     (first|rw [c10b0]|(simp only [i64_w,i32_w];rw [c10b0])|skip)
     replace H:=bi H
     obtain ⟨t105,A110,H⟩:=H
     try dsimp only at H
     have A11:=am A110
     clear A110
     have H':=am H
     clear H
     go_wp2_with (first|((with_reducible refine gate_callee (f:=86) rfl ?_);refine goesL_ (some 23) rfl rfl Tryz.func86 kr rfl #[.string a0,.string a1] rfl lz ?_;(with_reducible refine (strings_Count.calls a0 a1 t105 _ A11.out).mono ?_);rintro e w' ⟨rfl,⟨nd,rfl⟩⟩;refine ⟨_,rfl,?_⟩))
     go_meet
     case rel=>exact ⟨_,(wrap64 (t105+1)),ez,H',⟨by first|omega|exact Nat.le_refl _⟩,⟨(bz0 HB.out)⟩⟩
    ·rw [if_neg c10] at H
     have c10b0:=decide_eq_false c10
     clear c10
     (first|rw [c10b0]|(simp only [i64_w,i32_w];rw [c10b0])|skip)
     have H':=am H
     clear H
     go_wp2
     go_meet
     case rel=>exact ⟨_,(a3),ez,H',⟨by first|omega|exact Nat.le_refl _⟩,⟨(bz0 HB.out)⟩⟩
   case rest =>
    clear HC9
    try clear c1
    try clear p2
    try clear c5
    try clear c5b0
    try clear c5b1
    try clear c6
    try clear c6b0
    try clear c6b1
    try clear p6
    try clear c8
    try clear c10
    try clear c10b0
    obtain ⟨kq,x3_8,rfl,HA,HJ8,HB⟩:=hcut
    cases kq with
    | zero=>exact absurd HA.out (by simp [strings_genSplit.j0])
    | succ kj8 =>
     have H:=HA.out
     clear HA
     simp only [strings_genSplit.j0] at H
     obtain ⟨ji12,hji12⟩:∃ j_:Int,(mn x3_8 (wrap64 ((a0.size:Int)+1)))=j_:=⟨_,rfl⟩
     replace H:(if 0 <= (ji12) then (if (ji12:Int).toNat <= 17592186044416 then (strings_genSplit.l0 kj8 a0 a1 a2 (wrap64 ((ji12) - 1)) (List.replicate (ji12:Int).toNat (⟨#[]⟩:ByteArray)) 0) else (none)) else (none))=some r:=by first|(rw [hji12] at H;exact H)|(simp only [hji12] at H ⊢;exact H)
     have hji12_:(if (wrap64 ((a0.size:Int)+1))<x3_8 then (wrap64 ((a0.size:Int)+1)) else x3_8)=ji12:=hji12
     replace H:=iz H
     obtain ⟨c13,H⟩:=H
     have c13b0:=eq_true c13
     have c13b1:decide (0 <= (ji12))=true:=decide_eq_true c13
     clear c13
     replace H:=iz H
     obtain ⟨c14,H⟩:=H
     have c14b0:=eq_true c14
     have c14b1:decide ((ji12:Int).toNat <= 17592186044416)=true:=decide_eq_true c14
     clear c14
     obtain ⟨y106,hy106⟩:∃ y_:List ByteArray,y_=(List.replicate (ji12:Int).toNat (⟨#[]⟩:ByteArray)):=⟨_,rfl⟩
     replace H:(strings_genSplit.l0 kj8 a0 a1 a2 (wrap64 ((ji12) - 1)) y106 0)=some r:=yz hy106 H
     have Ny106:=am hy106
     clear hy106
     have H':=am H
     clear H
     go_wp2_with (first|((with_reducible refine gate_dst (N:=31) rfl ?_);refine Kd.R_make Kd.string _ 9 rfl (N:=31) rfl 42 _ _ rfl ji12 rfl rfl Tryz.underlying42 (.string ⟨#[]⟩) 16 info9 rfl (by decide) (by omega) (⟨#[]⟩:ByteArray) (ok:=fun _=>True) (okp:=fun _=>True) rfl (fun _ hk=>hk) trivial (of_decide_eq_true az) (Nat.le_trans (Nat.mul_le_mul_right _ (of_decide_eq_true az:ji12.toNat <= 17592186044416)) (by omega)) (Below.refl _ _) (Nat.le_refl _) ?_;intro v107 w15 ho16 hb hg_ hnew_;clear hg_ hnew_;(first|rw [<- Ny106.out] at ho16|(simp only [Int.reduceToNat] at ho16;rw [<- Ny106.out] at ho16));have HO108:=am (Kd.R_lower ho16 (below_size (bz0 HB.out)));replace HB:=bs (bz0 HB.out) hb;clear hb ho16))
     (try simp only [Act.put,sz1,sz2,sz3])
     go_loopg [0,10] kj8 (fun kq v0 v10 w'=>∃ (x0_2:ByteArray) (x9_2:List ByteArray) (x10_2:Int),v0=.string x0_2 /\ v10=.int .i64 x10_2 /\ Aside0 (strings_genSplit.l0 kq x0_2 a1 a2 (wrap64 ((ji12) - 1)) x9_2 x10_2=some r) /\ Aside0 (kq <= kj8) /\ Aside0 (Kd.R Kd.string 9 w' w.heap.size (fun _=>True) v107 x9_2) /\ Aside0 (Below w.heap.size w w'))
     case atStart=>exact ⟨(a0),(y106),(0),ez,ez,H',⟨Nat.le_refl _⟩,⟨by refine rq ?_;exact HO108.out⟩,⟨(bz0 HB.out)⟩⟩
     case round =>
      clear H'
      try clear c1
      try clear p2
      try clear c5
      try clear c5b0
      try clear c5b1
      try clear c6
      try clear c6b0
      try clear c6b1
      try clear p6
      try clear c8
      try clear c10
      try clear c10b0
      try clear c13
      try clear c13b0
      try clear c13b1
      try clear c14
      try clear c14b0
      try clear c14b1
      try clear p2
      try clear p6
      obtain ⟨x0_2,x9_2,x10_2,rfl,rfl,HA,HK2,HO_9,HB⟩:=hrel
      cases gk with
      | zero=>exact absurd HA.out (by simp [strings_genSplit.l0])
      | succ k2 =>
       have H:=HA.out
       clear HA
       simp only [strings_genSplit.l0] at H
       by_cases c17:x10_2<(wrap64 ((ji12) - 1))
       ·rw [if_pos c17] at H
        have c17b0:=decide_eq_true c17
        clear c17
        replace H:=bi H
        obtain ⟨t109,A180,H⟩:=H
        try dsimp only at H
        have A18:=am A180
        clear A180
        by_cases c19:t109<0
        ·rw [if_pos c19] at H
         have c19b0:=decide_eq_true c19
         clear c19
         replace H:=iz H
         obtain ⟨c20,H⟩:=H
         have c20b0:=decide_eq_true c20
         clear c20
         replace H:=iz H
         obtain ⟨c21,H⟩:=H
         have c21b0:=decide_eq_true c21
         clear c21
         obtain ⟨y110,hy110⟩:∃ y_:List ByteArray,y_=(x9_2.set (x10_2:Int).toNat x0_2):=⟨_,rfl⟩
         replace H:(if 0 <= (wrap64 (x10_2+1)) then (if (wrap64 (x10_2+1)) <= (x9_2.length:Int) then (some (y110.take ((wrap64 (x10_2+1)):Int).toNat)) else (none)) else (none))=some r:=yz hy110 H
         have Ny110:=am hy110
         clear hy110
         obtain ⟨ji23,hji23⟩:∃ j_:Int,(wrap64 (x10_2+1))=j_:=⟨_,rfl⟩
         replace H:(if 0 <= (ji23) then (if (ji23) <= (x9_2.length:Int) then (some (y110.take ((ji23):Int).toNat)) else (none)) else (none))=some r:=by first|(rw [hji23] at H;exact H)|(simp only [hji23] at H ⊢;exact H)
         (try rw [hji23] at A18)
         have hji23w:(IntKind.i64.wrap (x10_2+1))=ji23:=(i64_w _).trans hji23
         replace H:=iz H
         obtain ⟨c24,H⟩:=H
         have c24b0:=eq_true c24
         have c24b1:decide (0 <= (ji23))=true:=decide_eq_true c24
         clear c24
         replace H:=iz H
         obtain ⟨c25,H⟩:=H
         have c25b0:=eq_true c25
         have c25b1:decide ((ji23) <= (x9_2.length:Int))=true:=decide_eq_true c25
         clear c25
         obtain ⟨y111,hy111⟩:∃ y_:List ByteArray,y_=(y110.take ((ji23):Int).toNat):=⟨_,rfl⟩
         replace H:(some y111)=some r:=yz hy111 H
         have Ny111:=am hy111
         clear hy111
         obtain rfl:=Option.some.inj H
         go_wp2_with (first|((with_reducible refine gate_callee (f:=87) rfl ?_);refine goesL_ (some 39) rfl rfl Tryz.func87 kr rfl #[.string x0_2,.string a1] rfl lz ?_;(with_reducible refine (strings_Index.calls x0_2 a1 t109 _ A18.out).mono ?_);rintro e w' ⟨rfl,⟨nd,rfl⟩⟩;refine ⟨_,rfl,?_⟩;(try (rw [drewN_self wr];generalize hq_:World.drewN wr _=wr;have n0_:Aside0 (Kd.R Kd.string 9 wr w.heap.size (fun _=>True) v107 x9_2):=⟨by rw [<- hq_];exact (rz HO_9.out)⟩;have n1_:Aside0 (Below w.heap.size w wr):=⟨by rw [<- hq_];exact (bz0 HB.out)⟩;clear HO_9 HB hq_;have HO_9:=n0_;have HB:=n1_;clear n0_ n1_));have p22:0 <= (x10_2:Int):=oz;have q22:(x10_2:Int)<((x9_2.length:Int):Int):=oz;obtain ⟨go22,co22,eo22,gb22,gl22,cl22,HG22⟩:=Kd.R_form HO_9.out (by omega);(first|cases eo22|(injection eo22 with ea_ en_ ec_;(first|subst ea_|(injection ea_ with ea_;subst ea_));subst ec_;clear en_));have GB22:=am gb22;have GG22:=am HG22;clear gb22 gl22 HG22;obtain ⟨hx22_0,hf22_0⟩:=Kd.R_celln (⟨#[]⟩:ByteArray) HO_9.out (x10_2:Int) p22 q22;replace p22:=eq_true p22;replace q22:=eq_true q22;obtain ⟨hy26_,hz26_⟩:=Kd.R_celln (⟨#[]⟩:ByteArray) HO_9.out (x10_2:Int) (of_decide_eq_true az) (of_decide_eq_true az);have HP26:=Kd.R_putg HO_9.out (x10_2:Int) x0_2)|((with_reducible refine gate_store (t:=9) (p:=61) rfl ?_);refine store_event (t:=9) (p:=61) (v:=?vo_w27) (w1:=(wr.setCell ⟨go22,(x10_2:Int).toNat,none⟩ (.string x0_2))) ?hg ?ho ?hn ?hr ?_;(case ho=>rfl);(case hg=>rfl);(case hn=>rfl);(case hr=>exact vz);intro w27 hw;have hg:wr.grownBy w27 (some go22):=(by rw [hw];exact HP26.2);have hp_:Kd.R Kd.string 9 w27 w.heap.size (fun _=>True) (.slice (some ⟨go22,0,none⟩) x9_2.length co22) y110:=(by rw [hw,Ny110.out];exact HP26.1);clear HP26;replace HO_9:=am (hp_);replace HB:=am ((by rw [hw];exact below_set (HB.out) GB22.out:Below w.heap.size w w27));clear hg hw hp_;have q28:((ji23):Int) <= ((x9_2.length:Int):Int):=oz;obtain ⟨i028,hi028,_,hsz28,_⟩:=info_parts info9;have hcut28:=cut_to (P:=Tryz.prog) 42 9 .i64 Tryz.underlying42 hi028 (some ⟨go22,0,none⟩) x9_2.length co22 (ji23) (of_decide_eq_true az) q28 (Kd.R_reads' HO_9.out).2.1;have hlen28:y110.length=x9_2.length:=(by rw [Ny110.out,List.length_set]);have hr28:=Kd.R_take (m:=((ji23):Int).toNat) HO_9.out (by omega);have hy28:y111.length=((ji23):Int).toNat:=(by rw [Ny111.out,List.length_take];omega);rw [<- Ny111.out] at hr28;rw [<- hy28] at hr28 hcut28;clear hlen28;clear hy28 hi028 hsz28 HO_9;have HO113:=am hr28;clear hr28;replace q28:=eq_true q28))
         go_ret
         exact ⟨_,by first|rfl|(simp [errW_none,errW_some] <;> rfl)|(simp only [<- hji12,<- hji23];first|rfl|(simp [errW_none,errW_some] <;> rfl))|(simp [*,errW_none,errW_some] <;> rfl),by refine rq ?_;exact HO113.out,(bz0 HB.out)⟩
        ·rw [if_neg c19] at H
         have c19b0:=decide_eq_false c19
         clear c19
         obtain ⟨ji29,hji29⟩:∃ j_:Int,(wrap64 (t109+a2))=j_:=⟨_,rfl⟩
         replace H:(if 0 <= (ji29) then (if (ji29) <= (x0_2.size:Int) then (if 0 <= x10_2 then (if x10_2<(x9_2.length:Int) then (if 0 <= (wrap64 (t109+(a1.size:Int))) then (if (wrap64 (t109+(a1.size:Int))) <= (x0_2.size:Int) then (strings_genSplit.l0 k2 (x0_2.extract ((wrap64 (t109+(a1.size:Int))):Int).toNat x0_2.size) a1 a2 (wrap64 ((ji12) - 1)) (x9_2.set (x10_2:Int).toNat (x0_2.extract 0 ((ji29):Int).toNat)) (wrap64 (x10_2+1))) else (none)) else (none)) else (none)) else (none)) else (none)) else (none))=some r:=by first|(rw [hji29] at H;exact H)|(simp only [hji29] at H ⊢;exact H)
         (try rw [hji29] at A18)
         have hji29w:(IntKind.i64.wrap (t109+a2))=ji29:=(i64_w _).trans hji29
         replace H:=iz H
         obtain ⟨c30,H⟩:=H
         have c30b0:=eq_true c30
         have c30b1:decide (0 <= (ji29))=true:=decide_eq_true c30
         clear c30
         replace H:=iz H
         obtain ⟨c31,H⟩:=H
         have c31b0:=eq_true c31
         have c31b1:decide ((ji29) <= (x0_2.size:Int))=true:=decide_eq_true c31
         clear c31
         replace H:=iz H
         obtain ⟨c32,H⟩:=H
         have c32b0:=decide_eq_true c32
         clear c32
         replace H:=iz H
         obtain ⟨c33,H⟩:=H
         have c33b0:=decide_eq_true c33
         clear c33
         obtain ⟨y114,hy114⟩:∃ y_:List ByteArray,y_=(x9_2.set (x10_2:Int).toNat (x0_2.extract 0 ((ji29):Int).toNat)):=⟨_,rfl⟩
         replace H:(if 0 <= (wrap64 (t109+(a1.size:Int))) then (if (wrap64 (t109+(a1.size:Int))) <= (x0_2.size:Int) then (strings_genSplit.l0 k2 (x0_2.extract ((wrap64 (t109+(a1.size:Int))):Int).toNat x0_2.size) a1 a2 (wrap64 ((ji12) - 1)) y114 (wrap64 (x10_2+1))) else (none)) else (none))=some r:=yz hy114 H
         have Ny114:=am hy114
         clear hy114
         obtain ⟨ji35,hji35⟩:∃ j_:Int,(wrap64 (t109+(a1.size:Int)))=j_:=⟨_,rfl⟩
         replace H:(if 0 <= (ji35) then (if (ji35) <= (x0_2.size:Int) then (strings_genSplit.l0 k2 (x0_2.extract ((ji35):Int).toNat x0_2.size) a1 a2 (wrap64 ((ji12) - 1)) y114 (wrap64 (x10_2+1))) else (none)) else (none))=some r:=by first|(rw [hji35] at H;exact H)|(simp only [hji35] at H ⊢;exact H)
         (try rw [hji35] at A18)
         have hji35w:(IntKind.i64.wrap (t109+(a1.size:Int)))=ji35:=(i64_w _).trans hji35
         replace H:=iz H
         obtain ⟨c36,H⟩:=H
         have c36b0:=eq_true c36
         have c36b1:decide (0 <= (ji35))=true:=decide_eq_true c36
         clear c36
         replace H:=iz H
         obtain ⟨c37,H⟩:=H
         have c37b0:=eq_true c37
         have c37b1:decide ((ji35) <= (x0_2.size:Int))=true:=decide_eq_true c37
         clear c37
         have H':=am H
         clear H
         go_wp2_with (first|((with_reducible refine gate_callee (f:=87) rfl ?_);refine goesL_ (some 39) rfl rfl Tryz.func87 kr rfl #[.string x0_2,.string a1] rfl lz ?_;(with_reducible refine (strings_Index.calls x0_2 a1 t109 _ A18.out).mono ?_);rintro e w' ⟨rfl,⟨nd,rfl⟩⟩;refine ⟨_,rfl,?_⟩;(try (rw [drewN_self wr];generalize hq_:World.drewN wr _=wr;have n0_:Aside0 (Kd.R Kd.string 9 wr w.heap.size (fun _=>True) v107 x9_2):=⟨by rw [<- hq_];exact (rz HO_9.out)⟩;have n1_:Aside0 (Below w.heap.size w wr):=⟨by rw [<- hq_];exact (bz0 HB.out)⟩;clear HO_9 HB hq_;have HO_9:=n0_;have HB:=n1_;clear n0_ n1_));have p34:0 <= (x10_2:Int):=oz;have q34:(x10_2:Int)<((x9_2.length:Int):Int):=oz;obtain ⟨go34,co34,eo34,gb34,gl34,cl34,HG34⟩:=Kd.R_form HO_9.out (by omega);(first|cases eo34|(injection eo34 with ea_ en_ ec_;(first|subst ea_|(injection ea_ with ea_;subst ea_));subst ec_;clear en_));have GB34:=am gb34;have GG34:=am HG34;clear gb34 gl34 HG34;obtain ⟨hx34_0,hf34_0⟩:=Kd.R_celln (⟨#[]⟩:ByteArray) HO_9.out (x10_2:Int) p34 q34;replace p34:=eq_true p34;replace q34:=eq_true q34;obtain ⟨hy38_,hz38_⟩:=Kd.R_celln (⟨#[]⟩:ByteArray) HO_9.out (x10_2:Int) (of_decide_eq_true az) (of_decide_eq_true az);have HP38:=Kd.R_putg HO_9.out (x10_2:Int) (x0_2.extract 0 ((ji29):Int).toNat))|((with_reducible refine gate_store (t:=9) (p:=49) rfl ?_);refine store_event (t:=9) (p:=49) (v:=?vo_w39) (w1:=(wr.setCell ⟨go34,(x10_2:Int).toNat,none⟩ (.string (x0_2.extract 0 ((ji29):Int).toNat)))) ?hg ?ho ?hn ?hr ?_;(case ho=>rfl);(case hg=>rfl);(case hn=>rfl);(case hr=>exact vz);intro w39 hw;have hg:wr.grownBy w39 (some go34):=(by rw [hw];exact HP38.2);have hp_:Kd.R Kd.string 9 w39 w.heap.size (fun _=>True) (.slice (some ⟨go34,0,none⟩) x9_2.length co34) y114:=(by rw [hw,Ny114.out];exact HP38.1);clear HP38;replace HO_9:=am (hp_);replace HB:=am ((by rw [hw];exact below_set (HB.out) GB34.out:Below w.heap.size w w39));clear hg hw hp_))
         go_roundg k2
         case measure=>have:=HJ8.out;have:=HK2.out;omega
         case rel=>exact ⟨(x0_2.extract ((ji35):Int).toNat x0_2.size),(y114),(wrap64 (x10_2+1)),(by first|rfl|(simp;done)|(simp only [<- hji35] <;> (first|rfl|simp))|(simp [*];done)),ez,H',⟨by have:=HJ8.out;have:=HK2.out;omega⟩,⟨by refine rq ?_;exact HO_9.out⟩,⟨(bz0 HB.out)⟩⟩
       ·rw [if_neg c17] at H
        have c17b0:=decide_eq_false c17
        clear c17
        replace H:=iz H
        obtain ⟨c40,H⟩:=H
        have c40b0:=decide_eq_true c40
        clear c40
        replace H:=iz H
        obtain ⟨c41,H⟩:=H
        have c41b0:=decide_eq_true c41
        clear c41
        obtain ⟨y115,hy115⟩:∃ y_:List ByteArray,y_=(x9_2.set (x10_2:Int).toNat x0_2):=⟨_,rfl⟩
        replace H:(if 0 <= (wrap64 (x10_2+1)) then (if (wrap64 (x10_2+1)) <= (x9_2.length:Int) then (some (y115.take ((wrap64 (x10_2+1)):Int).toNat)) else (none)) else (none))=some r:=yz hy115 H
        have Ny115:=am hy115
        clear hy115
        obtain ⟨ji43,hji43⟩:∃ j_:Int,(wrap64 (x10_2+1))=j_:=⟨_,rfl⟩
        replace H:(if 0 <= (ji43) then (if (ji43) <= (x9_2.length:Int) then (some (y115.take ((ji43):Int).toNat)) else (none)) else (none))=some r:=by first|(rw [hji43] at H;exact H)|(simp only [hji43] at H ⊢;exact H)
        have hji43w:(IntKind.i64.wrap (x10_2+1))=ji43:=(i64_w _).trans hji43
        replace H:=iz H
        obtain ⟨c44,H⟩:=H
        have c44b0:=eq_true c44
        have c44b1:decide (0 <= (ji43))=true:=decide_eq_true c44
        clear c44
        replace H:=iz H
        obtain ⟨c45,H⟩:=H
        have c45b0:=eq_true c45
        have c45b1:decide ((ji43) <= (x9_2.length:Int))=true:=decide_eq_true c45
        clear c45
        obtain ⟨y116,hy116⟩:∃ y_:List ByteArray,y_=(y115.take ((ji43):Int).toNat):=⟨_,rfl⟩
        replace H:(some y116)=some r:=yz hy116 H
        have Ny116:=am hy116
        clear hy116
        obtain rfl:=Option.some.inj H
        have p42:0 <= (x10_2:Int):=oz
        have q42:(x10_2:Int)<((x9_2.length:Int):Int):=oz
        obtain ⟨go42,co42,eo42,gb42,gl42,cl42,HG42⟩:=Kd.R_form HO_9.out (by omega)
        (first|cases eo42|(injection eo42 with ea_ en_ ec_;(first|subst ea_|(injection ea_ with ea_;subst ea_));subst ec_;clear en_))
        have GB42:=am gb42
        have GG42:=am HG42
        clear gb42 gl42 HG42
        obtain ⟨hx42_0,hf42_0⟩:=Kd.R_celln (⟨#[]⟩:ByteArray) HO_9.out (x10_2:Int) p42 q42
        replace p42:=eq_true p42
        replace q42:=eq_true q42
        have HP46:=Kd.R_putg HO_9.out (x10_2:Int) x0_2
        go_wp2_with (first|((with_reducible refine gate_store (t:=9) (p:=61) rfl ?_);refine store_event (t:=9) (p:=61) (v:=?vo_w47) (w1:=(wr.setCell ⟨go42,(x10_2:Int).toNat,none⟩ (.string x0_2))) ?hg ?ho ?hn ?hr ?_;(case ho=>rfl);(case hg=>rfl);(case hn=>rfl);(case hr=>exact vz);intro w47 hw;have hg:wr.grownBy w47 (some go42):=(by rw [hw];exact HP46.2);have hp_:Kd.R Kd.string 9 w47 w.heap.size (fun _=>True) (.slice (some ⟨go42,0,none⟩) x9_2.length co42) y115:=(by rw [hw,Ny115.out];exact HP46.1);clear HP46;replace HO_9:=am (hp_);replace HB:=am ((by rw [hw];exact below_set (HB.out) GB42.out:Below w.heap.size w w47));clear hg hw hp_;have q48:((ji43):Int) <= ((x9_2.length:Int):Int):=oz;obtain ⟨i048,hi048,_,hsz48,_⟩:=info_parts info9;have hcut48:=cut_to (P:=Tryz.prog) 42 9 .i64 Tryz.underlying42 hi048 (some ⟨go42,0,none⟩) x9_2.length co42 (ji43) (of_decide_eq_true az) q48 (Kd.R_reads' HO_9.out).2.1;have hlen48:y115.length=x9_2.length:=(by rw [Ny115.out,List.length_set]);have hr48:=Kd.R_take (m:=((ji43):Int).toNat) HO_9.out (by omega);have hy48:y116.length=((ji43):Int).toNat:=(by rw [Ny116.out,List.length_take];omega);rw [<- Ny116.out] at hr48;rw [<- hy48] at hr48 hcut48;clear hlen48;clear hy48 hi048 hsz48 HO_9;have HO118:=am hr48;clear hr48;replace q48:=eq_true q48))
        go_ret
        exact ⟨_,by first|rfl|(simp [errW_none,errW_some] <;> rfl)|(simp only [<- hji12,<- hji43];first|rfl|(simp [errW_none,errW_some] <;> rfl))|(simp [*,errW_none,errW_some] <;> rfl),by refine rq ?_;exact HO118.out,(bz0 HB.out)⟩
def strings_Split.f (k:Nat) (a0:ByteArray) (a1:ByteArray):Option (List ByteArray):=(strings_genSplit.f k a0 a1 0 (-1)).bind fun t119=>(some t119)
theorem strings_Split.mono:∀ a0 a1 k,LeO (strings_Split.f k a0 a1) (strings_Split.f (k+1) a0 a1):=by
 intro a0 a1 k
 unfold strings_Split.f
 with_reducible repeat' first|exact strings_genSplit.mono _ _ _ _ _|exact lrz _|exact lnz _|refine liz ?_ ?_|refine lbz ?_ fun _=>?_
set_option maxHeartbeats 8000000 in
set_option maxRecDepth 100000 in
theorem strings_Split.calls (k:Nat) (a0:ByteArray) (a1:ByteArray) (r:List ByteArray) (w:World) (h:strings_Split.f k a0 a1=some r) :
  Calls Tryz.prog 48 #[.string a0,.string a1] w fun e w'=>∃ v0_:Value,e=.returned (v0_) /\ Kd.R Kd.string 9 w' w.heap.size (fun _=>True) v0_ r /\ Below w.heap.size w w':=by
 have HB:=am (Below.refl w.heap.size w)
 have H:((strings_genSplit.f k a0 a1 0 (-1)).bind fun t119=>(some t119))=some r:=h
 clear h
 replace H:=bi H
 obtain ⟨t119,A30,H⟩:=H
 try dsimp only at H
 have A3:=am A30
 clear A30
 obtain rfl:=Option.some.inj H
 go_enter Tryz.func48,Tryz.ntmps48
 go_wp2_with (first|((with_reducible refine gate_callee (f:=68) rfl ?_);refine goesL_ (some 7) rfl rfl Tryz.func68 kr rfl #[.string a0,.string a1,.int .i64 0,.int .i64 (-1)] rfl lz ?_;(with_reducible refine (strings_genSplit.calls k a0 a1 0 (-1) t119 _ A3.out).mono ?_);rintro e w4 ⟨v120,rfl,ho0,hb⟩;refine ⟨_,rfl,?_⟩;have HO121:=am (Kd.R_lower ho0 (below_size (bz0 HB.out)));replace HB:=bs (bz0 HB.out) hb;(try clear hb);(try clear ho0)))
 go_ret
 exact ⟨_,gz,by refine rq ?_;exact HO121.out,(bz0 HB.out)⟩
def impl_IsKey.l0:Nat -> ByteArray -> List ByteArray -> Int -> Int -> Option (Bool)
 | 0,_,_,_,_=>none
 | k+1,x0,x5,x6,x7=>if x7<x6 then (if 0 <= x7 then (if x7<(x5.length:Int) then (if (rdOf ByteArray.empty x5 x7).toList=x0.toList then (some true) else (impl_IsKey.l0 k x0 x5 x6 (wrap64 (x7+1)))) else (none)) else (none)) else (some false)
def impl_IsKey.f (k:Nat) (a0:ByteArray):Option (Bool):=(strings_Split.f k (⟨#[102,117,110,32,97,112,112,32,108,101,116,32,114,101,99,32,105,102,32,97,100,100,32,115,117,98,32,108,101,115,115,32,115,97,109,101,32,112,97,105,114,32,102,115,116,32,115,110,100,32,110,105,108,32,99,111,110,115,32,109,97,116,99,104,32,114,101,102,32,103,101,116,32,115,101,116,32,114,97,105,115,101,32,116,114,121]⟩:ByteArray) (⟨#[32]⟩:ByteArray)).bind fun t122=>(impl_IsKey.l0 k a0 t122 (t122.length:Int) 0)
theorem impl_IsKey.mono_l:∀ k,(∀ y0 y1 y2 y3,LeO (impl_IsKey.l0 k y0 y1 y2 y3) (impl_IsKey.l0 (k+1) y0 y1 y2 y3))
 | 0=>fun _ _ _ _ r h=>by simp [impl_IsKey.l0] at h
 | k+1=>by
  have ih0:=impl_IsKey.mono_l k
  ·intro y0 y1 y2 y3
   unfold impl_IsKey.l0
   with_reducible repeat' first|exact ih0 _ _ _ _|exact strings_Split.mono _ _ _|exact lrz _|exact lnz _|refine liz ?_ ?_|refine lbz ?_ fun _=>?_
theorem impl_IsKey.mono:∀ a0 k,LeO (impl_IsKey.f k a0) (impl_IsKey.f (k+1) a0):=by
 intro a0 k
 have ih0:=impl_IsKey.mono_l k
 unfold impl_IsKey.f
 with_reducible repeat' first|exact ih0 _ _ _ _|exact strings_Split.mono _ _ _|exact lrz _|exact lnz _|refine liz ?_ ?_|refine lbz ?_ fun _=>?_
set_option maxHeartbeats 8000000 in
set_option maxRecDepth 100000 in
theorem impl_IsKey.calls (k:Nat) (a0:ByteArray) (r:Bool) (w:World) (h:impl_IsKey.f k a0=some r) :
  Calls Tryz.prog 24 #[.string a0] w fun e w'=>e=.returned (.bool r) /\ Below w.heap.size w w':=by
 have HB:=am (Below.refl w.heap.size w)
 have H:((strings_Split.f k (⟨#[102,117,110,32,97,112,112,32,108,101,116,32,114,101,99,32,105,102,32,97,100,100,32,115,117,98,32,108,101,115,115,32,115,97,109,101,32,112,97,105,114,32,102,115,116,32,115,110,100,32,110,105,108,32,99,111,110,115,32,109,97,116,99,104,32,114,101,102,32,103,101,116,32,115,101,116,32,114,97,105,115,101,32,116,114,121]⟩:ByteArray) (⟨#[32]⟩:ByteArray)).bind fun t122=>(impl_IsKey.l0 k a0 t122 (t122.length:Int) 0))=some r:=h
 clear h
 replace H:=bi H
 obtain ⟨t122,A20,H⟩:=H
 try dsimp only at H
 have A2:=am A20
 clear A20
 have H':=am H
 clear H
 go_enter Tryz.func24,Tryz.ntmps24
 go_wp2_with (first|((with_reducible refine gate_callee (f:=48) rfl ?_);refine goesL_ (some 5) rfl rfl Tryz.func48 kr rfl #[.string (⟨#[102,117,110,32,97,112,112,32,108,101,116,32,114,101,99,32,105,102,32,97,100,100,32,115,117,98,32,108,101,115,115,32,115,97,109,101,32,112,97,105,114,32,102,115,116,32,115,110,100,32,110,105,108,32,99,111,110,115,32,109,97,116,99,104,32,114,101,102,32,103,101,116,32,115,101,116,32,114,97,105,115,101,32,116,114,121]⟩:ByteArray),.string (⟨#[32]⟩:ByteArray)] rfl lz ?_;(with_reducible refine (strings_Split.calls k (⟨#[102,117,110,32,97,112,112,32,108,101,116,32,114,101,99,32,105,102,32,97,100,100,32,115,117,98,32,108,101,115,115,32,115,97,109,101,32,112,97,105,114,32,102,115,116,32,115,110,100,32,110,105,108,32,99,111,110,115,32,109,97,116,99,104,32,114,101,102,32,103,101,116,32,115,101,116,32,114,97,105,115,101,32,116,114,121]⟩:ByteArray) (⟨#[32]⟩:ByteArray) t122 _ A2.out).mono ?_);rintro e w3 ⟨v123,rfl,ho0,hb⟩;refine ⟨_,rfl,?_⟩;have HO124:=am (Kd.R_lower ho0 (below_size (bz0 HB.out)));replace HB:=bs (bz0 HB.out) hb;(try clear hb);(try clear ho0);obtain ⟨Ao4,co4,eo4⟩:=Kd.R_slice HO124.out;subst eo4))
 go_loopg [7] k (fun kq v7 w'=>∃ (x7_1:Int),v7=.int .i64 x7_1 /\ Aside0 (impl_IsKey.l0 kq a0 t122 (t122.length:Int) x7_1=some r) /\ Aside0 (kq <= k) /\ Aside0 (Kd.R Kd.string 9 w' w.heap.size (fun _=>True) (.slice Ao4 t122.length co4) t122) /\ Aside0 (Below w.heap.size w w'))
 case atStart=>exact ⟨(0),ez,H',⟨Nat.le_refl _⟩,⟨by refine rq ?_;exact HO124.out⟩,⟨(bz0 HB.out)⟩⟩
 case round =>
  clear H'
  try clear c2
  try clear p2
  try clear c4
  obtain ⟨x7_1,rfl,HA,HK1,HO_5,HB⟩:=hrel
  cases gk with
  | zero=>exact absurd HA.out (by simp [impl_IsKey.l0])
  | succ k1 =>
   have H:=HA.out
   clear HA
   simp only [impl_IsKey.l0] at H
   by_cases c5:x7_1<(t122.length:Int)
   ·rw [if_pos c5] at H
    have c5b0:=decide_eq_true c5
    clear c5
    replace H:=iz H
    obtain ⟨c6,H⟩:=H
    have c6b0:=decide_eq_true c6
    clear c6
    replace H:=iz H
    obtain ⟨c7,H⟩:=H
    have c7b0:=decide_eq_true c7
    clear c7
    by_cases c8:(rdOf ByteArray.empty t122 x7_1).toList=a0.toList
    ·rw [if_pos c8] at H
     have c8b0:((rdOf ByteArray.empty t122 x7_1).toList == a0.toList)=true:=beq_iff_eq.mpr c8
     have c8b1:((rdOf ByteArray.empty t122 x7_1).toList != a0.toList)=false:=bne_eq_false_iff_eq.mpr c8
     clear c8
     obtain rfl:=Option.some.inj H
     have p125:0 <= (x7_1:Int):=oz
     have q125:x7_1<(t122.length:Int):=oz
     obtain ⟨ad125,e125,hx125_0⟩:=Kd.at_string (Kd.R_reads' HO_5.out).2.2 x7_1 p125 q125
     cases e125
     replace p125:=eq_true p125
     replace q125:=eq_true q125
     go_wp2
     go_ret
     exact ⟨gz,(bz0 HB.out)⟩
    ·rw [if_neg c8] at H
     have c8b0:((rdOf ByteArray.empty t122 x7_1).toList == a0.toList)=false:=beq_eq_false_iff_ne.mpr c8
     have c8b1:((rdOf ByteArray.empty t122 x7_1).toList != a0.toList)=true:=bne_iff_ne.mpr c8
     have H':=am H
     clear H
     have p125:0 <= (x7_1:Int):=oz
     have q125:x7_1<(t122.length:Int):=oz
     obtain ⟨ad125,e125,hx125_0⟩:=Kd.at_string (Kd.R_reads' HO_5.out).2.2 x7_1 p125 q125
     cases e125
     replace p125:=eq_true p125
     replace q125:=eq_true q125
     go_wp2
     go_roundg k1
     case measure=>have:=HK1.out;omega
     case rel=>exact ⟨(wrap64 (x7_1+1)),ez,H',⟨by have:=HK1.out;omega⟩,⟨by refine rq ?_;exact HO_5.out⟩,⟨(bz0 HB.out)⟩⟩
   ·rw [if_neg c5] at H
    have c5b0:=decide_eq_false c5
    clear c5
    obtain rfl:=Option.some.inj H
    go_wp2
    go_ret
    exact ⟨gz,(bz0 HB.out)⟩
end Go.Proofs.YthmpgocaoccnaaaGreatDoor.PFnFresh
