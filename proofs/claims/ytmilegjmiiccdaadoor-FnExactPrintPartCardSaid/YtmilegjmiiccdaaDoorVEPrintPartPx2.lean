/- PFnExactPrintPartx2, of the words and walks that the law FnExactPrintPart needs; made by this session's program out of printed texts. -/

import Derived.Test.YtmilegjmiiccdaaDoorVEPrintPartPx0
namespace Go.Proofs.YtmilegjmiiccdaaDoor.PFnExactPrintPart
open Go.RowKit Go.Proofs.YtmilegjmiiccdaaDoorW.PrintWords Go.Proofs.YtmilegjmiiccdaaDoorW.PrintLast Go.Proofs.YtmilegjmiiccdaaDoorW.PrintMore
attribute [local go_sem] max2_int min2_int max_two min_two max_three min_three max_four min_four
set_option linter.unusedVariables false
set_option linter.unusedSimpArgs false
mutual
def spec_Arity.j0 : Nat -> Int -> Bool -> Option (Int)
 | 0, _, _ => none
 | k + 1, x3, x4 => if x4 = true then (some 1) else (if x3 = 4 then (spec_Arity.j1 k x3 (x3 == 4)) else (if x3 = 5 then (spec_Arity.j1 k x3 (x3 == 5)) else (if x3 = 6 then (spec_Arity.j1 k x3 (x3 == 6)) else (if x3 = 8 then (spec_Arity.j1 k x3 (x3 == 8)) else (if x3 = 9 then (spec_Arity.j1 k x3 (x3 == 9)) else (if x3 = 13 then (spec_Arity.j1 k x3 (x3 == 13)) else (if x3 = 17 then (spec_Arity.j1 k x3 (x3 == 17)) else (spec_Arity.j1 k x3 (x3 == 19)))))))))
def spec_Arity.j1 : Nat -> Int -> Bool -> Option (Int)
 | 0, _, _ => none
 | k + 1, x3, x11 => if x11 = true then (some 2) else (if x3 = 7 then (some 3) else (if x3 = 14 then (some 3) else (some 0)))
end
def spec_Arity.f (k : Nat) (a0 : Int) : Option (Int) := if a0 = 3 then (spec_Arity.j0 k a0 (a0 == 3)) else (if a0 = 10 then (spec_Arity.j0 k a0 (a0 == 10)) else (if a0 = 11 then (spec_Arity.j0 k a0 (a0 == 11)) else (if a0 = 15 then (spec_Arity.j0 k a0 (a0 == 15)) else (if a0 = 16 then (spec_Arity.j0 k a0 (a0 == 16)) else (spec_Arity.j0 k a0 (a0 == 18))))))
theorem spec_Arity.mono_l : ∀ k, (∀ y0 y1, LeO (spec_Arity.j0 k y0 y1) (spec_Arity.j0 (k + 1) y0 y1)) /\ (∀ y0 y1, LeO (spec_Arity.j1 k y0 y1) (spec_Arity.j1 (k + 1) y0 y1))
 | 0 => ⟨fun _ _ r h => by simp [spec_Arity.j0] at h, fun _ _ r h => by simp [spec_Arity.j1] at h⟩
 | k + 1 => by
  obtain ⟨ih0, ih1⟩ := spec_Arity.mono_l k
  refine ⟨?_, ?_⟩
  ·intro y0 y1
   unfold spec_Arity.j0
   with_reducible repeat' first | exact ih0 _ _ | exact ih1 _ _ | exact lrz _ | exact lnz _ | refine liz ?_ ?_ | refine lbz ?_ fun _ => ?_
  ·intro y0 y1
   unfold spec_Arity.j1
   with_reducible repeat' first | exact ih0 _ _ | exact ih1 _ _ | exact lrz _ | exact lnz _ | refine liz ?_ ?_ | refine lbz ?_ fun _ => ?_
theorem spec_Arity.mono : ∀ a0 k, LeO (spec_Arity.f k a0) (spec_Arity.f (k + 1) a0) := by
 intro a0 k
 obtain ⟨ih0, ih1⟩ := spec_Arity.mono_l k
 unfold spec_Arity.f
 with_reducible repeat' first | exact ih0 _ _ | exact ih1 _ _ | exact lrz _ | exact lnz _ | refine liz ?_ ?_ | refine lbz ?_ fun _ => ?_
set_option maxHeartbeats 8000000 in
set_option maxRecDepth 100000 in
theorem spec_Arity.calls (k : Nat) (a0 : Int) (r : Int) (w : World) (h : spec_Arity.f k a0 = some r) :
  Calls Tryd.prog 80 #[.int .i64 a0] w fun e w' => e = .returned (.int .i64 r) /\ Drawn0 w w' := by
 have H : (if a0 = 3 then (spec_Arity.j0 k a0 (a0 == 3)) else (if a0 = 10 then (spec_Arity.j0 k a0 (a0 == 10)) else (if a0 = 11 then (spec_Arity.j0 k a0 (a0 == 11)) else (if a0 = 15 then (spec_Arity.j0 k a0 (a0 == 15)) else (if a0 = 16 then (spec_Arity.j0 k a0 (a0 == 16)) else (spec_Arity.j0 k a0 (a0 == 18))))))) = some r := h
 clear h
 have HC2 := Aside0.mk H
 clear H
 go_enter Tryd.func80, Tryd.ntmps80
 go_upto_if 4 with (fail)
 go_cut [4] (fun v4 wc => ∃ (kq : Nat) (x4_1 : Bool), v4 = .bool x4_1 /\ Aside0 (spec_Arity.j0 kq a0 x4_1 = some r) /\ Aside0 (kq <= k) /\ Drawn0 w wc)
 case first =>
  have H := HC2.out
  clear HC2
  by_cases c3 : a0 = 3
  ·rw [if_pos c3] at H
   have c3b0 : (a0 == 3) = true := beq_iff_eq.mpr c3
   have c3b1 : (a0 != 3) = false := bne_eq_false_iff_eq.mpr c3
   clear c3
   (first | rw [c3b0] | (simp only [i64_w, i32_w]; rw [c3b0]) | skip)
   have H' := Aside0.mk H
   clear H
   go_wp2
   go_meet
   case rel => exact ⟨_, ((a0 == 3)), ez, H', ⟨by first | omega | exact Nat.le_refl _⟩, dz⟩
  ·rw [if_neg c3] at H
   have c3b0 : (a0 == 3) = false := beq_eq_false_iff_ne.mpr c3
   have c3b1 : (a0 != 3) = true := bne_iff_ne.mpr c3
   (first | rw [c3b0] | (simp only [i64_w, i32_w]; rw [c3b0]) | skip)
   by_cases c4 : a0 = 10
   ·rw [if_pos c4] at H
    have c4b0 : (a0 == 10) = true := beq_iff_eq.mpr c4
    have c4b1 : (a0 != 10) = false := bne_eq_false_iff_eq.mpr c4
    clear c4
    have H' := Aside0.mk H
    clear H
    go_wp2
    go_meet
    case rel => exact ⟨_, ((a0 == 10)), ez, H', ⟨by first | omega | exact Nat.le_refl _⟩, dz⟩
   ·rw [if_neg c4] at H
    have c4b0 : (a0 == 10) = false := beq_eq_false_iff_ne.mpr c4
    have c4b1 : (a0 != 10) = true := bne_iff_ne.mpr c4
    by_cases c5 : a0 = 11
    ·rw [if_pos c5] at H
     have c5b0 : (a0 == 11) = true := beq_iff_eq.mpr c5
     have c5b1 : (a0 != 11) = false := bne_eq_false_iff_eq.mpr c5
     clear c5
     have H' := Aside0.mk H
     clear H
     go_wp2
     go_meet
     case rel => exact ⟨_, ((a0 == 11)), ez, H', ⟨by first | omega | exact Nat.le_refl _⟩, dz⟩
    ·rw [if_neg c5] at H
     have c5b0 : (a0 == 11) = false := beq_eq_false_iff_ne.mpr c5
     have c5b1 : (a0 != 11) = true := bne_iff_ne.mpr c5
     by_cases c6 : a0 = 15
     ·rw [if_pos c6] at H
      have c6b0 : (a0 == 15) = true := beq_iff_eq.mpr c6
      have c6b1 : (a0 != 15) = false := bne_eq_false_iff_eq.mpr c6
      clear c6
      have H' := Aside0.mk H
      clear H
      go_wp2
      go_meet
      case rel => exact ⟨_, ((a0 == 15)), ez, H', ⟨by first | omega | exact Nat.le_refl _⟩, dz⟩
     ·rw [if_neg c6] at H
      have c6b0 : (a0 == 15) = false := beq_eq_false_iff_ne.mpr c6
      have c6b1 : (a0 != 15) = true := bne_iff_ne.mpr c6
      by_cases c7 : a0 = 16
      ·rw [if_pos c7] at H
       have c7b0 : (a0 == 16) = true := beq_iff_eq.mpr c7
       have c7b1 : (a0 != 16) = false := bne_eq_false_iff_eq.mpr c7
       clear c7
       have H' := Aside0.mk H
       clear H
       go_wp2
       go_meet
       case rel => exact ⟨_, ((a0 == 16)), ez, H', ⟨by first | omega | exact Nat.le_refl _⟩, dz⟩
      ·rw [if_neg c7] at H
       have c7b0 : (a0 == 16) = false := beq_eq_false_iff_ne.mpr c7
       have c7b1 : (a0 != 16) = true := bne_iff_ne.mpr c7
       have H' := Aside0.mk H
       clear H
       go_wp2
       go_meet
       case rel => exact ⟨_, ((a0 == 18)), ez, H', ⟨by first | omega | exact Nat.le_refl _⟩, dz⟩
 case rest =>
  clear HC2
  try clear p2
  try clear c3
  try clear c3b0
  try clear c3b1
  try clear c4
  try clear c4b0
  try clear c4b1
  try clear c5
  try clear c5b0
  try clear c5b1
  try clear c6
  try clear c6b0
  try clear c6b1
  try clear c7
  try clear c7b0
  try clear c7b1
  obtain ⟨kq, x4_1, rfl, HA, HJ1, ⟨mc1, rfl⟩⟩ := hcut
  cases kq with
  | zero => exact absurd HA.out (by simp [spec_Arity.j0])
  | succ kj1 =>
   have H := HA.out
   clear HA
   simp only [spec_Arity.j0] at H
   by_cases c8 : x4_1 = true
   ·subst c8
    have H1 := hp H
    clear H
    have H := H1
    clear H1
    obtain rfl := Option.some.inj H
    go_wp2
    go_ret
    exact ⟨e2z, dz⟩
   ·replace c8 := Bool.eq_false_iff.mpr c8
    subst c8
    have H1 := hq H
    clear H
    have H := H1
    clear H1
    have HC9 := Aside0.mk H
    clear H
    go_upto_if 11 with (fail)
    go_cut [11] (fun v11 wc => ∃ (kq : Nat) (x11_8 : Bool), v11 = .bool x11_8 /\ Aside0 (spec_Arity.j1 kq a0 x11_8 = some r) /\ Aside0 (kq <= kj1) /\ Drawn0 w wc)
    case first =>
     have H := HC9.out
     clear HC9
     by_cases c10 : a0 = 4
     ·rw [if_pos c10] at H
      have c10b0 : (a0 == 4) = true := beq_iff_eq.mpr c10
      have c10b1 : (a0 != 4) = false := bne_eq_false_iff_eq.mpr c10
      clear c10
      (first | rw [c10b0] | (simp only [i64_w, i32_w]; rw [c10b0]) | skip)
      have H' := Aside0.mk H
      clear H
      go_wp2
      go_meet
      case rel => exact ⟨_, ((a0 == 4)), ez, H', ⟨by have := HJ1.out; first | omega | exact Nat.le_refl _⟩, dz⟩
     ·rw [if_neg c10] at H
      have c10b0 : (a0 == 4) = false := beq_eq_false_iff_ne.mpr c10
      have c10b1 : (a0 != 4) = true := bne_iff_ne.mpr c10
      (first | rw [c10b0] | (simp only [i64_w, i32_w]; rw [c10b0]) | skip)
      by_cases c11 : a0 = 5
      ·rw [if_pos c11] at H
       have c11b0 : (a0 == 5) = true := beq_iff_eq.mpr c11
       have c11b1 : (a0 != 5) = false := bne_eq_false_iff_eq.mpr c11
       clear c11
       have H' := Aside0.mk H
       clear H
       go_wp2
       go_meet
       case rel => exact ⟨_, ((a0 == 5)), ez, H', ⟨by have := HJ1.out; first | omega | exact Nat.le_refl _⟩, dz⟩
      ·rw [if_neg c11] at H
       have c11b0 : (a0 == 5) = false := beq_eq_false_iff_ne.mpr c11
       have c11b1 : (a0 != 5) = true := bne_iff_ne.mpr c11
       by_cases c12 : a0 = 6
       ·rw [if_pos c12] at H
        have c12b0 : (a0 == 6) = true := beq_iff_eq.mpr c12
        have c12b1 : (a0 != 6) = false := bne_eq_false_iff_eq.mpr c12
        clear c12
        have H' := Aside0.mk H
        clear H
        go_wp2
        go_meet
        case rel => exact ⟨_, ((a0 == 6)), ez, H', ⟨by have := HJ1.out; first | omega | exact Nat.le_refl _⟩, dz⟩
       ·rw [if_neg c12] at H
        have c12b0 : (a0 == 6) = false := beq_eq_false_iff_ne.mpr c12
        have c12b1 : (a0 != 6) = true := bne_iff_ne.mpr c12
        by_cases c13 : a0 = 8
        ·rw [if_pos c13] at H
         have c13b0 : (a0 == 8) = true := beq_iff_eq.mpr c13
         have c13b1 : (a0 != 8) = false := bne_eq_false_iff_eq.mpr c13
         clear c13
         have H' := Aside0.mk H
         clear H
         go_wp2
         go_meet
         case rel => exact ⟨_, ((a0 == 8)), ez, H', ⟨by have := HJ1.out; first | omega | exact Nat.le_refl _⟩, dz⟩
        ·rw [if_neg c13] at H
         have c13b0 : (a0 == 8) = false := beq_eq_false_iff_ne.mpr c13
         have c13b1 : (a0 != 8) = true := bne_iff_ne.mpr c13
         by_cases c14 : a0 = 9
         ·rw [if_pos c14] at H
          have c14b0 : (a0 == 9) = true := beq_iff_eq.mpr c14
          have c14b1 : (a0 != 9) = false := bne_eq_false_iff_eq.mpr c14
          clear c14
          have H' := Aside0.mk H
          clear H
          go_wp2
          go_meet
          case rel => exact ⟨_, ((a0 == 9)), ez, H', ⟨by have := HJ1.out; first | omega | exact Nat.le_refl _⟩, dz⟩
         ·rw [if_neg c14] at H
          have c14b0 : (a0 == 9) = false := beq_eq_false_iff_ne.mpr c14
          have c14b1 : (a0 != 9) = true := bne_iff_ne.mpr c14
          by_cases c15 : a0 = 13
          ·rw [if_pos c15] at H
           have c15b0 : (a0 == 13) = true := beq_iff_eq.mpr c15
           have c15b1 : (a0 != 13) = false := bne_eq_false_iff_eq.mpr c15
           clear c15
           have H' := Aside0.mk H
           clear H
           go_wp2
           go_meet
           case rel => exact ⟨_, ((a0 == 13)), ez, H', ⟨by have := HJ1.out; first | omega | exact Nat.le_refl _⟩, dz⟩
          ·rw [if_neg c15] at H
           have c15b0 : (a0 == 13) = false := beq_eq_false_iff_ne.mpr c15
           have c15b1 : (a0 != 13) = true := bne_iff_ne.mpr c15
           by_cases c16 : a0 = 17
           ·rw [if_pos c16] at H
            have c16b0 : (a0 == 17) = true := beq_iff_eq.mpr c16
            have c16b1 : (a0 != 17) = false := bne_eq_false_iff_eq.mpr c16
            clear c16
            have H' := Aside0.mk H
            clear H
            go_wp2
            go_meet
            case rel => exact ⟨_, ((a0 == 17)), ez, H', ⟨by have := HJ1.out; first | omega | exact Nat.le_refl _⟩, dz⟩
           ·rw [if_neg c16] at H
            have c16b0 : (a0 == 17) = false := beq_eq_false_iff_ne.mpr c16
            have c16b1 : (a0 != 17) = true := bne_iff_ne.mpr c16
            have H' := Aside0.mk H
            clear H
            go_wp2
            go_meet
            case rel => exact ⟨_, ((a0 == 19)), ez, H', ⟨by have := HJ1.out; first | omega | exact Nat.le_refl _⟩, dz⟩
    case rest =>
     clear HC9
     try clear c1
     try clear p2
     try clear c3
     try clear c3b0
     try clear c3b1
     try clear c4
     try clear c4b0
     try clear c4b1
     try clear c5
     try clear c5b0
     try clear c5b1
     try clear c6
     try clear c6b0
     try clear c6b1
     try clear c7
     try clear c7b0
     try clear c7b1
     try clear c8
     try clear c10
     try clear c10b0
     try clear c10b1
     try clear c11
     try clear c11b0
     try clear c11b1
     try clear c12
     try clear c12b0
     try clear c12b1
     try clear c13
     try clear c13b0
     try clear c13b1
     try clear c14
     try clear c14b0
     try clear c14b1
     try clear c15
     try clear c15b0
     try clear c15b1
     try clear c16
     try clear c16b0
     try clear c16b1
     try clear p2
     obtain ⟨kq, x11_8, rfl, HA, HJ8, ⟨mc8, rfl⟩⟩ := hcut
     cases kq with
     | zero => exact absurd HA.out (by simp [spec_Arity.j1])
     | succ kj8 =>
      have H := HA.out
      clear HA
      simp only [spec_Arity.j1] at H
      by_cases c17 : x11_8 = true
      ·subst c17
       have H1 := hp H
       clear H
       have H := H1
       clear H1
       obtain rfl := Option.some.inj H
       go_wp2
       go_ret
       exact ⟨e2z, dz⟩
      ·replace c17 := Bool.eq_false_iff.mpr c17
       subst c17
       have H1 := hq H
       clear H
       have H := H1
       clear H1
       by_cases c18 : a0 = 7
       ·rw [if_pos c18] at H
        have c18b0 : (a0 == 7) = true := beq_iff_eq.mpr c18
        have c18b1 : (a0 != 7) = false := bne_eq_false_iff_eq.mpr c18
        clear c18
        obtain rfl := Option.some.inj H
        go_wp2
        go_ret
        exact ⟨e2z, dz⟩
       ·rw [if_neg c18] at H
        have c18b0 : (a0 == 7) = false := beq_eq_false_iff_ne.mpr c18
        have c18b1 : (a0 != 7) = true := bne_iff_ne.mpr c18
        by_cases c19 : a0 = 14
        ·rw [if_pos c19] at H
         have c19b0 : (a0 == 14) = true := beq_iff_eq.mpr c19
         have c19b1 : (a0 != 14) = false := bne_eq_false_iff_eq.mpr c19
         clear c19
         obtain rfl := Option.some.inj H
         go_wp2
         go_ret
         exact ⟨e2z, dz⟩
        ·rw [if_neg c19] at H
         have c19b0 : (a0 == 14) = false := beq_eq_false_iff_ne.mpr c19
         have c19b1 : (a0 != 14) = true := bne_iff_ne.mpr c19
         obtain rfl := Option.some.inj H
         go_wp2
         go_ret
         exact ⟨e2z, dz⟩
def spec_Kids.f (k : Nat) (a0_0 : Int) (a0_1 : Int) (a0_2 : Int) (a0_3 : Int) (a0_4 : Int) (a0_5 : ByteArray) (a0_6 : ByteArray) : Option (List Int) := (some (([a0_1, a0_2, a0_3] : List Int) : List Int)).bind fun y125 => ((spec_Arity.f k a0_0).bind fun t128 => (if 0 <= t128 then (if t128 <= (y125.length : Int) then (some (y125.take (t128 : Int).toNat)) else (none)) else (none)))
theorem spec_Kids.mono : ∀ a0 a1 a2 a3 a4 a5 a6 k, LeO (spec_Kids.f k a0 a1 a2 a3 a4 a5 a6) (spec_Kids.f (k + 1) a0 a1 a2 a3 a4 a5 a6) := by
 intro a0 a1 a2 a3 a4 a5 a6 k
 unfold spec_Kids.f
 with_reducible repeat' first | exact spec_Arity.mono _ _ | exact lrz _ | exact lnz _ | refine liz ?_ ?_ | refine lbz ?_ fun _ => ?_
def spec_Kids.T1 : Bool × List (List Nat × List Nat) := (true, [([], []), ([0], [0]), ([], []), ([2], [2]), ([], []), ([4], [4]), ([1, 3, 5], [1, 3, 5]), ([], []), ([7], [7]), ([8], [8]), ([6, 9], [6, 9]), ([10, 9, 0, 1, 2, 3, 4, 5, 6, 7, 8, 9, 10], [10])])
def spec_Kids.B1 : List Nat := [0, 1, 0, 4, 0, 16, 63, 0, 128, 384, 1023, 2047]
theorem spec_Kids.tab1 : rtab .any (opsOf Tryd.f67 1) = spec_Kids.T1 := by kernel_rfl
theorem spec_Kids.bits1 : waitsOk spec_Kids.T1.2 spec_Kids.B1 = true := by kernel_rfl
set_option maxHeartbeats 8000000 in
set_option maxRecDepth 100000 in
theorem spec_Kids.calls (k : Nat) (a0_0 : Int) (a0_1 : Int) (a0_2 : Int) (a0_3 : Int) (a0_4 : Int) (a0_5 : ByteArray) (a0_6 : ByteArray) (r : List Int) (w : World) (h : spec_Kids.f k a0_0 a0_1 a0_2 a0_3 a0_4 a0_5 a0_6 = some r) :
  Calls Tryd.prog 67 #[.agg #[.int .i64 a0_0, .int .i64 a0_1, .int .i64 a0_2, .int .i64 a0_3, .int .i64 a0_4, .string a0_5, .string a0_6]] w fun e w' => ∃ v0_ : Value, e = .returned (v0_) /\ Kd.R (Kd.int .i64) 3 w' w.heap.size (fun _ => True) v0_ r /\ Below w.heap.size w w' := by
 have hu43 := Tryd.underlying43
 have HB := Aside0.mk (Below.refl w.heap.size w)
 have H : ((some (([a0_1, a0_2, a0_3] : List Int) : List Int)).bind fun y125 => ((spec_Arity.f k a0_0).bind fun t128 => (if 0 <= t128 then (if t128 <= (y125.length : Int) then (some (y125.take (t128 : Int).toNat)) else (none)) else (none)))) = some r := h
 clear h
 obtain ⟨y125, hy125⟩ : ∃ y_ : List Int, y_ = (([a0_1, a0_2, a0_3] : List Int)) := ⟨_, rfl⟩
 replace H : ((spec_Arity.f k a0_0).bind fun t128 => (if 0 <= t128 then (if t128 <= (y125.length : Int) then (some (y125.take (t128 : Int).toNat)) else (none)) else (none))) = some r := yz hy125 H
 have Ny125 := Aside0.mk hy125
 clear hy125
 replace H := bi H
 obtain ⟨t128, A20, H⟩ := H
 try dsimp only at H
 have A2 := Aside0.mk A20
 clear A20
 replace H := iz H
 obtain ⟨c3, H⟩ := H
 have c3b0 := eq_true c3
 have c3b1 : decide (0 <= t128) = true := decide_eq_true c3
 clear c3
 replace H := iz H
 obtain ⟨c4, H⟩ := H
 have c4b0 := eq_true c4
 have c4b1 : decide (t128 <= (y125.length : Int)) = true := decide_eq_true c4
 clear c4
 obtain ⟨y129, hy129⟩ : ∃ y_ : List Int, y_ = (y125.take (t128 : Int).toNat) := ⟨_, rfl⟩
 replace H : (some y129) = some r := yz hy129 H
 have Ny129 := Aside0.mk hy129
 clear hy129
 obtain rfl := Option.some.inj H
 go_enter Tryd.func67, Tryd.ntmps67
 try go_wp2_with (first | ((with_reducible refine gate_dst (N := 1) rfl ?_); refine box_event ?hg (N := 1) ?hd (cs := #[.int .i64 a0_0, .int .i64 a0_1, .int .i64 a0_2, .int .i64 a0_3, .int .i64 a0_4, .string a0_5, .string a0_6]) (t := 43) ?hr ?_; (case hd => rfl); (case hg => rfl); (case hr => exact vz); intro gb124 hg w5 hbox hb; have BK124 := Aside0.mk (hbox); have GW124 := Aside0.mk ((by rw [hg]; exact (below_size (bz0 HB.out)) : w.heap.size <= gb124)); have GE124 := Aside0.mk ((by rw [hg]; exact (below_size (bz0 HB.out)) : w.heap.size <= gb124)); replace HB := Aside0.mk (below_step (bz0 HB.out) hb); clear hb hbox hg))
 have n0_ := Aside0.mk (blk_drew BK124.out)
 have n1_ := Aside0.mk (below_drew1 HB.out)
 clear BK124
 clear HB
 have BK124 := n0_
 have HB := n1_
 clear n0_ n1_
 refine start_ (n := 12) (S := fun w' => w'.cell? ⟨gb124, 0, none⟩ = some (.int .i64 a0_0) /\ w'.cell? ⟨gb124, 1, none⟩ = some (.int .i64 a0_1) /\ w'.cell? ⟨gb124, 2, none⟩ = some (.int .i64 a0_2) /\ w'.cell? ⟨gb124, 3, none⟩ = some (.int .i64 a0_3) /\ w'.cell? ⟨gb124, 4, none⟩ = some (.int .i64 a0_4) /\ w'.cell? ⟨gb124, 5, none⟩ = some (.string a0_5) /\ w'.cell? ⟨gb124, 6, none⟩ = some (.string a0_6)) (ds := []) #[ff, ff, ff, ff, ff, ff, ff, ff, ff, ff, ff, ff] (by kernel_rfl) rfl rfl ⟨(blk_cell BK124.out 0).trans rfl, (blk_cell BK124.out 1).trans rfl, (blk_cell BK124.out 2).trans rfl, (blk_cell BK124.out 3).trans rfl, (blk_cell BK124.out 4).trans rfl, (blk_cell BK124.out 5).trans rfl, (blk_cell BK124.out 6).trans rfl⟩ (fun hHeld => ?_); refine with_tabW spec_Kids.tab1 spec_Kids.bits1 (fun HT_ HW_ => ?_)
 generalize w5.drew = w6 at BK124 HB hHeld ⊢
 refine pure_ (i := 0) (N := some 3) (v := ?_) (a' := ?_) #[tt, ff, ff, ff, ff, ff, ff, ff, ff, ff, ff, ff] rfl rfl (any_of HT_.out (by kernel_rfl)) (fun _ _ _ h => h) (Or.inl ⟨by rfl, ?_⟩) ?_ ?_
 rotate_left
 ·intro w'
  go_simp
  with_reducible rfl
 rotate_left
 ·simp only [Act.put, sz1, sz2, sz3, i64_w, i32_w]
  rfl
 refine pure_ (i := 2) (N := some 5) (v := ?_) (a' := ?_) #[tt, ff, tt, ff, ff, ff, ff, ff, ff, ff, ff, ff] rfl rfl (any_of HT_.out (by kernel_rfl)) (fun _ _ _ h => h) (Or.inl ⟨by rfl, ?_⟩) ?_ ?_
 rotate_left
 ·intro w'
  go_simp
  with_reducible rfl
 rotate_left
 ·simp only [Act.put, sz1, sz2, sz3, i64_w, i32_w]
  rfl
 refine pure_ (i := 4) (N := some 7) (v := ?_) (a' := ?_) #[tt, ff, tt, ff, tt, ff, ff, ff, ff, ff, ff, ff] rfl rfl (any_of HT_.out (by kernel_rfl)) (fun _ _ _ h => h) (Or.inl ⟨by rfl, ?_⟩) ?_ ?_
 rotate_left
 ·intro w'
  go_simp
  with_reducible rfl
 rotate_left
 ·simp only [Act.put, sz1, sz2, sz3, i64_w, i32_w]
  rfl
 refine pure_ (i := 7) (N := some 10) (v := ?_) (a' := ?_) #[tt, ff, tt, ff, tt, ff, ff, tt, ff, ff, ff, ff] rfl rfl (any_of HT_.out (by kernel_rfl)) (fun _ _ _ h => h) (Or.inl ⟨by rfl, ?_⟩) ?_ ?_
 rotate_left
 ·intro w'
  go_simp
  with_reducible rfl
 rotate_left
 ·simp only [Act.put, sz1, sz2, sz3, i64_w, i32_w]
  rfl
 refine take_ (i := 1) (N := some 4) (v := ?_) (a' := ?_) #[tt, tt, tt, ff, tt, ff, ff, tt, ff, ff, ff, ff] rfl rfl (take_ofW HT_.out HW_.out (by kernel_rfl)) (fun _ _ _ h => h) (Or.inl ⟨by rfl, ?_⟩) hHeld ?_ ?_
 rotate_left
 ·rintro w' ⟨s0, s1, s2, s3, s4, s5, s6⟩
  go_simp
  with_reducible rfl
 rotate_left
 ·simp only [Act.put, sz1, sz2, sz3, i64_w, i32_w]
  rfl
 refine take_ (i := 3) (N := some 6) (v := ?_) (a' := ?_) #[tt, tt, tt, tt, tt, ff, ff, tt, ff, ff, ff, ff] rfl rfl (take_ofW HT_.out HW_.out (by kernel_rfl)) (fun _ _ _ h => h) (Or.inl ⟨by rfl, ?_⟩) hHeld ?_ ?_
 rotate_left
 ·rintro w' ⟨s0, s1, s2, s3, s4, s5, s6⟩
  go_simp
  with_reducible rfl
 rotate_left
 ·simp only [Act.put, sz1, sz2, sz3, i64_w, i32_w]
  rfl
 refine take_ (i := 5) (N := some 8) (v := ?_) (a' := ?_) #[tt, tt, tt, tt, tt, tt, ff, tt, ff, ff, ff, ff] rfl rfl (take_ofW HT_.out HW_.out (by kernel_rfl)) (fun _ _ _ h => h) (Or.inl ⟨by rfl, ?_⟩) hHeld ?_ ?_
 rotate_left
 ·rintro w' ⟨s0, s1, s2, s3, s4, s5, s6⟩
  go_simp
  with_reducible rfl
 rotate_left
 ·simp only [Act.put, sz1, sz2, sz3, i64_w, i32_w]
  rfl
 refine take_ (i := 8) (N := some 11) (v := ?_) (a' := ?_) #[tt, tt, tt, tt, tt, tt, ff, tt, tt, ff, ff, ff] rfl rfl (take_ofW HT_.out HW_.out (by kernel_rfl)) (fun _ _ _ h => h) (Or.inl ⟨by rfl, ?_⟩) hHeld ?_ ?_
 rotate_left
 ·rintro w' ⟨s0, s1, s2, s3, s4, s5, s6⟩
  go_simp
  with_reducible rfl
 rotate_left
 ·simp only [Act.put, sz1, sz2, sz3, i64_w, i32_w]
  rfl
 refine join_ (σ := Value) 2 #[true, true, true, true, true, true, true, true, true, true, false, false] (fun s_ => [(9, s_), (12, .int .i64 t128)]) (fun s_ w' => (w'.cell? ⟨gb124, 0, none⟩ = some (.int .i64 a0_0) /\ w'.cell? ⟨gb124, 1, none⟩ = some (.int .i64 a0_1) /\ w'.cell? ⟨gb124, 2, none⟩ = some (.int .i64 a0_2) /\ w'.cell? ⟨gb124, 3, none⟩ = some (.int .i64 a0_3) /\ w'.cell? ⟨gb124, 4, none⟩ = some (.int .i64 a0_4) /\ w'.cell? ⟨gb124, 5, none⟩ = some (.string a0_5) /\ w'.cell? ⟨gb124, 6, none⟩ = some (.string a0_6)) /\ (Kd.R (Kd.int .i64) 3 w' w.heap.size (fun _ => True) s_ y125) /\ (w'.heap[gb124]? = some (.cells #[.int .i64 a0_0, .int .i64 a0_1, .int .i64 a0_2, .int .i64 a0_3, .int .i64 a0_4, .string a0_5, .string a0_6] 43 (0, 0))) /\ (Below w.heap.size w w')) ?_ ?_
 rotate_left
 ·intro hCont
  refine two_ (i := 6) (j := 9) (Ni := some 9) (Nj := some 12) #[true, true, true, true, true, true, true, true, true, false, false, false] #[true, true, true, true, true, true, false, true, true, true, false, false] rfl rfl rfl rfl (two_of HT_.out (by kernel_rfl)) (by decide) (by decide) (fun K hK => ?_) (fun K hK => ?_)
  ·skip
   refine Kd.R_lit_step (Kd.int .i64) _ 3 ?hg (N := 9) ?hd (xs := ([a0_1, a0_2, a0_3] : List Int)) (inner := [.int .i64 a0_1, .int .i64 a0_2, .int .i64 a0_3]) (ok := fun _ => True) (okp := fun _ => True) ?hr ?hp (fun _ hk => hk) trivial (Below.refl _ _) (Nat.le_refl _) (by simp) ?_; (case hd => rfl); (case hg => rfl); (case hr => exact vz); (case hp => exact (Reps.one (show Kd.M (Kd.int .i64) _ _ _ a0_1 [.int .i64 a0_1] from rfl) (Reps.one (show Kd.M (Kd.int .i64) _ _ _ a0_2 [.int .i64 a0_2] from rfl) (Reps.one (show Kd.M (Kd.int .i64) _ _ _ a0_3 [.int .i64 a0_3] from rfl) (Reps.none _ _)))))
   intro v126 w7 ho8 hb hg_ hnew_
   clear hg_ hnew_
   (first | rw [<- Ny125.out] at ho8 | (simp only [Int.reduceToNat] at ho8; rw [<- Ny125.out] at ho8))
   have n0_ := Aside0.mk (Kd.R_lower ho8 (below_size (bz1 HB.out GE124.out)))
   have n1_ := Aside0.mk (blk_below (kz BK124.out) hb)
   have n2_ := Aside0.mk (below_step (bz1 HB.out GE124.out) hb)
   clear BK124
   clear HB
   have HO127 := n0_
   have BK124 := n1_
   have HB := n2_
   clear n0_ n1_ n2_
   clear hb ho8
   refine hK.out _ _ ⟨(blk_cell BK124.out 0).trans rfl, (blk_cell BK124.out 1).trans rfl, (blk_cell BK124.out 2).trans rfl, (blk_cell BK124.out 3).trans rfl, (blk_cell BK124.out 4).trans rfl, (blk_cell BK124.out 5).trans rfl, (blk_cell BK124.out 6).trans rfl⟩ (fun hHeld => ?_)
   clear hK K
   refine norm_ (a' := ?_) ?_ ?_
   rotate_left
   ·show Act.put _ (some 9) _ = _
    simp only [Act.put, sz1, sz2, sz3, i64_w, i32_w]
    rfl
   refine one_ (i := 9) (N := some 12) #[tt, tt, tt, tt, tt, tt, tt, tt, tt, tt, ff, ff] rfl rfl (one_of HT_.out (by kernel_rfl)) (by decide) (fun K hK => ?_)
   refine goes_ Tryd.func80 (by kernel_rfl) rfl #[.int .i64 a0_0] (by rfl) rfl rfl lz ?_
   with_reducible refine (spec_Arity.calls k a0_0 t128 _ A2.out).mono ?_
   rintro e w' ⟨rfl, ⟨nd, rfl⟩⟩
   refine ⟨_, rfl, ?_⟩
   refine hK.out _ _ ⟨(blk_cell BK124.out 0).trans rfl, (blk_cell BK124.out 1).trans rfl, (blk_cell BK124.out 2).trans rfl, (blk_cell BK124.out 3).trans rfl, (blk_cell BK124.out 4).trans rfl, (blk_cell BK124.out 5).trans rfl, (blk_cell BK124.out 6).trans rfl⟩ (fun hHeld => ?_)
   clear hK K
   refine norm_ (a' := ?_) ?_ ?_
   rotate_left
   ·show Act.put _ (some 12) _ = _
    simp only [Act.put, sz1, sz2, sz3, i64_w, i32_w]
    rfl
   exact norm_ (by simp only [putAll, Act.put, List.setIfInBounds_toArray, List.set_cons_zero, List.set_cons_succ]) (hCont (v126) _ ⟨hHeld, (rz HO127.out), (kz BK124.out), (bz1 HB.out GE124.out)⟩)
  ·skip
   refine goes_ Tryd.func80 (by kernel_rfl) rfl #[.int .i64 a0_0] (by rfl) rfl rfl lz ?_
   with_reducible refine (spec_Arity.calls k a0_0 t128 _ A2.out).mono ?_
   rintro e w' ⟨rfl, ⟨nd, rfl⟩⟩
   refine ⟨_, rfl, ?_⟩
   refine hK.out _ _ ⟨(blk_cell BK124.out 0).trans rfl, (blk_cell BK124.out 1).trans rfl, (blk_cell BK124.out 2).trans rfl, (blk_cell BK124.out 3).trans rfl, (blk_cell BK124.out 4).trans rfl, (blk_cell BK124.out 5).trans rfl, (blk_cell BK124.out 6).trans rfl⟩ (fun hHeld => ?_)
   clear hK K
   refine norm_ (a' := ?_) ?_ ?_
   rotate_left
   ·show Act.put _ (some 12) _ = _
    simp only [Act.put, sz1, sz2, sz3, i64_w, i32_w]
    rfl
   refine one_ (i := 6) (N := some 9) #[tt, tt, tt, tt, tt, tt, tt, tt, tt, tt, ff, ff] rfl rfl (one_of HT_.out (by kernel_rfl)) (by decide) (fun K hK => ?_)
   refine Kd.R_lit_step (Kd.int .i64) _ 3 ?hg (N := 9) ?hd (xs := ([a0_1, a0_2, a0_3] : List Int)) (inner := [.int .i64 a0_1, .int .i64 a0_2, .int .i64 a0_3]) (ok := fun _ => True) (okp := fun _ => True) ?hr ?hp (fun _ hk => hk) trivial (Below.refl _ _) (Nat.le_refl _) (by simp) ?_; (case hd => rfl); (case hg => rfl); (case hr => exact vz); (case hp => exact (Reps.one (show Kd.M (Kd.int .i64) _ _ _ a0_1 [.int .i64 a0_1] from rfl) (Reps.one (show Kd.M (Kd.int .i64) _ _ _ a0_2 [.int .i64 a0_2] from rfl) (Reps.one (show Kd.M (Kd.int .i64) _ _ _ a0_3 [.int .i64 a0_3] from rfl) (Reps.none _ _)))))
   intro v126 w7 ho8 hb hg_ hnew_
   clear hg_ hnew_
   (first | rw [<- Ny125.out] at ho8 | (simp only [Int.reduceToNat] at ho8; rw [<- Ny125.out] at ho8))
   have n0_ := Aside0.mk (Kd.R_lower ho8 (below_size (bz1 HB.out GE124.out)))
   have n1_ := Aside0.mk (blk_below (kz BK124.out) hb)
   have n2_ := Aside0.mk (below_step (bz1 HB.out GE124.out) hb)
   clear BK124
   clear HB
   have HO127 := n0_
   have BK124 := n1_
   have HB := n2_
   clear n0_ n1_ n2_
   clear hb ho8
   refine hK.out _ _ ⟨(blk_cell BK124.out 0).trans rfl, (blk_cell BK124.out 1).trans rfl, (blk_cell BK124.out 2).trans rfl, (blk_cell BK124.out 3).trans rfl, (blk_cell BK124.out 4).trans rfl, (blk_cell BK124.out 5).trans rfl, (blk_cell BK124.out 6).trans rfl⟩ (fun hHeld => ?_)
   clear hK K
   refine norm_ (a' := ?_) ?_ ?_
   rotate_left
   ·show Act.put _ (some 9) _ = _
    simp only [Act.put, sz1, sz2, sz3, i64_w, i32_w]
    rfl
   exact norm_ (by simp only [putAll, Act.put, List.setIfInBounds_toArray, List.set_cons_zero, List.set_cons_succ]) (hCont (v126) _ ⟨hHeld, (rz HO127.out), (kz BK124.out), (bz1 HB.out GE124.out)⟩)
 rintro v126 w9 ⟨hS_, h0_, h1_, h2_⟩
 have n0_ : Aside0 (Kd.R (Kd.int .i64) 3 w9 w.heap.size (fun _ => True) v126 y125) := ⟨h0_⟩
 have n1_ : Aside0 (w9.heap[gb124]? = some (.cells #[.int .i64 a0_0, .int .i64 a0_1, .int .i64 a0_2, .int .i64 a0_3, .int .i64 a0_4, .string a0_5, .string a0_6] 43 (0, 0))) := ⟨h1_⟩
 have n2_ : Aside0 (Below w.heap.size w w9) := ⟨h2_⟩
 clear BK124
 clear HB
 clear h0_ h1_ h2_
 have HO127 := n0_
 have BK124 := n1_
 have HB := n2_
 clear n0_ n1_ n2_
 have hHeld : w9.cell? ⟨gb124, 0, none⟩ = some (.int .i64 a0_0) /\ w9.cell? ⟨gb124, 1, none⟩ = some (.int .i64 a0_1) /\ w9.cell? ⟨gb124, 2, none⟩ = some (.int .i64 a0_2) /\ w9.cell? ⟨gb124, 3, none⟩ = some (.int .i64 a0_3) /\ w9.cell? ⟨gb124, 4, none⟩ = some (.int .i64 a0_4) /\ w9.cell? ⟨gb124, 5, none⟩ = some (.string a0_5) /\ w9.cell? ⟨gb124, 6, none⟩ = some (.string a0_6) := hS_
 obtain ⟨Ao10, co10, eo10⟩ := Kd.R_slice HO127.out
 (first | subst eo10 | (injection eo10 with f1_ f2_ f3_; have f4_ := f1_.symm; have f5_ := f3_.symm; clear f1_ f2_ f3_; subst f4_; subst f5_))
 have q11 : (t128 : Int) <= ((y125.length : Int) : Int) := oz
 obtain ⟨i011, hi011, _, hsz11, _⟩ := info_parts info3
 have hcut11 := cut_to (P := Tryd.prog) 47 3 .i64 Tryd.underlying47 hi011 Ao10 y125.length co10 t128 (of_decide_eq_true az) q11 (Kd.R_reads' HO127.out).2.1
 have hr11 := Kd.R_take (m := (t128 : Int).toNat) HO127.out (by omega)
 have hy11 : y129.length = (t128 : Int).toNat := (by rw [Ny129.out, List.length_take]; omega)
 rw [<- Ny129.out] at hr11
 rw [<- hy11] at hr11 hcut11
 clear hy11 hi011 hsz11 HO127
 have HO131 := Aside0.mk hr11
 clear hr11
 replace q11 := eq_true q11
 refine norm_ (a' := ?_) ?_ ?_
 rotate_left
 ·simp only [putAll, Act.put, List.setIfInBounds_toArray, List.set_cons_zero, List.set_cons_succ]
  rfl
 refine pure_ (i := 10) (N := some 13) (v := ?_) (a' := ?_) #[tt, tt, tt, tt, tt, tt, tt, tt, tt, tt, tt, ff] rfl rfl (any_of HT_.out (by kernel_rfl)) (fun _ _ _ h => h) (Or.inl ⟨by rfl, ?_⟩) ?_ ?_
 rotate_left
 ·intro w'
  go_simp
  with_reducible rfl
 rotate_left
 ·simp only [Act.put, sz1, sz2, sz3, i64_w, i32_w]
  rfl
 refine pure_ (i := 11) (N := some 2) (v := ?_) (a' := ?_) #[tt, tt, tt, tt, tt, tt, tt, tt, tt, tt, tt, tt] rfl rfl (any_of HT_.out (by kernel_rfl)) (fun _ _ _ h => h) (Or.inl ⟨by rfl, ?_⟩) ?_ ?_
 rotate_left
 ·intro w'
  go_simp
  with_reducible rfl
 rotate_left
 ·simp only [Act.put, sz1, sz2, sz3, i64_w, i32_w]
  rfl
 refine done_ (done_of HT_.out (by kernel_rfl)) ?_
 try go_wp2
 go_ret
 exact ⟨_, gz, by refine rq ?_; exact HO131.out, (bz1 HB.out GE124.out)⟩
def spec_l3Names.j0 : Nat -> Int -> Bool -> Option (Int)
 | 0, _, _ => none
 | k + 1, x3, x4 => if x4 = true then (some 1) else (if x3 = 6 then (some 2) else (if x3 = 14 then (some 2) else (some 0)))
def spec_l3Names.f (k : Nat) (a0 : Int) : Option (Int) := if a0 = 1 then (spec_l3Names.j0 k a0 (a0 == 1)) else (if a0 = 3 then (spec_l3Names.j0 k a0 (a0 == 3)) else (if a0 = 5 then (spec_l3Names.j0 k a0 (a0 == 5)) else (spec_l3Names.j0 k a0 (a0 == 19))))
theorem spec_l3Names.mono_l : ∀ k, (∀ y0 y1, LeO (spec_l3Names.j0 k y0 y1) (spec_l3Names.j0 (k + 1) y0 y1))
 | 0 => fun _ _ r h => by simp [spec_l3Names.j0] at h
 | k + 1 => by
  have ih0 := spec_l3Names.mono_l k
  ·intro y0 y1
   unfold spec_l3Names.j0
   with_reducible repeat' first | exact ih0 _ _ | exact lrz _ | exact lnz _ | refine liz ?_ ?_ | refine lbz ?_ fun _ => ?_
theorem spec_l3Names.mono : ∀ a0 k, LeO (spec_l3Names.f k a0) (spec_l3Names.f (k + 1) a0) := by
 intro a0 k
 have ih0 := spec_l3Names.mono_l k
 unfold spec_l3Names.f
 with_reducible repeat' first | exact ih0 _ _ | exact lrz _ | exact lnz _ | refine liz ?_ ?_ | refine lbz ?_ fun _ => ?_
set_option maxHeartbeats 8000000 in
set_option maxRecDepth 100000 in
theorem spec_l3Names.calls (k : Nat) (a0 : Int) (r : Int) (w : World) (h : spec_l3Names.f k a0 = some r) :
  Calls Tryd.prog 91 #[.int .i64 a0] w fun e w' => e = .returned (.int .i64 r) /\ Drawn0 w w' := by
 have H : (if a0 = 1 then (spec_l3Names.j0 k a0 (a0 == 1)) else (if a0 = 3 then (spec_l3Names.j0 k a0 (a0 == 3)) else (if a0 = 5 then (spec_l3Names.j0 k a0 (a0 == 5)) else (spec_l3Names.j0 k a0 (a0 == 19))))) = some r := h
 clear h
 have HC2 := Aside0.mk H
 clear H
 go_enter Tryd.func91, Tryd.ntmps91
 go_upto_if 4 with (fail)
 go_cut [4] (fun v4 wc => ∃ (kq : Nat) (x4_1 : Bool), v4 = .bool x4_1 /\ Aside0 (spec_l3Names.j0 kq a0 x4_1 = some r) /\ Aside0 (kq <= k) /\ Drawn0 w wc)
 case first =>
  have H := HC2.out
  clear HC2
  by_cases c3 : a0 = 1
  ·rw [if_pos c3] at H
   have c3b0 : (a0 == 1) = true := beq_iff_eq.mpr c3
   have c3b1 : (a0 != 1) = false := bne_eq_false_iff_eq.mpr c3
   clear c3
   (first | rw [c3b0] | (simp only [i64_w, i32_w]; rw [c3b0]) | skip)
   have H' := Aside0.mk H
   clear H
   go_wp2
   go_meet
   case rel => exact ⟨_, ((a0 == 1)), ez, H', ⟨by first | omega | exact Nat.le_refl _⟩, dz⟩
  ·rw [if_neg c3] at H
   have c3b0 : (a0 == 1) = false := beq_eq_false_iff_ne.mpr c3
   have c3b1 : (a0 != 1) = true := bne_iff_ne.mpr c3
   (first | rw [c3b0] | (simp only [i64_w, i32_w]; rw [c3b0]) | skip)
   by_cases c4 : a0 = 3
   ·rw [if_pos c4] at H
    have c4b0 : (a0 == 3) = true := beq_iff_eq.mpr c4
    have c4b1 : (a0 != 3) = false := bne_eq_false_iff_eq.mpr c4
    clear c4
    have H' := Aside0.mk H
    clear H
    go_wp2
    go_meet
    case rel => exact ⟨_, ((a0 == 3)), ez, H', ⟨by first | omega | exact Nat.le_refl _⟩, dz⟩
   ·rw [if_neg c4] at H
    have c4b0 : (a0 == 3) = false := beq_eq_false_iff_ne.mpr c4
    have c4b1 : (a0 != 3) = true := bne_iff_ne.mpr c4
    by_cases c5 : a0 = 5
    ·rw [if_pos c5] at H
     have c5b0 : (a0 == 5) = true := beq_iff_eq.mpr c5
     have c5b1 : (a0 != 5) = false := bne_eq_false_iff_eq.mpr c5
     clear c5
     have H' := Aside0.mk H
     clear H
     go_wp2
     go_meet
     case rel => exact ⟨_, ((a0 == 5)), ez, H', ⟨by first | omega | exact Nat.le_refl _⟩, dz⟩
    ·rw [if_neg c5] at H
     have c5b0 : (a0 == 5) = false := beq_eq_false_iff_ne.mpr c5
     have c5b1 : (a0 != 5) = true := bne_iff_ne.mpr c5
     have H' := Aside0.mk H
     clear H
     go_wp2
     go_meet
     case rel => exact ⟨_, ((a0 == 19)), ez, H', ⟨by first | omega | exact Nat.le_refl _⟩, dz⟩
 case rest =>
  clear HC2
  try clear p2
  try clear c3
  try clear c3b0
  try clear c3b1
  try clear c4
  try clear c4b0
  try clear c4b1
  try clear c5
  try clear c5b0
  try clear c5b1
  obtain ⟨kq, x4_1, rfl, HA, HJ1, ⟨mc1, rfl⟩⟩ := hcut
  cases kq with
  | zero => exact absurd HA.out (by simp [spec_l3Names.j0])
  | succ kj1 =>
   have H := HA.out
   clear HA
   simp only [spec_l3Names.j0] at H
   by_cases c6 : x4_1 = true
   ·subst c6
    have H1 := hp H
    clear H
    have H := H1
    clear H1
    obtain rfl := Option.some.inj H
    go_wp2
    go_ret
    exact ⟨e2z, dz⟩
   ·replace c6 := Bool.eq_false_iff.mpr c6
    subst c6
    have H1 := hq H
    clear H
    have H := H1
    clear H1
    by_cases c7 : a0 = 6
    ·rw [if_pos c7] at H
     have c7b0 : (a0 == 6) = true := beq_iff_eq.mpr c7
     have c7b1 : (a0 != 6) = false := bne_eq_false_iff_eq.mpr c7
     clear c7
     obtain rfl := Option.some.inj H
     go_wp2
     go_ret
     exact ⟨e2z, dz⟩
    ·rw [if_neg c7] at H
     have c7b0 : (a0 == 6) = false := beq_eq_false_iff_ne.mpr c7
     have c7b1 : (a0 != 6) = true := bne_iff_ne.mpr c7
     by_cases c8 : a0 = 14
     ·rw [if_pos c8] at H
      have c8b0 : (a0 == 14) = true := beq_iff_eq.mpr c8
      have c8b1 : (a0 != 14) = false := bne_eq_false_iff_eq.mpr c8
      clear c8
      obtain rfl := Option.some.inj H
      go_wp2
      go_ret
      exact ⟨e2z, dz⟩
     ·rw [if_neg c8] at H
      have c8b0 : (a0 == 14) = false := beq_eq_false_iff_ne.mpr c8
      have c8b1 : (a0 != 14) = true := bne_iff_ne.mpr c8
      obtain rfl := Option.some.inj H
      go_wp2
      go_ret
      exact ⟨e2z, dz⟩
def spec_l2Letter.f (a0 : Int) : Option (Bool) := if a0 ≥ 97 then (some (decide (a0 <= 122))) else (some false)
set_option maxHeartbeats 8000000 in
set_option maxRecDepth 100000 in
theorem spec_l2Letter.calls (a0 : Int) (r : Bool) (w : World) (h : spec_l2Letter.f a0 = some r) :
  Calls Tryd.prog 121 #[.int .u8 a0] w fun e w' => e = .returned (.bool r) /\ Drawn0 w w' := by
 have H : (if a0 ≥ 97 then (some (decide (a0 <= 122))) else (some false)) = some r := h
 clear h
 by_cases c2 : a0 ≥ 97
 ·rw [if_pos c2] at H
  have c2b0 : decide (97 <= a0) = true := decide_eq_true c2
  clear c2
  obtain rfl := Option.some.inj H
  go_enter Tryd.func121, Tryd.ntmps121
  go_wp2
  go_ret
  exact ⟨e2z, dz⟩
 ·rw [if_neg c2] at H
  have c2b0 : decide (97 <= a0) = false := decide_eq_false c2
  clear c2
  obtain rfl := Option.some.inj H
  go_enter Tryd.func121, Tryd.ntmps121
  go_wp2
  go_ret
  exact ⟨e2z, dz⟩
end Go.Proofs.YtmilegjmiiccdaaDoor.PFnExactPrintPart
