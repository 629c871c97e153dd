/- PFnExactKidsx2, of the words and walks that the law FnExactKids needs; made by this session's program out of printed texts. -/

import Derived.Test.YtlhofeikcaejpaaVEKidsPx0
namespace Go.Proofs.Ytlhofeikcaejpaa.PFnExactKids
open Go.RowKit Go.Proofs.YtlhofeikcaejpaaW.PrintWords Go.Proofs.YtlhofeikcaejpaaW.PrintLast Go.Proofs.YtlhofeikcaejpaaW.PrintMore
attribute [local go_sem] max2_int min2_int max_two min_two max_three min_three max_four min_four
set_option linter.unusedVariables false
set_option linter.unusedSimpArgs false
mutual
def impl_Arity.j0 : Nat -> Int -> Bool -> Option (Int)
 | 0, _, _ => none
 | k + 1, x3, x4 => if x4 = true then (some 1) else (if x3 = 4 then (impl_Arity.j1 k x3 (x3 == 4)) else (if x3 = 5 then (impl_Arity.j1 k x3 (x3 == 5)) else (if x3 = 6 then (impl_Arity.j1 k x3 (x3 == 6)) else (if x3 = 8 then (impl_Arity.j1 k x3 (x3 == 8)) else (if x3 = 9 then (impl_Arity.j1 k x3 (x3 == 9)) else (if x3 = 13 then (impl_Arity.j1 k x3 (x3 == 13)) else (if x3 = 17 then (impl_Arity.j1 k x3 (x3 == 17)) else (impl_Arity.j1 k x3 (x3 == 19)))))))))
def impl_Arity.j1 : Nat -> Int -> Bool -> Option (Int)
 | 0, _, _ => none
 | k + 1, x3, x11 => if x11 = true then (some 2) else (if x3 = 7 then (some 3) else (if x3 = 14 then (some 3) else (some 0)))
end
def impl_Arity.f (k : Nat) (a0 : Int) : Option (Int) := if a0 = 3 then (impl_Arity.j0 k a0 (a0 == 3)) else (if a0 = 10 then (impl_Arity.j0 k a0 (a0 == 10)) else (if a0 = 11 then (impl_Arity.j0 k a0 (a0 == 11)) else (if a0 = 15 then (impl_Arity.j0 k a0 (a0 == 15)) else (if a0 = 16 then (impl_Arity.j0 k a0 (a0 == 16)) else (impl_Arity.j0 k a0 (a0 == 18))))))
theorem impl_Arity.mono_l : ∀ k, (∀ y0 y1, LeO (impl_Arity.j0 k y0 y1) (impl_Arity.j0 (k + 1) y0 y1)) /\ (∀ y0 y1, LeO (impl_Arity.j1 k y0 y1) (impl_Arity.j1 (k + 1) y0 y1))
 | 0 => ⟨fun _ _ r h => by simp [impl_Arity.j0] at h, fun _ _ r h => by simp [impl_Arity.j1] at h⟩
 | k + 1 => by
  obtain ⟨ih0, ih1⟩ := impl_Arity.mono_l k
  refine ⟨?_, ?_⟩
  ·intro y0 y1
   unfold impl_Arity.j0
   with_reducible repeat' first | exact ih0 _ _ | exact ih1 _ _ | exact lrz _ | exact lnz _ | refine liz ?_ ?_ | refine lbz ?_ fun _ => ?_
  ·intro y0 y1
   unfold impl_Arity.j1
   with_reducible repeat' first | exact ih0 _ _ | exact ih1 _ _ | exact lrz _ | exact lnz _ | refine liz ?_ ?_ | refine lbz ?_ fun _ => ?_
theorem impl_Arity.mono : ∀ a0 k, LeO (impl_Arity.f k a0) (impl_Arity.f (k + 1) a0) := by
 intro a0 k
 obtain ⟨ih0, ih1⟩ := impl_Arity.mono_l k
 unfold impl_Arity.f
 with_reducible repeat' first | exact ih0 _ _ | exact ih1 _ _ | exact lrz _ | exact lnz _ | refine liz ?_ ?_ | refine lbz ?_ fun _ => ?_
set_option maxHeartbeats 8000000 in
set_option maxRecDepth 100000 in
theorem impl_Arity.calls (k : Nat) (a0 : Int) (r : Int) (w : World) (h : impl_Arity.f k a0 = some r) :
  Calls Try.prog 26 #[.int .i64 a0] w fun e w' => e = .returned (.int .i64 r) /\ Drawn0 w w' := by
 have H : (if a0 = 3 then (impl_Arity.j0 k a0 (a0 == 3)) else (if a0 = 10 then (impl_Arity.j0 k a0 (a0 == 10)) else (if a0 = 11 then (impl_Arity.j0 k a0 (a0 == 11)) else (if a0 = 15 then (impl_Arity.j0 k a0 (a0 == 15)) else (if a0 = 16 then (impl_Arity.j0 k a0 (a0 == 16)) else (impl_Arity.j0 k a0 (a0 == 18))))))) = some r := h
 clear h
 have HC2 := Aside0.mk H
 clear H
 go_enter Try.func26, Try.ntmps26
 go_upto_if 4 with (fail)
 go_cut [4] (fun v4 wc => ∃ (kq : Nat) (x4_1 : Bool), v4 = .bool x4_1 /\ Aside0 (impl_Arity.j0 kq a0 x4_1 = some r) /\ Aside0 (kq <= k) /\ Drawn0 w wc)
 case first =>
  have H := HC2.out
  clear HC2
  by_cases c3 : a0 = 3
  ·rw [if_pos c3] at H
   have c3b0 : (a0 == 3) = true := beq_iff_eq.mpr c3
   have c3b1 : (a0 != 3) = false := bne_eq_false_iff_eq.mpr c3
   clear c3
   (first | rw [c3b0] | (simp only [i64_w, i32_w]; rw [c3b0]) | skip)
   have H' := Aside0.mk H
   clear H
   go_wp2
   go_meet
   case rel => exact ⟨_, ((a0 == 3)), ez, H', ⟨by first | omega | exact Nat.le_refl _⟩, dz⟩
  ·rw [if_neg c3] at H
   have c3b0 : (a0 == 3) = false := beq_eq_false_iff_ne.mpr c3
   have c3b1 : (a0 != 3) = true := bne_iff_ne.mpr c3
   (first | rw [c3b0] | (simp only [i64_w, i32_w]; rw [c3b0]) | skip)
   by_cases c4 : a0 = 10
   ·rw [if_pos c4] at H
    have c4b0 : (a0 == 10) = true := beq_iff_eq.mpr c4
    have c4b1 : (a0 != 10) = false := bne_eq_false_iff_eq.mpr c4
    clear c4
    have H' := Aside0.mk H
    clear H
    go_wp2
    go_meet
    case rel => exact ⟨_, ((a0 == 10)), ez, H', ⟨by first | omega | exact Nat.le_refl _⟩, dz⟩
   ·rw [if_neg c4] at H
    have c4b0 : (a0 == 10) = false := beq_eq_false_iff_ne.mpr c4
    have c4b1 : (a0 != 10) = true := bne_iff_ne.mpr c4
    by_cases c5 : a0 = 11
    ·rw [if_pos c5] at H
     have c5b0 : (a0 == 11) = true := beq_iff_eq.mpr c5
     have c5b1 : (a0 != 11) = false := bne_eq_false_iff_eq.mpr c5
     clear c5
     have H' := Aside0.mk H
     clear H
     go_wp2
     go_meet
     case rel => exact ⟨_, ((a0 == 11)), ez, H', ⟨by first | omega | exact Nat.le_refl _⟩, dz⟩
    ·rw [if_neg c5] at H
     have c5b0 : (a0 == 11) = false := beq_eq_false_iff_ne.mpr c5
     have c5b1 : (a0 != 11) = true := bne_iff_ne.mpr c5
     by_cases c6 : a0 = 15
     ·rw [if_pos c6] at H
      have c6b0 : (a0 == 15) = true := beq_iff_eq.mpr c6
      have c6b1 : (a0 != 15) = false := bne_eq_false_iff_eq.mpr c6
      clear c6
      have H' := Aside0.mk H
      clear H
      go_wp2
      go_meet
      case rel => exact ⟨_, ((a0 == 15)), ez, H', ⟨by first | omega | exact Nat.le_refl _⟩, dz⟩
     ·rw [if_neg c6] at H
      have c6b0 : (a0 == 15) = false := beq_eq_false_iff_ne.mpr c6
      have c6b1 : (a0 != 15) = true := bne_iff_ne.mpr c6
      by_cases c7 : a0 = 16
      ·rw [if_pos c7] at H
       have c7b0 : (a0 == 16) = true := beq_iff_eq.mpr c7
       have c7b1 : (a0 != 16) = false := bne_eq_false_iff_eq.mpr c7
       clear c7
       have H' := Aside0.mk H
       clear H
       go_wp2
       go_meet
       case rel => exact ⟨_, ((a0 == 16)), ez, H', ⟨by first | omega | exact Nat.le_refl _⟩, dz⟩
      ·rw [if_neg c7] at H
       have c7b0 : (a0 == 16) = false := beq_eq_false_iff_ne.mpr c7
       have c7b1 : (a0 != 16) = true := bne_iff_ne.mpr c7
       have H' := Aside0.mk H
       clear H
       go_wp2
       go_meet
       case rel => exact ⟨_, ((a0 == 18)), ez, H', ⟨by first | omega | exact Nat.le_refl _⟩, dz⟩
 case rest =>
  clear HC2
  try clear c2
  try clear p2
  try clear c3
  try clear c3b0
  try clear c3b1
  try clear c4
  try clear c4b0
  try clear c4b1
  try clear c5
  try clear c5b0
  try clear c5b1
  try clear c6
  try clear c6b0
  try clear c6b1
  try clear c7
  try clear c7b0
  try clear c7b1
  obtain ⟨kq, x4_1, rfl, HA, HJ1, ⟨mc1, rfl⟩⟩ := hcut
  cases kq with
  | zero => exact absurd HA.out (by simp [impl_Arity.j0])
  | succ kj1 =>
   have H := HA.out
   clear HA
   simp only [impl_Arity.j0] at H
   by_cases c8 : x4_1 = true
   ·subst c8
    have H1 := hp H
    clear H
    have H := H1
    clear H1
    obtain rfl := Option.some.inj H
    go_wp2
    go_ret
    exact ⟨e2z, dz⟩
   ·replace c8 := Bool.eq_false_iff.mpr c8
    subst c8
    have H1 := hq H
    clear H
    have H := H1
    clear H1
    have HC9 := Aside0.mk H
    clear H
    go_upto_if 11 with (fail)
    go_cut [11] (fun v11 wc => ∃ (kq : Nat) (x11_8 : Bool), v11 = .bool x11_8 /\ Aside0 (impl_Arity.j1 kq a0 x11_8 = some r) /\ Aside0 (kq <= kj1) /\ Drawn0 w wc)
    case first =>
     have H := HC9.out
     clear HC9
     by_cases c10 : a0 = 4
     ·rw [if_pos c10] at H
      have c10b0 : (a0 == 4) = true := beq_iff_eq.mpr c10
      have c10b1 : (a0 != 4) = false := bne_eq_false_iff_eq.mpr c10
      clear c10
      (first | rw [c10b0] | (simp only [i64_w, i32_w]; rw [c10b0]) | skip)
      have H' := Aside0.mk H
      clear H
      go_wp2
      go_meet
      case rel => exact ⟨_, ((a0 == 4)), ez, H', ⟨by have := HJ1.out; first | omega | exact Nat.le_refl _⟩, dz⟩
     ·rw [if_neg c10] at H
      have c10b0 : (a0 == 4) = false := beq_eq_false_iff_ne.mpr c10
      have c10b1 : (a0 != 4) = true := bne_iff_ne.mpr c10
      (first | rw [c10b0] | (simp only [i64_w, i32_w]; rw [c10b0]) | skip)
      by_cases c11 : a0 = 5
      ·rw [if_pos c11] at H
       have c11b0 : (a0 == 5) = true := beq_iff_eq.mpr c11
       have c11b1 : (a0 != 5) = false := bne_eq_false_iff_eq.mpr c11
       clear c11
       have H' := Aside0.mk H
       clear H
       go_wp2
       go_meet
       case rel => exact ⟨_, ((a0 == 5)), ez, H', ⟨by have := HJ1.out; first | omega | exact Nat.le_refl _⟩, dz⟩
      ·rw [if_neg c11] at H
       have c11b0 : (a0 == 5) = false := beq_eq_false_iff_ne.mpr c11
       have c11b1 : (a0 != 5) = true := bne_iff_ne.mpr c11
       by_cases c12 : a0 = 6
       ·rw [if_pos c12] at H
        have c12b0 : (a0 == 6) = true := beq_iff_eq.mpr c12
        have c12b1 : (a0 != 6) = false := bne_eq_false_iff_eq.mpr c12
        clear c12
        have H' := Aside0.mk H
        clear H
        go_wp2
        go_meet
        case rel => exact ⟨_, ((a0 == 6)), ez, H', ⟨by have := HJ1.out; first | omega | exact Nat.le_refl _⟩, dz⟩
       ·rw [if_neg c12] at H
        have c12b0 : (a0 == 6) = false := beq_eq_false_iff_ne.mpr c12
        have c12b1 : (a0 != 6) = true := bne_iff_ne.mpr c12
        by_cases c13 : a0 = 8
        ·rw [if_pos c13] at H
         have c13b0 : (a0 == 8) = true := beq_iff_eq.mpr c13
         have c13b1 : (a0 != 8) = false := bne_eq_false_iff_eq.mpr c13
         clear c13
         have H' := Aside0.mk H
         clear H
         go_wp2
         go_meet
         case rel => exact ⟨_, ((a0 == 8)), ez, H', ⟨by have := HJ1.out; first | omega | exact Nat.le_refl _⟩, dz⟩
        ·rw [if_neg c13] at H
         have c13b0 : (a0 == 8) = false := beq_eq_false_iff_ne.mpr c13
         have c13b1 : (a0 != 8) = true := bne_iff_ne.mpr c13
         by_cases c14 : a0 = 9
         ·rw [if_pos c14] at H
          have c14b0 : (a0 == 9) = true := beq_iff_eq.mpr c14
          have c14b1 : (a0 != 9) = false := bne_eq_false_iff_eq.mpr c14
          clear c14
          have H' := Aside0.mk H
          clear H
          go_wp2
          go_meet
          case rel => exact ⟨_, ((a0 == 9)), ez, H', ⟨by have := HJ1.out; first | omega | exact Nat.le_refl _⟩, dz⟩
         ·rw [if_neg c14] at H
          have c14b0 : (a0 == 9) = false := beq_eq_false_iff_ne.mpr c14
          have c14b1 : (a0 != 9) = true := bne_iff_ne.mpr c14
          by_cases c15 : a0 = 13
          ·rw [if_pos c15] at H
           have c15b0 : (a0 == 13) = true := beq_iff_eq.mpr c15
           have c15b1 : (a0 != 13) = false := bne_eq_false_iff_eq.mpr c15
           clear c15
           have H' := Aside0.mk H
           clear H
           go_wp2
           go_meet
           case rel => exact ⟨_, ((a0 == 13)), ez, H', ⟨by have := HJ1.out; first | omega | exact Nat.le_refl _⟩, dz⟩
          ·rw [if_neg c15] at H
           have c15b0 : (a0 == 13) = false := beq_eq_false_iff_ne.mpr c15
           have c15b1 : (a0 != 13) = true := bne_iff_ne.mpr c15
           by_cases c16 : a0 = 17
           ·rw [if_pos c16] at H
            have c16b0 : (a0 == 17) = true := beq_iff_eq.mpr c16
            have c16b1 : (a0 != 17) = false := bne_eq_false_iff_eq.mpr c16
            clear c16
            have H' := Aside0.mk H
            clear H
            go_wp2
            go_meet
            case rel => exact ⟨_, ((a0 == 17)), ez, H', ⟨by have := HJ1.out; first | omega | exact Nat.le_refl _⟩, dz⟩
           ·rw [if_neg c16] at H
            have c16b0 : (a0 == 17) = false := beq_eq_false_iff_ne.mpr c16
            have c16b1 : (a0 != 17) = true := bne_iff_ne.mpr c16
            have H' := Aside0.mk H
            clear H
            go_wp2
            go_meet
            case rel => exact ⟨_, ((a0 == 19)), ez, H', ⟨by have := HJ1.out; first | omega | exact Nat.le_refl _⟩, dz⟩
    case rest =>
     clear HC9
     try clear c1
     try clear c2
     try clear p2
     try clear c3
     try clear c3b0
     try clear c3b1
     try clear c4
     try clear c4b0
     try clear c4b1
     try clear c5
     try clear c5b0
     try clear c5b1
     try clear c6
     try clear c6b0
     try clear c6b1
     try clear c7
     try clear c7b0
     try clear c7b1
     try clear c8
     try clear c10
     try clear c10b0
     try clear c10b1
     try clear c11
     try clear c11b0
     try clear c11b1
     try clear c12
     try clear c12b0
     try clear c12b1
     try clear c13
     try clear c13b0
     try clear c13b1
     try clear c14
     try clear c14b0
     try clear c14b1
     try clear c15
     try clear c15b0
     try clear c15b1
     try clear c16
     try clear c16b0
     try clear c16b1
     try clear p2
     obtain ⟨kq, x11_8, rfl, HA, HJ8, ⟨mc8, rfl⟩⟩ := hcut
     cases kq with
     | zero => exact absurd HA.out (by simp [impl_Arity.j1])
     | succ kj8 =>
      have H := HA.out
      clear HA
      simp only [impl_Arity.j1] at H
      by_cases c17 : x11_8 = true
      ·subst c17
       have H1 := hp H
       clear H
       have H := H1
       clear H1
       obtain rfl := Option.some.inj H
       go_wp2
       go_ret
       exact ⟨e2z, dz⟩
      ·replace c17 := Bool.eq_false_iff.mpr c17
       subst c17
       have H1 := hq H
       clear H
       have H := H1
       clear H1
       by_cases c18 : a0 = 7
       ·rw [if_pos c18] at H
        have c18b0 : (a0 == 7) = true := beq_iff_eq.mpr c18
        have c18b1 : (a0 != 7) = false := bne_eq_false_iff_eq.mpr c18
        clear c18
        obtain rfl := Option.some.inj H
        go_wp2
        go_ret
        exact ⟨e2z, dz⟩
       ·rw [if_neg c18] at H
        have c18b0 : (a0 == 7) = false := beq_eq_false_iff_ne.mpr c18
        have c18b1 : (a0 != 7) = true := bne_iff_ne.mpr c18
        by_cases c19 : a0 = 14
        ·rw [if_pos c19] at H
         have c19b0 : (a0 == 14) = true := beq_iff_eq.mpr c19
         have c19b1 : (a0 != 14) = false := bne_eq_false_iff_eq.mpr c19
         clear c19
         obtain rfl := Option.some.inj H
         go_wp2
         go_ret
         exact ⟨e2z, dz⟩
        ·rw [if_neg c19] at H
         have c19b0 : (a0 == 14) = false := beq_eq_false_iff_ne.mpr c19
         have c19b1 : (a0 != 14) = true := bne_iff_ne.mpr c19
         obtain rfl := Option.some.inj H
         go_wp2
         go_ret
         exact ⟨e2z, dz⟩
def impl_Kids.f (k : Nat) (a0_0 : Int) (a0_1 : Int) (a0_2 : Int) (a0_3 : Int) (a0_4 : Int) (a0_5 : ByteArray) (a0_6 : ByteArray) : Option (List Int) := (some (([a0_1, a0_2, a0_3] : List Int) : List Int)).bind fun y114 => ((impl_Arity.f k a0_0).bind fun t117 => ((impl_Arity.f k a0_0).bind fun t118 => (if 0 <= t117 then (if t117 <= t118 then (if t118 <= (y114.length : Int) then (some (y114.take (t117 : Int).toNat)) else (none)) else (none)) else (none))))
theorem impl_Kids.mono : ∀ a0 a1 a2 a3 a4 a5 a6 k, LeO (impl_Kids.f k a0 a1 a2 a3 a4 a5 a6) (impl_Kids.f (k + 1) a0 a1 a2 a3 a4 a5 a6) := by
 intro a0 a1 a2 a3 a4 a5 a6 k
 unfold impl_Kids.f
 with_reducible repeat' first | exact impl_Arity.mono _ _ | exact lrz _ | exact lnz _ | refine liz ?_ ?_ | refine lbz ?_ fun _ => ?_
def impl_Kids.T1 : Bool × List (List Nat × List Nat) := (true, [([], []), ([0], [0]), ([], []), ([2], [2]), ([], []), ([4], [4]), ([1, 3, 5], [1, 3, 5]), ([], []), ([7], [7]), ([8], [8]), ([], []), ([10], [10]), ([11, 9], [11]), ([6, 9, 12], [6, 9, 12]), ([13, 12, 0, 1, 2, 3, 4, 5, 6, 7, 8, 9, 10, 11, 12, 13], [13])])
def impl_Kids.B1 : List Nat := [0, 1, 0, 4, 0, 16, 63, 0, 128, 384, 0, 1024, 3968, 8191, 16383]
theorem impl_Kids.tab1 : rtab .any (opsOf Try.f9 1) = impl_Kids.T1 := by kernel_rfl
theorem impl_Kids.bits1 : waitsOk impl_Kids.T1.2 impl_Kids.B1 = true := by kernel_rfl
set_option maxHeartbeats 8000000 in
set_option maxRecDepth 100000 in
theorem impl_Kids.calls (k : Nat) (a0_0 : Int) (a0_1 : Int) (a0_2 : Int) (a0_3 : Int) (a0_4 : Int) (a0_5 : ByteArray) (a0_6 : ByteArray) (r : List Int) (w : World) (h : impl_Kids.f k a0_0 a0_1 a0_2 a0_3 a0_4 a0_5 a0_6 = some r) :
  Calls Try.prog 9 #[.agg #[.int .i64 a0_0, .int .i64 a0_1, .int .i64 a0_2, .int .i64 a0_3, .int .i64 a0_4, .string a0_5, .string a0_6]] w fun e w' => ∃ v0_ : Value, e = .returned (v0_) /\ Kp.R (Kd.int .i64) 3 w' w.heap.size (fun k_ => (w.heap.size <= k_)) v0_ r /\ Below w.heap.size w w' := by
 have hu27 := Try.underlying27
 have HB := Aside0.mk (Below.refl w.heap.size w)
 have H : ((some (([a0_1, a0_2, a0_3] : List Int) : List Int)).bind fun y114 => ((impl_Arity.f k a0_0).bind fun t117 => ((impl_Arity.f k a0_0).bind fun t118 => (if 0 <= t117 then (if t117 <= t118 then (if t118 <= (y114.length : Int) then (some (y114.take (t117 : Int).toNat)) else (none)) else (none)) else (none))))) = some r := h
 clear h
 obtain ⟨y114, hy114⟩ : ∃ y_ : List Int, y_ = (([a0_1, a0_2, a0_3] : List Int)) := ⟨_, rfl⟩
 replace H : ((impl_Arity.f k a0_0).bind fun t117 => ((impl_Arity.f k a0_0).bind fun t118 => (if 0 <= t117 then (if t117 <= t118 then (if t118 <= (y114.length : Int) then (some (y114.take (t117 : Int).toNat)) else (none)) else (none)) else (none)))) = some r := yz hy114 H
 have Ny114 := Aside0.mk hy114
 clear hy114
 replace H := bi H
 obtain ⟨t117, A20, H⟩ := H
 try dsimp only at H
 have A2 := Aside0.mk A20
 clear A20
 replace H := bi H
 obtain ⟨t118, A30, H⟩ := H
 try dsimp only at H
 have A3 := Aside0.mk A30
 clear A30
 replace H := iz H
 obtain ⟨c4, H⟩ := H
 have c4b0 := eq_true c4
 have c4b1 : decide (0 <= t117) = true := decide_eq_true c4
 clear c4
 replace H := iz H
 obtain ⟨c5, H⟩ := H
 have c5b0 := eq_true c5
 have c5b1 : decide (t117 <= t118) = true := decide_eq_true c5
 clear c5
 replace H := iz H
 obtain ⟨c6, H⟩ := H
 have c6b0 := eq_true c6
 have c6b1 : decide (t118 <= (y114.length : Int)) = true := decide_eq_true c6
 clear c6
 obtain ⟨y119, hy119⟩ : ∃ y_ : List Int, y_ = (y114.take (t117 : Int).toNat) := ⟨_, rfl⟩
 replace H : (some y119) = some r := yz hy119 H
 have Ny119 := Aside0.mk hy119
 clear hy119
 obtain rfl := Option.some.inj H
 go_enter Try.func9, Try.ntmps9
 try go_wp2_with (first | ((with_reducible refine gate_dst (N := 1) rfl ?_); refine box_event ?hg (N := 1) ?hd (cs := #[.int .i64 a0_0, .int .i64 a0_1, .int .i64 a0_2, .int .i64 a0_3, .int .i64 a0_4, .string a0_5, .string a0_6]) (t := 27) ?hr ?_; (case hd => rfl); (case hg => rfl); (case hr => exact vz); intro gb113 hg w7 hbox hb; have BK113 := Aside0.mk (hbox); have GW113 := Aside0.mk ((by rw [hg]; exact (below_size (bz0 HB.out)) : w.heap.size <= gb113)); have GE113 := Aside0.mk ((by rw [hg]; exact (below_size (bz0 HB.out)) : w.heap.size <= gb113)); replace HB := Aside0.mk (below_step (bz0 HB.out) hb); clear hb hbox hg))
 have n0_ := Aside0.mk (blk_drew BK113.out)
 have n1_ := Aside0.mk (below_drew1 HB.out)
 clear BK113
 clear HB
 have BK113 := n0_
 have HB := n1_
 clear n0_ n1_
 refine start_ (n := 15) (S := fun w' => w'.cell? ⟨gb113, 0, none⟩ = some (.int .i64 a0_0) /\ w'.cell? ⟨gb113, 1, none⟩ = some (.int .i64 a0_1) /\ w'.cell? ⟨gb113, 2, none⟩ = some (.int .i64 a0_2) /\ w'.cell? ⟨gb113, 3, none⟩ = some (.int .i64 a0_3) /\ w'.cell? ⟨gb113, 4, none⟩ = some (.int .i64 a0_4) /\ w'.cell? ⟨gb113, 5, none⟩ = some (.string a0_5) /\ w'.cell? ⟨gb113, 6, none⟩ = some (.string a0_6)) (ds := []) #[ff, ff, ff, ff, ff, ff, ff, ff, ff, ff, ff, ff, ff, ff, ff] (by kernel_rfl) rfl rfl ⟨(blk_cell BK113.out 0).trans rfl, (blk_cell BK113.out 1).trans rfl, (blk_cell BK113.out 2).trans rfl, (blk_cell BK113.out 3).trans rfl, (blk_cell BK113.out 4).trans rfl, (blk_cell BK113.out 5).trans rfl, (blk_cell BK113.out 6).trans rfl⟩ (fun hHeld => ?_); refine with_tabW impl_Kids.tab1 impl_Kids.bits1 (fun HT_ HW_ => ?_)
 generalize w7.drew = w8 at BK113 HB hHeld ⊢
 refine pure_ (i := 0) (N := some 3) (v := ?_) (a' := ?_) #[tt, ff, ff, ff, ff, ff, ff, ff, ff, ff, ff, ff, ff, ff, ff] rfl rfl (any_of HT_.out (by kernel_rfl)) (fun _ _ _ h => h) (Or.inl ⟨by rfl, ?_⟩) ?_ ?_
 rotate_left
 ·intro w'
  go_simp
  with_reducible rfl
 rotate_left
 ·simp only [Act.put, sz1, sz2, sz3, i64_w, i32_w]
  rfl
 refine pure_ (i := 2) (N := some 5) (v := ?_) (a' := ?_) #[tt, ff, tt, ff, ff, ff, ff, ff, ff, ff, ff, ff, ff, ff, ff] rfl rfl (any_of HT_.out (by kernel_rfl)) (fun _ _ _ h => h) (Or.inl ⟨by rfl, ?_⟩) ?_ ?_
 rotate_left
 ·intro w'
  go_simp
  with_reducible rfl
 rotate_left
 ·simp only [Act.put, sz1, sz2, sz3, i64_w, i32_w]
  rfl
 refine pure_ (i := 4) (N := some 7) (v := ?_) (a' := ?_) #[tt, ff, tt, ff, tt, ff, ff, ff, ff, ff, ff, ff, ff, ff, ff] rfl rfl (any_of HT_.out (by kernel_rfl)) (fun _ _ _ h => h) (Or.inl ⟨by rfl, ?_⟩) ?_ ?_
 rotate_left
 ·intro w'
  go_simp
  with_reducible rfl
 rotate_left
 ·simp only [Act.put, sz1, sz2, sz3, i64_w, i32_w]
  rfl
 refine pure_ (i := 7) (N := some 10) (v := ?_) (a' := ?_) #[tt, ff, tt, ff, tt, ff, ff, tt, ff, ff, ff, ff, ff, ff, ff] rfl rfl (any_of HT_.out (by kernel_rfl)) (fun _ _ _ h => h) (Or.inl ⟨by rfl, ?_⟩) ?_ ?_
 rotate_left
 ·intro w'
  go_simp
  with_reducible rfl
 rotate_left
 ·simp only [Act.put, sz1, sz2, sz3, i64_w, i32_w]
  rfl
 refine pure_ (i := 10) (N := some 13) (v := ?_) (a' := ?_) #[tt, ff, tt, ff, tt, ff, ff, tt, ff, ff, tt, ff, ff, ff, ff] rfl rfl (any_of HT_.out (by kernel_rfl)) (fun _ _ _ h => h) (Or.inl ⟨by rfl, ?_⟩) ?_ ?_
 rotate_left
 ·intro w'
  go_simp
  with_reducible rfl
 rotate_left
 ·simp only [Act.put, sz1, sz2, sz3, i64_w, i32_w]
  rfl
 refine take_ (i := 1) (N := some 4) (v := ?_) (a' := ?_) #[tt, tt, tt, ff, tt, ff, ff, tt, ff, ff, tt, ff, ff, ff, ff] rfl rfl (take_ofW HT_.out HW_.out (by kernel_rfl)) (fun _ _ _ h => h) (Or.inl ⟨by rfl, ?_⟩) hHeld ?_ ?_
 rotate_left
 ·rintro w' ⟨s0, s1, s2, s3, s4, s5, s6⟩
  go_simp
  with_reducible rfl
 rotate_left
 ·simp only [Act.put, sz1, sz2, sz3, i64_w, i32_w]
  rfl
 refine take_ (i := 3) (N := some 6) (v := ?_) (a' := ?_) #[tt, tt, tt, tt, tt, ff, ff, tt, ff, ff, tt, ff, ff, ff, ff] rfl rfl (take_ofW HT_.out HW_.out (by kernel_rfl)) (fun _ _ _ h => h) (Or.inl ⟨by rfl, ?_⟩) hHeld ?_ ?_
 rotate_left
 ·rintro w' ⟨s0, s1, s2, s3, s4, s5, s6⟩
  go_simp
  with_reducible rfl
 rotate_left
 ·simp only [Act.put, sz1, sz2, sz3, i64_w, i32_w]
  rfl
 refine take_ (i := 5) (N := some 8) (v := ?_) (a' := ?_) #[tt, tt, tt, tt, tt, tt, ff, tt, ff, ff, tt, ff, ff, ff, ff] rfl rfl (take_ofW HT_.out HW_.out (by kernel_rfl)) (fun _ _ _ h => h) (Or.inl ⟨by rfl, ?_⟩) hHeld ?_ ?_
 rotate_left
 ·rintro w' ⟨s0, s1, s2, s3, s4, s5, s6⟩
  go_simp
  with_reducible rfl
 rotate_left
 ·simp only [Act.put, sz1, sz2, sz3, i64_w, i32_w]
  rfl
 refine take_ (i := 8) (N := some 11) (v := ?_) (a' := ?_) #[tt, tt, tt, tt, tt, tt, ff, tt, tt, ff, tt, ff, ff, ff, ff] rfl rfl (take_ofW HT_.out HW_.out (by kernel_rfl)) (fun _ _ _ h => h) (Or.inl ⟨by rfl, ?_⟩) hHeld ?_ ?_
 rotate_left
 ·rintro w' ⟨s0, s1, s2, s3, s4, s5, s6⟩
  go_simp
  with_reducible rfl
 rotate_left
 ·simp only [Act.put, sz1, sz2, sz3, i64_w, i32_w]
  rfl
 refine take_ (i := 11) (N := some 14) (v := ?_) (a' := ?_) #[tt, tt, tt, tt, tt, tt, ff, tt, tt, ff, tt, tt, ff, ff, ff] rfl rfl (take_ofW HT_.out HW_.out (by kernel_rfl)) (fun _ _ _ h => h) (Or.inl ⟨by rfl, ?_⟩) hHeld ?_ ?_
 rotate_left
 ·rintro w' ⟨s0, s1, s2, s3, s4, s5, s6⟩
  go_simp
  with_reducible rfl
 rotate_left
 ·simp only [Act.put, sz1, sz2, sz3, i64_w, i32_w]
  rfl
 refine join_ (σ := Value) 2 #[true, true, true, true, true, true, true, true, true, true, true, true, true, false, false] (fun s_ => [(9, s_), (12, .int .i64 t117), (15, .int .i64 t118)]) (fun s_ w' => (w'.cell? ⟨gb113, 0, none⟩ = some (.int .i64 a0_0) /\ w'.cell? ⟨gb113, 1, none⟩ = some (.int .i64 a0_1) /\ w'.cell? ⟨gb113, 2, none⟩ = some (.int .i64 a0_2) /\ w'.cell? ⟨gb113, 3, none⟩ = some (.int .i64 a0_3) /\ w'.cell? ⟨gb113, 4, none⟩ = some (.int .i64 a0_4) /\ w'.cell? ⟨gb113, 5, none⟩ = some (.string a0_5) /\ w'.cell? ⟨gb113, 6, none⟩ = some (.string a0_6)) /\ (Kd.R (Kd.int .i64) 3 w' w.heap.size (fun k_ => (w.heap.size <= k_)) s_ y114) /\ (w'.heap[gb113]? = some (.cells #[.int .i64 a0_0, .int .i64 a0_1, .int .i64 a0_2, .int .i64 a0_3, .int .i64 a0_4, .string a0_5, .string a0_6] 27 (0, 0))) /\ (Below w.heap.size w w')) ?_ ?_
 rotate_left
 ·intro hCont
  refine two_ (i := 6) (j := 9) (Ni := some 9) (Nj := some 12) #[true, true, true, true, true, true, true, true, true, false, true, true, false, false, false] #[true, true, true, true, true, true, false, true, true, true, true, true, false, false, false] rfl rfl rfl rfl (two_of HT_.out (by kernel_rfl)) (by decide) (by decide) (fun K hK => ?_) (fun K hK => ?_)
  ·skip
   refine Kd.R_lit_step (Kd.int .i64) _ 3 ?hg (N := 9) ?hd (xs := ([a0_1, a0_2, a0_3] : List Int)) (inner := [.int .i64 a0_1, .int .i64 a0_2, .int .i64 a0_3]) (ok := fun _ => True) (okp := fun _ => True) ?hr ?hp (fun _ hk => hk) trivial (Below.refl _ _) (Nat.le_refl _) (by simp) ?_; (case hd => rfl); (case hg => rfl); (case hr => exact vz); (case hp => exact (Reps.one (show Kd.M (Kd.int .i64) _ _ _ a0_1 [.int .i64 a0_1] from rfl) (Reps.one (show Kd.M (Kd.int .i64) _ _ _ a0_2 [.int .i64 a0_2] from rfl) (Reps.one (show Kd.M (Kd.int .i64) _ _ _ a0_3 [.int .i64 a0_3] from rfl) (Reps.none _ _)))))
   intro v115 w9 ho10 hb hg_ hnew_
   clear hg_ hnew_
   (first | rw [<- Ny114.out] at ho10 | (simp only [Int.reduceToNat] at ho10; rw [<- Ny114.out] at ho10))
   have n0_ := Aside0.mk (Kd.R_lower (Kd.R_newM (M := fun k_ => (w.heap.size <= k_)) ho10 (below_size (bz1 HB.out GE113.out)) (fun k_ h_ => h_)) (below_size (bz1 HB.out GE113.out)))
   have n1_ := Aside0.mk (blk_below (kz BK113.out) hb)
   have n2_ := Aside0.mk (below_step (bz1 HB.out GE113.out) hb)
   clear BK113
   clear HB
   have HO116 := n0_
   have BK113 := n1_
   have HB := n2_
   clear n0_ n1_ n2_
   clear hb ho10
   refine hK.out _ _ ⟨(blk_cell BK113.out 0).trans rfl, (blk_cell BK113.out 1).trans rfl, (blk_cell BK113.out 2).trans rfl, (blk_cell BK113.out 3).trans rfl, (blk_cell BK113.out 4).trans rfl, (blk_cell BK113.out 5).trans rfl, (blk_cell BK113.out 6).trans rfl⟩ (fun hHeld => ?_)
   clear hK K
   refine norm_ (a' := ?_) ?_ ?_
   rotate_left
   ·show Act.put _ (some 9) _ = _
    simp only [Act.put, sz1, sz2, sz3, i64_w, i32_w]
    rfl
   refine one_ (i := 9) (N := some 12) #[tt, tt, tt, tt, tt, tt, tt, tt, tt, tt, tt, tt, ff, ff, ff] rfl rfl (one_of HT_.out (by kernel_rfl)) (by decide) (fun K hK => ?_)
   refine goes_ Try.func26 (by kernel_rfl) rfl #[.int .i64 a0_0] (by rfl) rfl rfl lz ?_
   with_reducible refine (impl_Arity.calls k a0_0 t117 _ A2.out).mono ?_
   rintro e w' ⟨rfl, ⟨nd, rfl⟩⟩
   refine ⟨_, rfl, ?_⟩
   refine hK.out _ _ ⟨(blk_cell BK113.out 0).trans rfl, (blk_cell BK113.out 1).trans rfl, (blk_cell BK113.out 2).trans rfl, (blk_cell BK113.out 3).trans rfl, (blk_cell BK113.out 4).trans rfl, (blk_cell BK113.out 5).trans rfl, (blk_cell BK113.out 6).trans rfl⟩ (fun hHeld => ?_)
   clear hK K
   refine norm_ (a' := ?_) ?_ ?_
   rotate_left
   ·show Act.put _ (some 12) _ = _
    simp only [Act.put, sz1, sz2, sz3, i64_w, i32_w]
    rfl
   refine one_ (i := 12) (N := some 15) #[tt, tt, tt, tt, tt, tt, tt, tt, tt, tt, tt, tt, tt, ff, ff] rfl rfl (one_of HT_.out (by kernel_rfl)) (by decide) (fun K hK => ?_)
   refine goes_ Try.func26 (by kernel_rfl) rfl #[.int .i64 a0_0] (by rfl) rfl rfl lz ?_
   with_reducible refine (impl_Arity.calls k a0_0 t118 _ A3.out).mono ?_
   rintro e w' ⟨rfl, ⟨nd, rfl⟩⟩
   refine ⟨_, rfl, ?_⟩
   refine hK.out _ _ ⟨(blk_cell BK113.out 0).trans rfl, (blk_cell BK113.out 1).trans rfl, (blk_cell BK113.out 2).trans rfl, (blk_cell BK113.out 3).trans rfl, (blk_cell BK113.out 4).trans rfl, (blk_cell BK113.out 5).trans rfl, (blk_cell BK113.out 6).trans rfl⟩ (fun hHeld => ?_)
   clear hK K
   refine norm_ (a' := ?_) ?_ ?_
   rotate_left
   ·show Act.put _ (some 15) _ = _
    simp only [Act.put, sz1, sz2, sz3, i64_w, i32_w]
    rfl
   exact norm_ (by simp only [putAll, Act.put, List.setIfInBounds_toArray, List.set_cons_zero, List.set_cons_succ]) (hCont (v115) _ ⟨hHeld, (by refine rq ?_; exact Kd.R_mono HO116.out (fun _ hk => hk.1)), (kz BK113.out), (bz1 HB.out GE113.out)⟩)
  ·skip
   refine goes_ Try.func26 (by kernel_rfl) rfl #[.int .i64 a0_0] (by rfl) rfl rfl lz ?_
   with_reducible refine (impl_Arity.calls k a0_0 t117 _ A2.out).mono ?_
   rintro e w' ⟨rfl, ⟨nd, rfl⟩⟩
   refine ⟨_, rfl, ?_⟩
   refine hK.out _ _ ⟨(blk_cell BK113.out 0).trans rfl, (blk_cell BK113.out 1).trans rfl, (blk_cell BK113.out 2).trans rfl, (blk_cell BK113.out 3).trans rfl, (blk_cell BK113.out 4).trans rfl, (blk_cell BK113.out 5).trans rfl, (blk_cell BK113.out 6).trans rfl⟩ (fun hHeld => ?_)
   clear hK K
   refine norm_ (a' := ?_) ?_ ?_
   rotate_left
   ·show Act.put _ (some 12) _ = _
    simp only [Act.put, sz1, sz2, sz3, i64_w, i32_w]
    rfl
   refine two_ (i := 6) (j := 12) (Ni := some 9) (Nj := some 15) #[true, true, true, true, true, true, true, true, true, true, true, true, false, false, false] #[true, true, true, true, true, true, false, true, true, true, true, true, true, false, false] rfl rfl rfl rfl (two_of HT_.out (by kernel_rfl)) (by decide) (by decide) (fun K hK => ?_) (fun K hK => ?_)
   ·skip
    refine Kd.R_lit_step (Kd.int .i64) _ 3 ?hg (N := 9) ?hd (xs := ([a0_1, a0_2, a0_3] : List Int)) (inner := [.int .i64 a0_1, .int .i64 a0_2, .int .i64 a0_3]) (ok := fun _ => True) (okp := fun _ => True) ?hr ?hp (fun _ hk => hk) trivial (Below.refl _ _) (Nat.le_refl _) (by simp) ?_; (case hd => rfl); (case hg => rfl); (case hr => exact vz); (case hp => exact (Reps.one (show Kd.M (Kd.int .i64) _ _ _ a0_1 [.int .i64 a0_1] from rfl) (Reps.one (show Kd.M (Kd.int .i64) _ _ _ a0_2 [.int .i64 a0_2] from rfl) (Reps.one (show Kd.M (Kd.int .i64) _ _ _ a0_3 [.int .i64 a0_3] from rfl) (Reps.none _ _)))))
    intro v115 w9 ho10 hb hg_ hnew_
    clear hg_ hnew_
    (first | rw [<- Ny114.out] at ho10 | (simp only [Int.reduceToNat] at ho10; rw [<- Ny114.out] at ho10))
    have n0_ := Aside0.mk (Kd.R_lower (Kd.R_newM (M := fun k_ => (w.heap.size <= k_)) ho10 (below_size (bz1 HB.out GE113.out)) (fun k_ h_ => h_)) (below_size (bz1 HB.out GE113.out)))
    have n1_ := Aside0.mk (blk_below (kz BK113.out) hb)
    have n2_ := Aside0.mk (below_step (bz1 HB.out GE113.out) hb)
    clear BK113
    clear HB
    have HO116 := n0_
    have BK113 := n1_
    have HB := n2_
    clear n0_ n1_ n2_
    clear hb ho10
    refine hK.out _ _ ⟨(blk_cell BK113.out 0).trans rfl, (blk_cell BK113.out 1).trans rfl, (blk_cell BK113.out 2).trans rfl, (blk_cell BK113.out 3).trans rfl, (blk_cell BK113.out 4).trans rfl, (blk_cell BK113.out 5).trans rfl, (blk_cell BK113.out 6).trans rfl⟩ (fun hHeld => ?_)
    clear hK K
    refine norm_ (a' := ?_) ?_ ?_
    rotate_left
    ·show Act.put _ (some 9) _ = _
     simp only [Act.put, sz1, sz2, sz3, i64_w, i32_w]
     rfl
    refine one_ (i := 12) (N := some 15) #[tt, tt, tt, tt, tt, tt, tt, tt, tt, tt, tt, tt, tt, ff, ff] rfl rfl (one_of HT_.out (by kernel_rfl)) (by decide) (fun K hK => ?_)
    refine goes_ Try.func26 (by kernel_rfl) rfl #[.int .i64 a0_0] (by rfl) rfl rfl lz ?_
    with_reducible refine (impl_Arity.calls k a0_0 t118 _ A3.out).mono ?_
    rintro e w' ⟨rfl, ⟨nd, rfl⟩⟩
    refine ⟨_, rfl, ?_⟩
    refine hK.out _ _ ⟨(blk_cell BK113.out 0).trans rfl, (blk_cell BK113.out 1).trans rfl, (blk_cell BK113.out 2).trans rfl, (blk_cell BK113.out 3).trans rfl, (blk_cell BK113.out 4).trans rfl, (blk_cell BK113.out 5).trans rfl, (blk_cell BK113.out 6).trans rfl⟩ (fun hHeld => ?_)
    clear hK K
    refine norm_ (a' := ?_) ?_ ?_
    rotate_left
    ·show Act.put _ (some 15) _ = _
     simp only [Act.put, sz1, sz2, sz3, i64_w, i32_w]
     rfl
    exact norm_ (by simp only [putAll, Act.put, List.setIfInBounds_toArray, List.set_cons_zero, List.set_cons_succ]) (hCont (v115) _ ⟨hHeld, (by refine rq ?_; exact Kd.R_mono HO116.out (fun _ hk => hk.1)), (kz BK113.out), (bz1 HB.out GE113.out)⟩)
   ·skip
    refine goes_ Try.func26 (by kernel_rfl) rfl #[.int .i64 a0_0] (by rfl) rfl rfl lz ?_
    with_reducible refine (impl_Arity.calls k a0_0 t118 _ A3.out).mono ?_
    rintro e w' ⟨rfl, ⟨nd, rfl⟩⟩
    refine ⟨_, rfl, ?_⟩
    refine hK.out _ _ ⟨(blk_cell BK113.out 0).trans rfl, (blk_cell BK113.out 1).trans rfl, (blk_cell BK113.out 2).trans rfl, (blk_cell BK113.out 3).trans rfl, (blk_cell BK113.out 4).trans rfl, (blk_cell BK113.out 5).trans rfl, (blk_cell BK113.out 6).trans rfl⟩ (fun hHeld => ?_)
    clear hK K
    refine norm_ (a' := ?_) ?_ ?_
    rotate_left
    ·show Act.put _ (some 15) _ = _
     simp only [Act.put, sz1, sz2, sz3, i64_w, i32_w]
     rfl
    refine one_ (i := 6) (N := some 9) #[tt, tt, tt, tt, tt, tt, tt, tt, tt, tt, tt, tt, tt, ff, ff] rfl rfl (one_of HT_.out (by kernel_rfl)) (by decide) (fun K hK => ?_)
    refine Kd.R_lit_step (Kd.int .i64) _ 3 ?hg (N := 9) ?hd (xs := ([a0_1, a0_2, a0_3] : List Int)) (inner := [.int .i64 a0_1, .int .i64 a0_2, .int .i64 a0_3]) (ok := fun _ => True) (okp := fun _ => True) ?hr ?hp (fun _ hk => hk) trivial (Below.refl _ _) (Nat.le_refl _) (by simp) ?_; (case hd => rfl); (case hg => rfl); (case hr => exact vz); (case hp => exact (Reps.one (show Kd.M (Kd.int .i64) _ _ _ a0_1 [.int .i64 a0_1] from rfl) (Reps.one (show Kd.M (Kd.int .i64) _ _ _ a0_2 [.int .i64 a0_2] from rfl) (Reps.one (show Kd.M (Kd.int .i64) _ _ _ a0_3 [.int .i64 a0_3] from rfl) (Reps.none _ _)))))
    intro v115 w9 ho10 hb hg_ hnew_
    clear hg_ hnew_
    (first | rw [<- Ny114.out] at ho10 | (simp only [Int.reduceToNat] at ho10; rw [<- Ny114.out] at ho10))
    have n0_ := Aside0.mk (Kd.R_lower (Kd.R_newM (M := fun k_ => (w.heap.size <= k_)) ho10 (below_size (bz1 HB.out GE113.out)) (fun k_ h_ => h_)) (below_size (bz1 HB.out GE113.out)))
    have n1_ := Aside0.mk (blk_below (kz BK113.out) hb)
    have n2_ := Aside0.mk (below_step (bz1 HB.out GE113.out) hb)
    clear BK113
    clear HB
    have HO116 := n0_
    have BK113 := n1_
    have HB := n2_
    clear n0_ n1_ n2_
    clear hb ho10
    refine hK.out _ _ ⟨(blk_cell BK113.out 0).trans rfl, (blk_cell BK113.out 1).trans rfl, (blk_cell BK113.out 2).trans rfl, (blk_cell BK113.out 3).trans rfl, (blk_cell BK113.out 4).trans rfl, (blk_cell BK113.out 5).trans rfl, (blk_cell BK113.out 6).trans rfl⟩ (fun hHeld => ?_)
    clear hK K
    refine norm_ (a' := ?_) ?_ ?_
    rotate_left
    ·show Act.put _ (some 9) _ = _
     simp only [Act.put, sz1, sz2, sz3, i64_w, i32_w]
     rfl
    exact norm_ (by simp only [putAll, Act.put, List.setIfInBounds_toArray, List.set_cons_zero, List.set_cons_succ]) (hCont (v115) _ ⟨hHeld, (by refine rq ?_; exact Kd.R_mono HO116.out (fun _ hk => hk.1)), (kz BK113.out), (bz1 HB.out GE113.out)⟩)
 rintro v115 w11 ⟨hS_, h0_, h1_, h2_⟩
 have n0_ : Aside0 (Kd.R (Kd.int .i64) 3 w11 w.heap.size (fun k_ => (w.heap.size <= k_)) v115 y114) := ⟨h0_⟩
 have n1_ : Aside0 (w11.heap[gb113]? = some (.cells #[.int .i64 a0_0, .int .i64 a0_1, .int .i64 a0_2, .int .i64 a0_3, .int .i64 a0_4, .string a0_5, .string a0_6] 27 (0, 0))) := ⟨h1_⟩
 have n2_ : Aside0 (Below w.heap.size w w11) := ⟨h2_⟩
 clear BK113
 clear HB
 clear h0_ h1_ h2_
 have HO116 := n0_
 have BK113 := n1_
 have HB := n2_
 clear n0_ n1_ n2_
 have hHeld : w11.cell? ⟨gb113, 0, none⟩ = some (.int .i64 a0_0) /\ w11.cell? ⟨gb113, 1, none⟩ = some (.int .i64 a0_1) /\ w11.cell? ⟨gb113, 2, none⟩ = some (.int .i64 a0_2) /\ w11.cell? ⟨gb113, 3, none⟩ = some (.int .i64 a0_3) /\ w11.cell? ⟨gb113, 4, none⟩ = some (.int .i64 a0_4) /\ w11.cell? ⟨gb113, 5, none⟩ = some (.string a0_5) /\ w11.cell? ⟨gb113, 6, none⟩ = some (.string a0_6) := hS_
 obtain ⟨Ao13, co13, eo13⟩ := Kd.R_slice HO116.out
 (first | subst eo13 | (injection eo13 with f1_ f2_ f3_; have f4_ := f1_.symm; have f5_ := f3_.symm; clear f1_ f2_ f3_; subst f4_; subst f5_))
 have q12 : (t117 : Int) <= ((y114.length : Int) : Int) := Int.le_trans (b := (t118 : Int)) (of_decide_eq_true az) (of_decide_eq_true az)
 obtain ⟨i012, hi012, _, hsz12, _⟩ := info_parts info3
 have hroom12 : y114.length <= co13 := (Kd.R_reads' HO116.out).2.1
 have hC12 : Kd.F (Kd.int .i64) _ _ Ao13 y114.length y114 := (Kd.V_at (base := w.heap.size) (Kd.R_V (Kd.R_types (HO116.out) BK113.out (by decide)))).2.2
 have qm12 : (t117 : Int) <= (t118 : Int) := oz
 have qn12 : (t118 : Int) <= ((y114.length : Int) : Int) := oz
 have hcut12 := cut_to3 (P := Try.prog) 25 3 .i64 .i64 Try.underlying25 hi012 Ao13 y114.length co13 t117 t118 (of_decide_eq_true az) qm12 qn12 hroom12
 have hr12 := Kd.F_take (m := (t117 : Int).toNat) hC12 (by omega)
 have hy12 : y119.length = (t117 : Int).toNat := (by rw [Ny119.out, List.length_take]; omega)
 rw [<- Ny119.out] at hr12
 rw [<- hy12] at hcut12
 have HO122 := Aside0.mk (show Kp.R (Kd.int .i64) 3 _ w.heap.size _ (.slice Ao13 y119.length (t118 : Int).toNat) y119 from Kp.of_R HO116.out (by rw [Ny114.out]; exact Nat.succ_pos _) Ny119.out (by omega))
 have HC122 := Aside0.mk (show y119.length <= (t118 : Int).toNat from by omega)
 clear hr12 hC12 hroom12 hi012 hsz12 qm12 qn12
 have KY12 := Aside0.mk hy12
 clear hy12
 replace q12 := eq_true q12
 refine norm_ (a' := ?_) ?_ ?_
 rotate_left
 ·simp only [putAll, Act.put, List.setIfInBounds_toArray, List.set_cons_zero, List.set_cons_succ]
  rfl
 refine pure_ (i := 13) (N := some 16) (v := ?_) (a' := ?_) #[tt, tt, tt, tt, tt, tt, tt, tt, tt, tt, tt, tt, tt, tt, ff] rfl rfl (any_of HT_.out (by kernel_rfl)) (fun _ _ _ h => h) (Or.inl ⟨by rfl, ?_⟩) ?_ ?_
 rotate_left
 ·intro w'
  go_simp
  with_reducible rfl
 rotate_left
 ·simp only [Act.put, sz1, sz2, sz3, i64_w, i32_w]
  rfl
 refine pure_ (i := 14) (N := some 2) (v := ?_) (a' := ?_) #[tt, tt, tt, tt, tt, tt, tt, tt, tt, tt, tt, tt, tt, tt, tt] rfl rfl (any_of HT_.out (by kernel_rfl)) (fun _ _ _ h => h) (Or.inl ⟨by rfl, ?_⟩) ?_ ?_
 rotate_left
 ·intro w'
  go_simp
  with_reducible rfl
 rotate_left
 ·simp only [Act.put, sz1, sz2, sz3, i64_w, i32_w]
  rfl
 refine done_ (done_of HT_.out (by kernel_rfl)) ?_
 try go_wp2
 go_ret
 exact ⟨_, gz, by (with_reducible repeat (first | apply Kp.R_alloc | apply Kp.R_drewN | apply Kp.R_drew)); exact Kp.R_mono HO122.out (fun _ hk => by first | exact hk | exact hk.1), (bz1 HB.out GE113.out)⟩
def laws_eqIntS.l0 : Nat -> List Int -> List Int -> Int -> Option (Bool)
 | 0, _, _, _ => none
 | k + 1, x0, x1, x5 => if x5 < (x0.length : Int) then (if 0 <= x5 then (if x5 < (x1.length : Int) then (if (rd x0 x5) = (rd x1 x5) then (laws_eqIntS.l0 k x0 x1 (wrap64 (x5 + 1))) else (some false)) else (none)) else (none)) else (some true)
def laws_eqIntS.f (k : Nat) (l0 : List Int) (l1 : List Int) : Option (Bool) := if (l0.length : Int) = (l1.length : Int) then (laws_eqIntS.l0 k l0 l1 0) else (some false)
theorem laws_eqIntS.mono_l : ∀ k, (∀ y0 y1 y2, LeO (laws_eqIntS.l0 k y0 y1 y2) (laws_eqIntS.l0 (k + 1) y0 y1 y2))
 | 0 => fun _ _ _ r h => by simp [laws_eqIntS.l0] at h
 | k + 1 => by
  have ih0 := laws_eqIntS.mono_l k
  ·intro y0 y1 y2
   unfold laws_eqIntS.l0
   with_reducible repeat' first | exact ih0 _ _ _ | exact lrz _ | exact lnz _ | refine liz ?_ ?_ | refine lbz ?_ fun _ => ?_
theorem laws_eqIntS.mono : ∀ a0 a1 k, LeO (laws_eqIntS.f k a0 a1) (laws_eqIntS.f (k + 1) a0 a1) := by
 intro a0 a1 k
 have ih0 := laws_eqIntS.mono_l k
 unfold laws_eqIntS.f
 with_reducible repeat' first | exact ih0 _ _ _ | exact lrz _ | exact lnz _ | refine liz ?_ ?_ | refine lbz ?_ fun _ => ?_
set_option maxHeartbeats 8000000 in
set_option maxRecDepth 100000 in
theorem laws_eqIntS.calls (k : Nat) (A0 : Option Addr) (c0 : Nat) (l0 : List Int) (A1 : Option Addr) (c1 : Nat) (l1 : List Int) (r : Bool) (w : World) (hr0 : Kd.C (Kd.int .i64) w A0 l0.length l0) (hc0 : l0.length <= c0) (hr1 : Kd.C (Kd.int .i64) w A1 l1.length l1) (hc1 : l1.length <= c1) (h : laws_eqIntS.f k l0 l1 = some r) :
  Calls Try.prog 10 #[.slice A0 l0.length c0, .slice A1 l1.length c1] w fun e w' => e = .returned (.bool r) /\ Drawn0 w w' := by
 have HR0 := Aside0.mk hr0
 have HC0 := Aside0.mk hc0
 clear hr0 hc0
 have HR1 := Aside0.mk hr1
 have HC1 := Aside0.mk hc1
 clear hr1 hc1
 have H : (if (l0.length : Int) = (l1.length : Int) then (laws_eqIntS.l0 k l0 l1 0) else (some false)) = some r := h
 clear h
 by_cases c3 : (l0.length : Int) = (l1.length : Int)
 ·rw [if_pos c3] at H
  have c3b0 : ((l0.length : Int) == (l1.length : Int)) = true := beq_iff_eq.mpr c3
  have c3b1 : ((l0.length : Int) != (l1.length : Int)) = false := bne_eq_false_iff_eq.mpr c3
  have c3b2 : (l0.length == l1.length) = true := by first | simpa using c3 | (simp at c3 ⊢; omega)
  clear c3
  have H' := Aside0.mk H
  clear H
  go_enter Try.func10, Try.ntmps10
  go_wp2
  repeat (go_quiet (fail); try go_wp2)
  go_loopg [5] k (fun kq v5 w' => ∃ (x5_1 : Int), v5 = .int .i64 x5_1 /\ Aside0 (laws_eqIntS.l0 kq l0 l1 x5_1 = some r) /\ Aside0 (kq <= k) /\ Drawn0 w w')
  case atStart => exact ⟨(0), ez, H', ⟨Nat.le_refl _⟩, dz⟩
  case round =>
   clear H'
   try clear c1
   try clear p2
   try clear c3
   try clear c3b0
   try clear c3b1
   try clear c3b2
   obtain ⟨x5_1, rfl, HA, HK1, ⟨m1, rfl⟩⟩ := hrel
   cases gk with
   | zero => exact absurd HA.out (by simp [laws_eqIntS.l0])
   | succ k1 =>
    have H := HA.out
    clear HA
    simp only [laws_eqIntS.l0] at H
    by_cases c4 : x5_1 < (l0.length : Int)
    ·rw [if_pos c4] at H
     have c4b0 := decide_eq_true c4
     clear c4
     replace H := iz H
     obtain ⟨c5, H⟩ := H
     have c5b0 := decide_eq_true c5
     clear c5
     replace H := iz H
     obtain ⟨c6, H⟩ := H
     have c6b0 := decide_eq_true c6
     clear c6
     by_cases c7 : (rd l0 x5_1) = (rd l1 x5_1)
     ·rw [if_pos c7] at H
      have c7b0 : ((rd l0 x5_1) == (rd l1 x5_1)) = true := beq_iff_eq.mpr c7
      have c7b1 : ((rd l0 x5_1) != (rd l1 x5_1)) = false := bne_eq_false_iff_eq.mpr c7
      clear c7
      have H' := Aside0.mk H
      clear H
      have p123 : 0 <= (x5_1 : Int) := oz
      have q123 : x5_1 < (l0.length : Int) := oz
      obtain ⟨ad123, e123, hx123_0⟩ := Kd.at_int HR0.out x5_1 p123 q123
      cases e123
      replace p123 := eq_true p123
      replace q123 := eq_true q123
      have p124 : 0 <= (x5_1 : Int) := oz
      have q124 : x5_1 < (l1.length : Int) := oz
      obtain ⟨ad124, e124, hx124_0⟩ := Kd.at_int HR1.out x5_1 p124 q124
      cases e124
      replace p124 := eq_true p124
      replace q124 := eq_true q124
      go_wp2
      repeat (go_quiet (fail); try go_wp2)
      go_roundg k1
      case measure => have := HK1.out; omega
      case rel => exact ⟨(wrap64 (x5_1 + 1)), ez, H', ⟨by have := HK1.out; omega⟩, dz⟩
     ·rw [if_neg c7] at H
      have c7b0 : ((rd l0 x5_1) == (rd l1 x5_1)) = false := beq_eq_false_iff_ne.mpr c7
      have c7b1 : ((rd l0 x5_1) != (rd l1 x5_1)) = true := bne_iff_ne.mpr c7
      obtain rfl := Option.some.inj H
      have p123 : 0 <= (x5_1 : Int) := oz
      have q123 : x5_1 < (l0.length : Int) := oz
      obtain ⟨ad123, e123, hx123_0⟩ := Kd.at_int HR0.out x5_1 p123 q123
      cases e123
      replace p123 := eq_true p123
      replace q123 := eq_true q123
      have p124 : 0 <= (x5_1 : Int) := oz
      have q124 : x5_1 < (l1.length : Int) := oz
      obtain ⟨ad124, e124, hx124_0⟩ := Kd.at_int HR1.out x5_1 p124 q124
      cases e124
      replace p124 := eq_true p124
      replace q124 := eq_true q124
      go_wp2
      repeat (go_quiet (fail); try go_wp2)
      go_ret
      exact ⟨e2z, dz⟩
    ·rw [if_neg c4] at H
     have c4b0 := decide_eq_false c4
     clear c4
     obtain rfl := Option.some.inj H
     go_wp2
     repeat (go_quiet (fail); try go_wp2)
     go_ret
     exact ⟨e2z, dz⟩
 ·rw [if_neg c3] at H
  have c3b0 : ((l0.length : Int) == (l1.length : Int)) = false := beq_eq_false_iff_ne.mpr c3
  have c3b1 : ((l0.length : Int) != (l1.length : Int)) = true := bne_iff_ne.mpr c3
  have c3b2 : (l0.length == l1.length) = false := by first | simpa using c3 | (simp at c3 ⊢; omega)
  obtain rfl := Option.some.inj H
  go_enter Try.func10, Try.ntmps10
  go_wp2
  repeat (go_quiet (fail); try go_wp2)
  go_ret
  exact ⟨e2z, dz⟩
end Go.Proofs.Ytlhofeikcaejpaa.PFnExactKids
