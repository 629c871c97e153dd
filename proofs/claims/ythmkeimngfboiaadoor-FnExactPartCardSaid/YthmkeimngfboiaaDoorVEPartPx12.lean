/- PFnExactPartx12, of the words and walks that the law FnExactPart needs; made by this session's program out of printed texts. -/

import Derived.Test.YthmkeimngfboiaaDoorVEPartPx0
import Derived.Test.YthmkeimngfboiaaDoorVEPartPx2
namespace Go.Proofs.YthmkeimngfboiaaDoor.PFnExactPart
open Go.RowKit Go.Proofs.YthmkeimngfboiaaDoorW.PrintWords Go.Proofs.YthmkeimngfboiaaDoorW.PrintLast Go.Proofs.YthmkeimngfboiaaDoorW.PrintMore
attribute [local go_sem] max2_int min2_int max_two min_two max_three min_three max_four min_four
set_option linter.unusedVariables false
set_option linter.unusedSimpArgs false
def laws_heldNodeS.l0 : Nat → List (S54) → Int → Int → Option (Int)
 | 0, _, _, _ => none
 | k + 1, x0, x1, x5 => if x5 < (x0.length : Int) then (if 0 ≤ x5 then (if ((rd_T54 x0 x5).f0) = x1 then (if ((rd_T54 x0 x5).f1) = (wrap64 (x1 + 1)) then (if ((rd_T54 x0 x5).f2) = (wrap64 ((wrap64 (x1 + 1)) + 1)) then (if ((rd_T54 x0 x5).f3) = (wrap64 ((wrap64 ((wrap64 (x1 + 1)) + 1)) + 1)) then (if ((rd_T54 x0 x5).f4) = (wrap64 ((wrap64 ((wrap64 ((wrap64 (x1 + 1)) + 1)) + 1)) + 1)) then ((laws_markText.f k (wrap64 ((wrap64 ((wrap64 ((wrap64 ((wrap64 (x1 + 1)) + 1)) + 1)) + 1)) + 1))).bind fun t328 => (if ((rd_T54 x0 x5).f5).toList = t328.toList then ((laws_markText.f k (wrap64 ((wrap64 ((wrap64 ((wrap64 ((wrap64 ((wrap64 (x1 + 1)) + 1)) + 1)) + 1)) + 1)) + 1))).bind fun t330 => (if ((rd_T54 x0 x5).f6).toList = t330.toList then (laws_heldNodeS.l0 k x0 (wrap64 ((wrap64 ((wrap64 ((wrap64 ((wrap64 ((wrap64 ((wrap64 (x1 + 1)) + 1)) + 1)) + 1)) + 1)) + 1)) + 1)) (wrap64 (x5 + 1))) else (some (-1)))) else (some (-1)))) else (some (-1))) else (some (-1))) else (some (-1))) else (some (-1))) else (some (-1))) else (none)) else (some x1)
def laws_heldNodeS.f (k : Nat) (l0 : List (S54)) (a1 : Int) : Option (Int) := laws_heldNodeS.l0 k l0 a1 0
theorem laws_heldNodeS.mono_l : ∀ k, (∀ y0 y1 y2, LeO (laws_heldNodeS.l0 k y0 y1 y2) (laws_heldNodeS.l0 (k + 1) y0 y1 y2))
 | 0 => fun _ _ _ r h => by simp [laws_heldNodeS.l0] at h
 | k + 1 => by
  have ih0 := laws_heldNodeS.mono_l k
  ·intro y0 y1 y2
   unfold laws_heldNodeS.l0
   repeat' first
   | (with_reducible exact ih0 _ _ _)
   | (with_reducible exact laws_markText.mono _ _)
   | (with_reducible exact LeO.refl _)
   | (with_reducible exact LeO.none _)
   | (with_reducible refine LeO.ite ?_ ?_)
   | (with_reducible refine LeO.bind ?_ (fun _ => ?_))
   | exact ih0 _ _ _
   | exact laws_markText.mono _ _
   | exact LeO.none _
   | refine LeO.ite ?_ ?_
   | refine LeO.bind ?_ (fun _ => ?_)
theorem laws_heldNodeS.mono : ∀ a0 a1 k, LeO (laws_heldNodeS.f k a0 a1) (laws_heldNodeS.f (k + 1) a0 a1) := by
 intro a0 a1 k
 have ih0 := laws_heldNodeS.mono_l k
 unfold laws_heldNodeS.f
 repeat' first
   | (with_reducible exact ih0 _ _ _)
   | (with_reducible exact laws_markText.mono _ _)
   | (with_reducible exact LeO.refl _)
   | (with_reducible exact LeO.none _)
   | (with_reducible refine LeO.ite ?_ ?_)
   | (with_reducible refine LeO.bind ?_ (fun _ => ?_))
   | exact ih0 _ _ _
   | exact laws_markText.mono _ _
   | exact LeO.none _
   | refine LeO.ite ?_ ?_
   | refine LeO.bind ?_ (fun _ => ?_)
def laws_heldNodeS.T19 : Bool × List (List Nat × List Nat) := (true, [([], []), ([], []), ([0, 1], [0, 1]), ([2], [2]), ([3], [3]), ([], []), ([5], [5]), ([4, 6], [4, 6])])
def laws_heldNodeS.B19 : List Nat := [0, 0, 3, 7, 15, 0, 32, 127]
theorem laws_heldNodeS.tab19 : rtab .any (opsOf Tryd.f33 19) = laws_heldNodeS.T19 := by kernel_rfl
theorem laws_heldNodeS.bits19 : waitsOk laws_heldNodeS.T19.2 laws_heldNodeS.B19 = true := by kernel_rfl
def laws_heldNodeS.T22 : Bool × List (List Nat × List Nat) := (true, [([], []), ([], []), ([0, 1], [0, 1]), ([2], [2]), ([3], [3]), ([], []), ([5], [5]), ([4, 6], [4, 6])])
def laws_heldNodeS.B22 : List Nat := [0, 0, 3, 7, 15, 0, 32, 127]
theorem laws_heldNodeS.tab22 : rtab .any (opsOf Tryd.f33 22) = laws_heldNodeS.T22 := by kernel_rfl
theorem laws_heldNodeS.bits22 : waitsOk laws_heldNodeS.T22.2 laws_heldNodeS.B22 = true := by kernel_rfl
set_option maxHeartbeats 8000000 in
set_option maxRecDepth 100000 in
theorem laws_heldNodeS.calls (k : Nat) (A0 : Option Addr) (c0 : Nat) (l0 : List (S54)) (a1 : Int) (r : Int) (w : World) (hr0 : Kd.C k54 w A0 l0.length l0) (hc0 : l0.length ≤ c0) (h : laws_heldNodeS.f k l0 a1 = some r) :
  Calls Tryd.prog 33 #[.slice A0 l0.length c0, .int .i64 a1] w fun e w' => e = .returned (.int .i64 r) ∧ Below w.heap.size w w' := by
 have HR0 := Aside0.mk hr0
 have HC0 := Aside0.mk hc0
 clear hr0 hc0
 have HB := Aside0.mk (Below.refl w.heap.size w)
 have H : (laws_heldNodeS.l0 k l0 a1 0) = some r := h
 clear h
 have H' := Aside0.mk H
 clear H
 go_enter Tryd.func33, Tryd.ntmps33
 go_wp2
 go_loopg [1, 5] k (fun kq v1 v5 w' => ∃ (x1_1 : Int) (x5_1 : Int), v1 = .int .i64 x1_1 ∧ v5 = .int .i64 x5_1 ∧ Aside0 (laws_heldNodeS.l0 kq l0 x1_1 x5_1 = some r) ∧ Aside0 (kq ≤ k) ∧ Aside0 (Below w.heap.size w w'))
 case atStart => exact ⟨(a1), (0), ez, ez, H', ⟨Nat.le_refl _⟩, ⟨(bz0 HB.out)⟩⟩
 case round =>
  clear H'
  try clear p2
  obtain ⟨x1_1, x5_1, rfl, rfl, HA, HK1, HB⟩ := hrel
  cases gk with
  | zero => exact absurd HA.out (by simp [laws_heldNodeS.l0])
  | succ k1 =>
   have H := HA.out
   clear HA
   simp only [laws_heldNodeS.l0] at H
   by_cases c3 : x5_1 < (l0.length : Int)
   ·rw [if_pos c3] at H
    have c3b0 : decide (x5_1 < (l0.length : Int)) = true := decide_eq_true c3
    clear c3
    by_cases c4 : 0 ≤ x5_1
    ·rw [if_pos c4] at H
     have c4b0 : decide (0 ≤ x5_1) = true := decide_eq_true c4
     clear c4
     by_cases c5 : ((rd_T54 l0 x5_1).f0) = x1_1
     ·rw [if_pos c5] at H
      have c5b0 : (((rd_T54 l0 x5_1).f0) == x1_1) = true := beq_iff_eq.mpr c5
      have c5b1 : (((rd_T54 l0 x5_1).f0) != x1_1) = false := bne_eq_false_iff_eq.mpr c5
      clear c5
      by_cases c6 : ((rd_T54 l0 x5_1).f1) = (wrap64 (x1_1 + 1))
      ·rw [if_pos c6] at H
       have c6b0 : (((rd_T54 l0 x5_1).f1) == (wrap64 (x1_1 + 1))) = true := beq_iff_eq.mpr c6
       have c6b1 : (((rd_T54 l0 x5_1).f1) != (wrap64 (x1_1 + 1))) = false := bne_eq_false_iff_eq.mpr c6
       clear c6
       by_cases c7 : ((rd_T54 l0 x5_1).f2) = (wrap64 ((wrap64 (x1_1 + 1)) + 1))
       ·rw [if_pos c7] at H
        have c7b0 : (((rd_T54 l0 x5_1).f2) == (wrap64 ((wrap64 (x1_1 + 1)) + 1))) = true := beq_iff_eq.mpr c7
        have c7b1 : (((rd_T54 l0 x5_1).f2) != (wrap64 ((wrap64 (x1_1 + 1)) + 1))) = false := bne_eq_false_iff_eq.mpr c7
        clear c7
        by_cases c8 : ((rd_T54 l0 x5_1).f3) = (wrap64 ((wrap64 ((wrap64 (x1_1 + 1)) + 1)) + 1))
        ·rw [if_pos c8] at H
         have c8b0 : (((rd_T54 l0 x5_1).f3) == (wrap64 ((wrap64 ((wrap64 (x1_1 + 1)) + 1)) + 1))) = true := beq_iff_eq.mpr c8
         have c8b1 : (((rd_T54 l0 x5_1).f3) != (wrap64 ((wrap64 ((wrap64 (x1_1 + 1)) + 1)) + 1))) = false := bne_eq_false_iff_eq.mpr c8
         clear c8
         by_cases c9 : ((rd_T54 l0 x5_1).f4) = (wrap64 ((wrap64 ((wrap64 ((wrap64 (x1_1 + 1)) + 1)) + 1)) + 1))
         ·rw [if_pos c9] at H
          have c9b0 : (((rd_T54 l0 x5_1).f4) == (wrap64 ((wrap64 ((wrap64 ((wrap64 (x1_1 + 1)) + 1)) + 1)) + 1))) = true := beq_iff_eq.mpr c9
          have c9b1 : (((rd_T54 l0 x5_1).f4) != (wrap64 ((wrap64 ((wrap64 ((wrap64 (x1_1 + 1)) + 1)) + 1)) + 1))) = false := bne_eq_false_iff_eq.mpr c9
          clear c9
          replace H := Option.bind_eq_some_iff.mp H
          obtain ⟨t328, A100, H⟩ := H
          replace H : (if ((rd_T54 l0 x5_1).f5).toList = t328.toList then ((laws_markText.f k1 (wrap64 ((wrap64 ((wrap64 ((wrap64 ((wrap64 ((wrap64 (x1_1 + 1)) + 1)) + 1)) + 1)) + 1)) + 1))).bind fun t330 => (if ((rd_T54 l0 x5_1).f6).toList = t330.toList then (laws_heldNodeS.l0 k1 l0 (wrap64 ((wrap64 ((wrap64 ((wrap64 ((wrap64 ((wrap64 ((wrap64 (x1_1 + 1)) + 1)) + 1)) + 1)) + 1)) + 1)) + 1)) (wrap64 (x5_1 + 1))) else (some (-1)))) else (some (-1))) = some r := H
          have A10 := Aside0.mk A100
          clear A100
          by_cases c11 : ((rd_T54 l0 x5_1).f5).toList = t328.toList
          ·rw [if_pos c11] at H
           have c11b0 : (((rd_T54 l0 x5_1).f5).toList == t328.toList) = true := beq_iff_eq.mpr c11
           have c11b1 : (((rd_T54 l0 x5_1).f5).toList != t328.toList) = false := bne_eq_false_iff_eq.mpr c11
           clear c11
           replace H := Option.bind_eq_some_iff.mp H
           obtain ⟨t330, A120, H⟩ := H
           replace H : (if ((rd_T54 l0 x5_1).f6).toList = t330.toList then (laws_heldNodeS.l0 k1 l0 (wrap64 ((wrap64 ((wrap64 ((wrap64 ((wrap64 ((wrap64 ((wrap64 (x1_1 + 1)) + 1)) + 1)) + 1)) + 1)) + 1)) + 1)) (wrap64 (x5_1 + 1))) else (some (-1))) = some r := H
           have A12 := Aside0.mk A120
           clear A120
           by_cases c13 : ((rd_T54 l0 x5_1).f6).toList = t330.toList
           ·rw [if_pos c13] at H
            have c13b0 : (((rd_T54 l0 x5_1).f6).toList == t330.toList) = true := beq_iff_eq.mpr c13
            have c13b1 : (((rd_T54 l0 x5_1).f6).toList != t330.toList) = false := bne_eq_false_iff_eq.mpr c13
            clear c13
            have H' := Aside0.mk H
            clear H
            have p322 : 0 ≤ (x5_1 : Int) := of_decide_eq_true az
            have q322 : x5_1 < (l0.length : Int) := of_decide_eq_true az
            obtain ⟨ad322, e322, hx322_0, hx322_1, hx322_2, hx322_3, hx322_4, hx322_5, hx322_6⟩ := at_T54 HR0.out x5_1 p322 q322
            cases e322
            replace hx322_0 := hz HB.out hx322_0
            replace hx322_1 := hz HB.out hx322_1
            replace hx322_2 := hz HB.out hx322_2
            replace hx322_3 := hz HB.out hx322_3
            replace hx322_4 := hz HB.out hx322_4
            replace hx322_5 := hz HB.out hx322_5
            replace hx322_6 := hz HB.out hx322_6
            replace p322 := eq_true p322
            replace q322 := eq_true q322
            have p323 : 0 ≤ (x5_1 : Int) := of_decide_eq_true az
            have q323 : x5_1 < (l0.length : Int) := of_decide_eq_true az
            obtain ⟨ad323, e323, hx323_0, hx323_1, hx323_2, hx323_3, hx323_4, hx323_5, hx323_6⟩ := at_T54 HR0.out x5_1 p323 q323
            obtain rfl : ad322 = ad323 := (by injection e323)
            replace hx323_0 := hz HB.out hx323_0
            replace hx323_1 := hz HB.out hx323_1
            replace hx323_2 := hz HB.out hx323_2
            replace hx323_3 := hz HB.out hx323_3
            replace hx323_4 := hz HB.out hx323_4
            replace hx323_5 := hz HB.out hx323_5
            replace hx323_6 := hz HB.out hx323_6
            replace p323 := eq_true p323
            replace q323 := eq_true q323
            have p324 : 0 ≤ (x5_1 : Int) := of_decide_eq_true az
            have q324 : x5_1 < (l0.length : Int) := of_decide_eq_true az
            obtain ⟨ad324, e324, hx324_0, hx324_1, hx324_2, hx324_3, hx324_4, hx324_5, hx324_6⟩ := at_T54 HR0.out x5_1 p324 q324
            obtain rfl : ad322 = ad324 := (by injection e324)
            replace hx324_0 := hz HB.out hx324_0
            replace hx324_1 := hz HB.out hx324_1
            replace hx324_2 := hz HB.out hx324_2
            replace hx324_3 := hz HB.out hx324_3
            replace hx324_4 := hz HB.out hx324_4
            replace hx324_5 := hz HB.out hx324_5
            replace hx324_6 := hz HB.out hx324_6
            replace p324 := eq_true p324
            replace q324 := eq_true q324
            have p325 : 0 ≤ (x5_1 : Int) := of_decide_eq_true az
            have q325 : x5_1 < (l0.length : Int) := of_decide_eq_true az
            obtain ⟨ad325, e325, hx325_0, hx325_1, hx325_2, hx325_3, hx325_4, hx325_5, hx325_6⟩ := at_T54 HR0.out x5_1 p325 q325
            obtain rfl : ad322 = ad325 := (by injection e325)
            replace hx325_0 := hz HB.out hx325_0
            replace hx325_1 := hz HB.out hx325_1
            replace hx325_2 := hz HB.out hx325_2
            replace hx325_3 := hz HB.out hx325_3
            replace hx325_4 := hz HB.out hx325_4
            replace hx325_5 := hz HB.out hx325_5
            replace hx325_6 := hz HB.out hx325_6
            replace p325 := eq_true p325
            replace q325 := eq_true q325
            have p326 : 0 ≤ (x5_1 : Int) := of_decide_eq_true az
            have q326 : x5_1 < (l0.length : Int) := of_decide_eq_true az
            obtain ⟨ad326, e326, hx326_0, hx326_1, hx326_2, hx326_3, hx326_4, hx326_5, hx326_6⟩ := at_T54 HR0.out x5_1 p326 q326
            obtain rfl : ad322 = ad326 := (by injection e326)
            replace hx326_0 := hz HB.out hx326_0
            replace hx326_1 := hz HB.out hx326_1
            replace hx326_2 := hz HB.out hx326_2
            replace hx326_3 := hz HB.out hx326_3
            replace hx326_4 := hz HB.out hx326_4
            replace hx326_5 := hz HB.out hx326_5
            replace hx326_6 := hz HB.out hx326_6
            replace p326 := eq_true p326
            replace q326 := eq_true q326
            try go_wp2
            have n0_ := Aside0.mk (below_drew1 HB.out)
            clear HB
            have HB := n0_
            clear n0_
            have p327 : 0 ≤ (x5_1 : Int) := of_decide_eq_true az
            have q327 : x5_1 < (l0.length : Int) := of_decide_eq_true az
            obtain ⟨ad327, e327, hx327_0, hx327_1, hx327_2, hx327_3, hx327_4, hx327_5, hx327_6⟩ := at_T54 HR0.out x5_1 p327 q327
            have hw327_6 := hx327_6
            have hw327_5 := hx327_5
            have hw327_4 := hx327_4
            have hw327_3 := hx327_3
            have hw327_2 := hx327_2
            have hw327_1 := hx327_1
            have hw327_0 := hx327_0
            obtain rfl : ad322 = ad327 := (by injection e327)
            replace hx327_0 := hz HB.out hx327_0
            replace hx327_1 := hz HB.out hx327_1
            replace hx327_2 := hz HB.out hx327_2
            replace hx327_3 := hz HB.out hx327_3
            replace hx327_4 := hz HB.out hx327_4
            replace hx327_5 := hz HB.out hx327_5
            replace hx327_6 := hz HB.out hx327_6
            replace p327 := eq_true p327
            replace q327 := eq_true q327
            refine start_ (n := 8) (S := fun w' => w'.cell? (ad322.add ((x5_1).toNat * 7)) = some (.int .i64 ((rd_T54 l0 x5_1).f0)) ∧ w'.cell? ⟨(ad322.add ((x5_1).toNat * 7)).block, (ad322.add ((x5_1).toNat * 7)).off + 1, none⟩ = some (.int .i64 ((rd_T54 l0 x5_1).f1)) ∧ w'.cell? ⟨(ad322.add ((x5_1).toNat * 7)).block, (ad322.add ((x5_1).toNat * 7)).off + 2, none⟩ = some (.int .i64 ((rd_T54 l0 x5_1).f2)) ∧ w'.cell? ⟨(ad322.add ((x5_1).toNat * 7)).block, (ad322.add ((x5_1).toNat * 7)).off + 3, none⟩ = some (.int .i64 ((rd_T54 l0 x5_1).f3)) ∧ w'.cell? ⟨(ad322.add ((x5_1).toNat * 7)).block, (ad322.add ((x5_1).toNat * 7)).off + 4, none⟩ = some (.int .i64 ((rd_T54 l0 x5_1).f4)) ∧ w'.cell? ⟨(ad322.add ((x5_1).toNat * 7)).block, (ad322.add ((x5_1).toNat * 7)).off + 5, none⟩ = some (.string ((rd_T54 l0 x5_1).f5)) ∧ w'.cell? ⟨(ad322.add ((x5_1).toNat * 7)).block, (ad322.add ((x5_1).toNat * 7)).off + 6, none⟩ = some (.string ((rd_T54 l0 x5_1).f6))) (ds := []) #[false, false, false, false, false, false, false, false] (by kernel_rfl) rfl rfl ⟨(hz HB.out hw327_0), (hz HB.out hw327_1), (hz HB.out hw327_2), (hz HB.out hw327_3), (hz HB.out hw327_4), (hz HB.out hw327_5), (hz HB.out hw327_6)⟩ (fun hHeld => ?_); refine with_tabW laws_heldNodeS.tab19 laws_heldNodeS.bits19 (fun HT_ HW_ => ?_)
            generalize wr.drew = w14 at HB hx327_0 hx327_1 hx327_2 hx327_3 hx327_4 hx327_5 hx327_6 hHeld ⊢
            refine pure_ (i := 0) (N := some 57) (v := ?_) (a' := ?_) #[true, false, false, false, false, false, false, false] rfl rfl (any_of HT_.out (by kernel_rfl)) (fun _ _ _ h => h) (Or.inl ⟨by rfl, ?_⟩) ?_ ?_
            rotate_left
            ·intro w'
             go_simp
             with_reducible rfl
            rotate_left
            ·simp only [Act.put, List.setIfInBounds_toArray, List.set_cons_zero, List.set_cons_succ, i64_w, i32_w]
             rfl
            refine pure_ (i := 1) (N := some 58) (v := ?_) (a' := ?_) #[true, true, false, false, false, false, false, false] rfl rfl (any_of HT_.out (by kernel_rfl)) (fun _ _ _ h => h) (Or.inl ⟨by rfl, ?_⟩) ?_ ?_
            rotate_left
            ·intro w'
             go_simp
             with_reducible rfl
            rotate_left
            ·simp only [Act.put, List.setIfInBounds_toArray, List.set_cons_zero, List.set_cons_succ, i64_w, i32_w]
             rfl
            refine pure_ (i := 2) (N := some 59) (v := ?_) (a' := ?_) #[true, true, true, false, false, false, false, false] rfl rfl (any_of HT_.out (by kernel_rfl)) (fun _ _ _ h => h) (Or.inl ⟨by rfl, ?_⟩) ?_ ?_
            rotate_left
            ·intro w'
             go_simp
             with_reducible rfl
            rotate_left
            ·simp only [Act.put, List.setIfInBounds_toArray, List.set_cons_zero, List.set_cons_succ, i64_w, i32_w]
             rfl
            refine pure_ (i := 3) (N := some 60) (v := ?_) (a' := ?_) #[true, true, true, true, false, false, false, false] rfl rfl (any_of HT_.out (by kernel_rfl)) (fun _ _ _ h => h) (Or.inl ⟨by rfl, ?_⟩) ?_ ?_
            rotate_left
            ·intro w'
             go_simp
             with_reducible rfl
            rotate_left
            ·simp only [Act.put, List.setIfInBounds_toArray, List.set_cons_zero, List.set_cons_succ, i64_w, i32_w]
             rfl
            refine pure_ (i := 5) (N := some 62) (v := ?_) (a' := ?_) #[true, true, true, true, false, true, false, false] rfl rfl (any_of HT_.out (by kernel_rfl)) (fun _ _ _ h => h) (Or.inl ⟨by rfl, ?_⟩) ?_ ?_
            rotate_left
            ·intro w'
             go_simp
             with_reducible rfl
            rotate_left
            ·simp only [Act.put, List.setIfInBounds_toArray, List.set_cons_zero, List.set_cons_succ, i64_w, i32_w]
             rfl
            refine take_ (i := 4) (N := some 61) (v := ?_) (a' := ?_) #[true, true, true, true, true, true, false, false] rfl rfl (take_ofW HT_.out HW_.out (by kernel_rfl)) (fun _ _ _ h => h) (Or.inl ⟨by rfl, ?_⟩) hHeld ?_ ?_
            rotate_left
            ·rintro w' ⟨s0, s1, s2, s3, s4, s5, s6⟩
             go_simp
             with_reducible rfl
            rotate_left
            ·simp only [Act.put, List.setIfInBounds_toArray, List.set_cons_zero, List.set_cons_succ, i64_w, i32_w]
             rfl
            refine one_ (i := 6) (N := some 63) #[true, true, true, true, true, true, true, false] rfl rfl (one_of HT_.out (by kernel_rfl)) (by decide) (fun K hK => ?_)
            refine goes_ Tryd.func55 (by kernel_rfl) rfl #[.int .i64 (wrap64 ((wrap64 ((wrap64 ((wrap64 ((wrap64 (x1_1 + 1)) + 1)) + 1)) + 1)) + 1))] (by rfl) rfl rfl lz ?_
            with_reducible refine (laws_markText.calls k1 (wrap64 ((wrap64 ((wrap64 ((wrap64 ((wrap64 (x1_1 + 1)) + 1)) + 1)) + 1)) + 1)) t328 _ A10.out).mono ?_
            rintro e w15 ⟨rfl, hb⟩
            refine ⟨_, rfl, ?_⟩
            have n0_ := Aside0.mk (below_step (bz0 HB.out) hb)
            clear HB
            have HB := n0_
            clear n0_
            (try clear hb)
            (try clear hb2)
            (try clear hk)
            (try clear hi)
            refine hK.out _ _ ⟨(hz HB.out hw327_0), (hz HB.out hw327_1), (hz HB.out hw327_2), (hz HB.out hw327_3), (hz HB.out hw327_4), (hz HB.out hw327_5), (hz HB.out hw327_6)⟩ (fun hHeld => ?_)
            clear hK K
            refine norm_ (a' := ?_) ?_ ?_
            rotate_left
            ·show Act.put _ (some 63) _ = _
             simp only [Act.put, List.setIfInBounds_toArray, List.set_cons_zero, List.set_cons_succ, i64_w, i32_w]
             rfl
            refine pure_ (i := 7) (N := some 64) (v := ?_) (a' := ?_) #[true, true, true, true, true, true, true, true] rfl rfl (any_of HT_.out (by kernel_rfl)) (fun _ _ _ h => h) (Or.inl ⟨by rfl, ?_⟩) ?_ ?_
            rotate_left
            ·intro w'
             go_simp
             with_reducible rfl
            rotate_left
            ·simp only [Act.put, List.setIfInBounds_toArray, List.set_cons_zero, List.set_cons_succ, i64_w, i32_w]
             rfl
            refine done_ (done_of HT_.out (by kernel_rfl)) ?_
            try go_wp2
            have n0_ := Aside0.mk (below_drew1 HB.out)
            clear HB
            have HB := n0_
            clear n0_
            have p329 : 0 ≤ (x5_1 : Int) := of_decide_eq_true az
            have q329 : x5_1 < (l0.length : Int) := of_decide_eq_true az
            obtain ⟨ad329, e329, hx329_0, hx329_1, hx329_2, hx329_3, hx329_4, hx329_5, hx329_6⟩ := at_T54 HR0.out x5_1 p329 q329
            have hw329_6 := hx329_6
            have hw329_5 := hx329_5
            have hw329_4 := hx329_4
            have hw329_3 := hx329_3
            have hw329_2 := hx329_2
            have hw329_1 := hx329_1
            have hw329_0 := hx329_0
            obtain rfl : ad322 = ad329 := (by injection e329)
            replace hx329_0 := hz HB.out hx329_0
            replace hx329_1 := hz HB.out hx329_1
            replace hx329_2 := hz HB.out hx329_2
            replace hx329_3 := hz HB.out hx329_3
            replace hx329_4 := hz HB.out hx329_4
            replace hx329_5 := hz HB.out hx329_5
            replace hx329_6 := hz HB.out hx329_6
            replace p329 := eq_true p329
            replace q329 := eq_true q329
            refine start_ (n := 8) (S := fun w' => w'.cell? (ad322.add ((x5_1).toNat * 7)) = some (.int .i64 ((rd_T54 l0 x5_1).f0)) ∧ w'.cell? ⟨(ad322.add ((x5_1).toNat * 7)).block, (ad322.add ((x5_1).toNat * 7)).off + 1, none⟩ = some (.int .i64 ((rd_T54 l0 x5_1).f1)) ∧ w'.cell? ⟨(ad322.add ((x5_1).toNat * 7)).block, (ad322.add ((x5_1).toNat * 7)).off + 2, none⟩ = some (.int .i64 ((rd_T54 l0 x5_1).f2)) ∧ w'.cell? ⟨(ad322.add ((x5_1).toNat * 7)).block, (ad322.add ((x5_1).toNat * 7)).off + 3, none⟩ = some (.int .i64 ((rd_T54 l0 x5_1).f3)) ∧ w'.cell? ⟨(ad322.add ((x5_1).toNat * 7)).block, (ad322.add ((x5_1).toNat * 7)).off + 4, none⟩ = some (.int .i64 ((rd_T54 l0 x5_1).f4)) ∧ w'.cell? ⟨(ad322.add ((x5_1).toNat * 7)).block, (ad322.add ((x5_1).toNat * 7)).off + 5, none⟩ = some (.string ((rd_T54 l0 x5_1).f5)) ∧ w'.cell? ⟨(ad322.add ((x5_1).toNat * 7)).block, (ad322.add ((x5_1).toNat * 7)).off + 6, none⟩ = some (.string ((rd_T54 l0 x5_1).f6))) (ds := []) #[false, false, false, false, false, false, false, false] (by kernel_rfl) rfl rfl ⟨(hz HB.out hw329_0), (hz HB.out hw329_1), (hz HB.out hw329_2), (hz HB.out hw329_3), (hz HB.out hw329_4), (hz HB.out hw329_5), (hz HB.out hw329_6)⟩ (fun hHeld => ?_); refine with_tabW laws_heldNodeS.tab22 laws_heldNodeS.bits22 (fun HT_ HW_ => ?_)
            generalize w15.drew = w16 at HB hx329_0 hx329_1 hx329_2 hx329_3 hx329_4 hx329_5 hx329_6 hHeld ⊢
            refine pure_ (i := 0) (N := some 67) (v := ?_) (a' := ?_) #[true, false, false, false, false, false, false, false] rfl rfl (any_of HT_.out (by kernel_rfl)) (fun _ _ _ h => h) (Or.inl ⟨by rfl, ?_⟩) ?_ ?_
            rotate_left
            ·intro w'
             go_simp
             with_reducible rfl
            rotate_left
            ·simp only [Act.put, List.setIfInBounds_toArray, List.set_cons_zero, List.set_cons_succ, i64_w, i32_w]
             rfl
            refine pure_ (i := 1) (N := some 68) (v := ?_) (a' := ?_) #[true, true, false, false, false, false, false, false] rfl rfl (any_of HT_.out (by kernel_rfl)) (fun _ _ _ h => h) (Or.inl ⟨by rfl, ?_⟩) ?_ ?_
            rotate_left
            ·intro w'
             go_simp
             with_reducible rfl
            rotate_left
            ·simp only [Act.put, List.setIfInBounds_toArray, List.set_cons_zero, List.set_cons_succ, i64_w, i32_w]
             rfl
            refine pure_ (i := 2) (N := some 69) (v := ?_) (a' := ?_) #[true, true, true, false, false, false, false, false] rfl rfl (any_of HT_.out (by kernel_rfl)) (fun _ _ _ h => h) (Or.inl ⟨by rfl, ?_⟩) ?_ ?_
            rotate_left
            ·intro w'
             go_simp
             with_reducible rfl
            rotate_left
            ·simp only [Act.put, List.setIfInBounds_toArray, List.set_cons_zero, List.set_cons_succ, i64_w, i32_w]
             rfl
            refine pure_ (i := 3) (N := some 70) (v := ?_) (a' := ?_) #[true, true, true, true, false, false, false, false] rfl rfl (any_of HT_.out (by kernel_rfl)) (fun _ _ _ h => h) (Or.inl ⟨by rfl, ?_⟩) ?_ ?_
            rotate_left
            ·intro w'
             go_simp
             with_reducible rfl
            rotate_left
            ·simp only [Act.put, List.setIfInBounds_toArray, List.set_cons_zero, List.set_cons_succ, i64_w, i32_w]
             rfl
            refine pure_ (i := 5) (N := some 72) (v := ?_) (a' := ?_) #[true, true, true, true, false, true, false, false] rfl rfl (any_of HT_.out (by kernel_rfl)) (fun _ _ _ h => h) (Or.inl ⟨by rfl, ?_⟩) ?_ ?_
            rotate_left
            ·intro w'
             go_simp
             with_reducible rfl
            rotate_left
            ·simp only [Act.put, List.setIfInBounds_toArray, List.set_cons_zero, List.set_cons_succ, i64_w, i32_w]
             rfl
            refine take_ (i := 4) (N := some 71) (v := ?_) (a' := ?_) #[true, true, true, true, true, true, false, false] rfl rfl (take_ofW HT_.out HW_.out (by kernel_rfl)) (fun _ _ _ h => h) (Or.inl ⟨by rfl, ?_⟩) hHeld ?_ ?_
            rotate_left
            ·rintro w' ⟨s0, s1, s2, s3, s4, s5, s6⟩
             go_simp
             with_reducible rfl
            rotate_left
            ·simp only [Act.put, List.setIfInBounds_toArray, List.set_cons_zero, List.set_cons_succ, i64_w, i32_w]
             rfl
            refine one_ (i := 6) (N := some 73) #[true, true, true, true, true, true, true, false] rfl rfl (one_of HT_.out (by kernel_rfl)) (by decide) (fun K hK => ?_)
            refine goes_ Tryd.func55 (by kernel_rfl) rfl #[.int .i64 (wrap64 ((wrap64 ((wrap64 ((wrap64 ((wrap64 ((wrap64 (x1_1 + 1)) + 1)) + 1)) + 1)) + 1)) + 1))] (by rfl) rfl rfl lz ?_
            with_reducible refine (laws_markText.calls k1 (wrap64 ((wrap64 ((wrap64 ((wrap64 ((wrap64 ((wrap64 (x1_1 + 1)) + 1)) + 1)) + 1)) + 1)) + 1)) t330 _ A12.out).mono ?_
            rintro e w17 ⟨rfl, hb⟩
            refine ⟨_, rfl, ?_⟩
            have n0_ := Aside0.mk (below_step (bz0 HB.out) hb)
            clear HB
            have HB := n0_
            clear n0_
            (try clear hb)
            (try clear hb2)
            (try clear hk)
            (try clear hi)
            refine hK.out _ _ ⟨(hz HB.out hw329_0), (hz HB.out hw329_1), (hz HB.out hw329_2), (hz HB.out hw329_3), (hz HB.out hw329_4), (hz HB.out hw329_5), (hz HB.out hw329_6)⟩ (fun hHeld => ?_)
            clear hK K
            refine norm_ (a' := ?_) ?_ ?_
            rotate_left
            ·show Act.put _ (some 73) _ = _
             simp only [Act.put, List.setIfInBounds_toArray, List.set_cons_zero, List.set_cons_succ, i64_w, i32_w]
             rfl
            refine pure_ (i := 7) (N := some 74) (v := ?_) (a' := ?_) #[true, true, true, true, true, true, true, true] rfl rfl (any_of HT_.out (by kernel_rfl)) (fun _ _ _ h => h) (Or.inl ⟨by rfl, ?_⟩) ?_ ?_
            rotate_left
            ·intro w'
             go_simp
             with_reducible rfl
            rotate_left
            ·simp only [Act.put, List.setIfInBounds_toArray, List.set_cons_zero, List.set_cons_succ, i64_w, i32_w]
             rfl
            refine done_ (done_of HT_.out (by kernel_rfl)) ?_
            try go_wp2
            go_roundg k1
            case measure => have := HK1.out; omega
            case rel => exact ⟨(wrap64 ((wrap64 ((wrap64 ((wrap64 ((wrap64 ((wrap64 ((wrap64 (x1_1 + 1)) + 1)) + 1)) + 1)) + 1)) + 1)) + 1)), (wrap64 (x5_1 + 1)), ez, ez, H', ⟨by have := HK1.out; omega⟩, ⟨(bz0 HB.out)⟩⟩
           ·rw [if_neg c13] at H
            have c13b0 : (((rd_T54 l0 x5_1).f6).toList == t330.toList) = false := beq_eq_false_iff_ne.mpr c13
            have c13b1 : (((rd_T54 l0 x5_1).f6).toList != t330.toList) = true := bne_iff_ne.mpr c13
            obtain rfl := Option.some.inj H
            have p322 : 0 ≤ (x5_1 : Int) := of_decide_eq_true az
            have q322 : x5_1 < (l0.length : Int) := of_decide_eq_true az
            obtain ⟨ad322, e322, hx322_0, hx322_1, hx322_2, hx322_3, hx322_4, hx322_5, hx322_6⟩ := at_T54 HR0.out x5_1 p322 q322
            cases e322
            replace hx322_0 := hz HB.out hx322_0
            replace hx322_1 := hz HB.out hx322_1
            replace hx322_2 := hz HB.out hx322_2
            replace hx322_3 := hz HB.out hx322_3
            replace hx322_4 := hz HB.out hx322_4
            replace hx322_5 := hz HB.out hx322_5
            replace hx322_6 := hz HB.out hx322_6
            replace p322 := eq_true p322
            replace q322 := eq_true q322
            have p323 : 0 ≤ (x5_1 : Int) := of_decide_eq_true az
            have q323 : x5_1 < (l0.length : Int) := of_decide_eq_true az
            obtain ⟨ad323, e323, hx323_0, hx323_1, hx323_2, hx323_3, hx323_4, hx323_5, hx323_6⟩ := at_T54 HR0.out x5_1 p323 q323
            obtain rfl : ad322 = ad323 := (by injection e323)
            replace hx323_0 := hz HB.out hx323_0
            replace hx323_1 := hz HB.out hx323_1
            replace hx323_2 := hz HB.out hx323_2
            replace hx323_3 := hz HB.out hx323_3
            replace hx323_4 := hz HB.out hx323_4
            replace hx323_5 := hz HB.out hx323_5
            replace hx323_6 := hz HB.out hx323_6
            replace p323 := eq_true p323
            replace q323 := eq_true q323
            have p324 : 0 ≤ (x5_1 : Int) := of_decide_eq_true az
            have q324 : x5_1 < (l0.length : Int) := of_decide_eq_true az
            obtain ⟨ad324, e324, hx324_0, hx324_1, hx324_2, hx324_3, hx324_4, hx324_5, hx324_6⟩ := at_T54 HR0.out x5_1 p324 q324
            obtain rfl : ad322 = ad324 := (by injection e324)
            replace hx324_0 := hz HB.out hx324_0
            replace hx324_1 := hz HB.out hx324_1
            replace hx324_2 := hz HB.out hx324_2
            replace hx324_3 := hz HB.out hx324_3
            replace hx324_4 := hz HB.out hx324_4
            replace hx324_5 := hz HB.out hx324_5
            replace hx324_6 := hz HB.out hx324_6
            replace p324 := eq_true p324
            replace q324 := eq_true q324
            have p325 : 0 ≤ (x5_1 : Int) := of_decide_eq_true az
            have q325 : x5_1 < (l0.length : Int) := of_decide_eq_true az
            obtain ⟨ad325, e325, hx325_0, hx325_1, hx325_2, hx325_3, hx325_4, hx325_5, hx325_6⟩ := at_T54 HR0.out x5_1 p325 q325
            obtain rfl : ad322 = ad325 := (by injection e325)
            replace hx325_0 := hz HB.out hx325_0
            replace hx325_1 := hz HB.out hx325_1
            replace hx325_2 := hz HB.out hx325_2
            replace hx325_3 := hz HB.out hx325_3
            replace hx325_4 := hz HB.out hx325_4
            replace hx325_5 := hz HB.out hx325_5
            replace hx325_6 := hz HB.out hx325_6
            replace p325 := eq_true p325
            replace q325 := eq_true q325
            have p326 : 0 ≤ (x5_1 : Int) := of_decide_eq_true az
            have q326 : x5_1 < (l0.length : Int) := of_decide_eq_true az
            obtain ⟨ad326, e326, hx326_0, hx326_1, hx326_2, hx326_3, hx326_4, hx326_5, hx326_6⟩ := at_T54 HR0.out x5_1 p326 q326
            obtain rfl : ad322 = ad326 := (by injection e326)
            replace hx326_0 := hz HB.out hx326_0
            replace hx326_1 := hz HB.out hx326_1
            replace hx326_2 := hz HB.out hx326_2
            replace hx326_3 := hz HB.out hx326_3
            replace hx326_4 := hz HB.out hx326_4
            replace hx326_5 := hz HB.out hx326_5
            replace hx326_6 := hz HB.out hx326_6
            replace p326 := eq_true p326
            replace q326 := eq_true q326
            try go_wp2
            have n0_ := Aside0.mk (below_drew1 HB.out)
            clear HB
            have HB := n0_
            clear n0_
            have p327 : 0 ≤ (x5_1 : Int) := of_decide_eq_true az
            have q327 : x5_1 < (l0.length : Int) := of_decide_eq_true az
            obtain ⟨ad327, e327, hx327_0, hx327_1, hx327_2, hx327_3, hx327_4, hx327_5, hx327_6⟩ := at_T54 HR0.out x5_1 p327 q327
            have hw327_6 := hx327_6
            have hw327_5 := hx327_5
            have hw327_4 := hx327_4
            have hw327_3 := hx327_3
            have hw327_2 := hx327_2
            have hw327_1 := hx327_1
            have hw327_0 := hx327_0
            obtain rfl : ad322 = ad327 := (by injection e327)
            replace hx327_0 := hz HB.out hx327_0
            replace hx327_1 := hz HB.out hx327_1
            replace hx327_2 := hz HB.out hx327_2
            replace hx327_3 := hz HB.out hx327_3
            replace hx327_4 := hz HB.out hx327_4
            replace hx327_5 := hz HB.out hx327_5
            replace hx327_6 := hz HB.out hx327_6
            replace p327 := eq_true p327
            replace q327 := eq_true q327
            refine start_ (n := 8) (S := fun w' => w'.cell? (ad322.add ((x5_1).toNat * 7)) = some (.int .i64 ((rd_T54 l0 x5_1).f0)) ∧ w'.cell? ⟨(ad322.add ((x5_1).toNat * 7)).block, (ad322.add ((x5_1).toNat * 7)).off + 1, none⟩ = some (.int .i64 ((rd_T54 l0 x5_1).f1)) ∧ w'.cell? ⟨(ad322.add ((x5_1).toNat * 7)).block, (ad322.add ((x5_1).toNat * 7)).off + 2, none⟩ = some (.int .i64 ((rd_T54 l0 x5_1).f2)) ∧ w'.cell? ⟨(ad322.add ((x5_1).toNat * 7)).block, (ad322.add ((x5_1).toNat * 7)).off + 3, none⟩ = some (.int .i64 ((rd_T54 l0 x5_1).f3)) ∧ w'.cell? ⟨(ad322.add ((x5_1).toNat * 7)).block, (ad322.add ((x5_1).toNat * 7)).off + 4, none⟩ = some (.int .i64 ((rd_T54 l0 x5_1).f4)) ∧ w'.cell? ⟨(ad322.add ((x5_1).toNat * 7)).block, (ad322.add ((x5_1).toNat * 7)).off + 5, none⟩ = some (.string ((rd_T54 l0 x5_1).f5)) ∧ w'.cell? ⟨(ad322.add ((x5_1).toNat * 7)).block, (ad322.add ((x5_1).toNat * 7)).off + 6, none⟩ = some (.string ((rd_T54 l0 x5_1).f6))) (ds := []) #[false, false, false, false, false, false, false, false] (by kernel_rfl) rfl rfl ⟨(hz HB.out hw327_0), (hz HB.out hw327_1), (hz HB.out hw327_2), (hz HB.out hw327_3), (hz HB.out hw327_4), (hz HB.out hw327_5), (hz HB.out hw327_6)⟩ (fun hHeld => ?_); refine with_tabW laws_heldNodeS.tab19 laws_heldNodeS.bits19 (fun HT_ HW_ => ?_)
            generalize wr.drew = w18 at HB hx327_0 hx327_1 hx327_2 hx327_3 hx327_4 hx327_5 hx327_6 hHeld ⊢
            refine pure_ (i := 0) (N := some 57) (v := ?_) (a' := ?_) #[true, false, false, false, false, false, false, false] rfl rfl (any_of HT_.out (by kernel_rfl)) (fun _ _ _ h => h) (Or.inl ⟨by rfl, ?_⟩) ?_ ?_
            rotate_left
            ·intro w'
             go_simp
             with_reducible rfl
            rotate_left
            ·simp only [Act.put, List.setIfInBounds_toArray, List.set_cons_zero, List.set_cons_succ, i64_w, i32_w]
             rfl
            refine pure_ (i := 1) (N := some 58) (v := ?_) (a' := ?_) #[true, true, false, false, false, false, false, false] rfl rfl (any_of HT_.out (by kernel_rfl)) (fun _ _ _ h => h) (Or.inl ⟨by rfl, ?_⟩) ?_ ?_
            rotate_left
            ·intro w'
             go_simp
             with_reducible rfl
            rotate_left
            ·simp only [Act.put, List.setIfInBounds_toArray, List.set_cons_zero, List.set_cons_succ, i64_w, i32_w]
             rfl
            refine pure_ (i := 2) (N := some 59) (v := ?_) (a' := ?_) #[true, true, true, false, false, false, false, false] rfl rfl (any_of HT_.out (by kernel_rfl)) (fun _ _ _ h => h) (Or.inl ⟨by rfl, ?_⟩) ?_ ?_
            rotate_left
            ·intro w'
             go_simp
             with_reducible rfl
            rotate_left
            ·simp only [Act.put, List.setIfInBounds_toArray, List.set_cons_zero, List.set_cons_succ, i64_w, i32_w]
             rfl
            refine pure_ (i := 3) (N := some 60) (v := ?_) (a' := ?_) #[true, true, true, true, false, false, false, false] rfl rfl (any_of HT_.out (by kernel_rfl)) (fun _ _ _ h => h) (Or.inl ⟨by rfl, ?_⟩) ?_ ?_
            rotate_left
            ·intro w'
             go_simp
             with_reducible rfl
            rotate_left
            ·simp only [Act.put, List.setIfInBounds_toArray, List.set_cons_zero, List.set_cons_succ, i64_w, i32_w]
             rfl
            refine pure_ (i := 5) (N := some 62) (v := ?_) (a' := ?_) #[true, true, true, true, false, true, false, false] rfl rfl (any_of HT_.out (by kernel_rfl)) (fun _ _ _ h => h) (Or.inl ⟨by rfl, ?_⟩) ?_ ?_
            rotate_left
            ·intro w'
             go_simp
             with_reducible rfl
            rotate_left
            ·simp only [Act.put, List.setIfInBounds_toArray, List.set_cons_zero, List.set_cons_succ, i64_w, i32_w]
             rfl
            refine take_ (i := 4) (N := some 61) (v := ?_) (a' := ?_) #[true, true, true, true, true, true, false, false] rfl rfl (take_ofW HT_.out HW_.out (by kernel_rfl)) (fun _ _ _ h => h) (Or.inl ⟨by rfl, ?_⟩) hHeld ?_ ?_
            rotate_left
            ·rintro w' ⟨s0, s1, s2, s3, s4, s5, s6⟩
             go_simp
             with_reducible rfl
            rotate_left
            ·simp only [Act.put, List.setIfInBounds_toArray, List.set_cons_zero, List.set_cons_succ, i64_w, i32_w]
             rfl
            refine one_ (i := 6) (N := some 63) #[true, true, true, true, true, true, true, false] rfl rfl (one_of HT_.out (by kernel_rfl)) (by decide) (fun K hK => ?_)
            refine goes_ Tryd.func55 (by kernel_rfl) rfl #[.int .i64 (wrap64 ((wrap64 ((wrap64 ((wrap64 ((wrap64 (x1_1 + 1)) + 1)) + 1)) + 1)) + 1))] (by rfl) rfl rfl lz ?_
            with_reducible refine (laws_markText.calls k1 (wrap64 ((wrap64 ((wrap64 ((wrap64 ((wrap64 (x1_1 + 1)) + 1)) + 1)) + 1)) + 1)) t328 _ A10.out).mono ?_
            rintro e w19 ⟨rfl, hb⟩
            refine ⟨_, rfl, ?_⟩
            have n0_ := Aside0.mk (below_step (bz0 HB.out) hb)
            clear HB
            have HB := n0_
            clear n0_
            (try clear hb)
            (try clear hb2)
            (try clear hk)
            (try clear hi)
            refine hK.out _ _ ⟨(hz HB.out hw327_0), (hz HB.out hw327_1), (hz HB.out hw327_2), (hz HB.out hw327_3), (hz HB.out hw327_4), (hz HB.out hw327_5), (hz HB.out hw327_6)⟩ (fun hHeld => ?_)
            clear hK K
            refine norm_ (a' := ?_) ?_ ?_
            rotate_left
            ·show Act.put _ (some 63) _ = _
             simp only [Act.put, List.setIfInBounds_toArray, List.set_cons_zero, List.set_cons_succ, i64_w, i32_w]
             rfl
            refine pure_ (i := 7) (N := some 64) (v := ?_) (a' := ?_) #[true, true, true, true, true, true, true, true] rfl rfl (any_of HT_.out (by kernel_rfl)) (fun _ _ _ h => h) (Or.inl ⟨by rfl, ?_⟩) ?_ ?_
            rotate_left
            ·intro w'
             go_simp
             with_reducible rfl
            rotate_left
            ·simp only [Act.put, List.setIfInBounds_toArray, List.set_cons_zero, List.set_cons_succ, i64_w, i32_w]
             rfl
            refine done_ (done_of HT_.out (by kernel_rfl)) ?_
            try go_wp2
            have n0_ := Aside0.mk (below_drew1 HB.out)
            clear HB
            have HB := n0_
            clear n0_
            have p329 : 0 ≤ (x5_1 : Int) := of_decide_eq_true az
            have q329 : x5_1 < (l0.length : Int) := of_decide_eq_true az
            obtain ⟨ad329, e329, hx329_0, hx329_1, hx329_2, hx329_3, hx329_4, hx329_5, hx329_6⟩ := at_T54 HR0.out x5_1 p329 q329
            have hw329_6 := hx329_6
            have hw329_5 := hx329_5
            have hw329_4 := hx329_4
            have hw329_3 := hx329_3
            have hw329_2 := hx329_2
            have hw329_1 := hx329_1
            have hw329_0 := hx329_0
            obtain rfl : ad322 = ad329 := (by injection e329)
            replace hx329_0 := hz HB.out hx329_0
            replace hx329_1 := hz HB.out hx329_1
            replace hx329_2 := hz HB.out hx329_2
            replace hx329_3 := hz HB.out hx329_3
            replace hx329_4 := hz HB.out hx329_4
            replace hx329_5 := hz HB.out hx329_5
            replace hx329_6 := hz HB.out hx329_6
            replace p329 := eq_true p329
            replace q329 := eq_true q329
            refine start_ (n := 8) (S := fun w' => w'.cell? (ad322.add ((x5_1).toNat * 7)) = some (.int .i64 ((rd_T54 l0 x5_1).f0)) ∧ w'.cell? ⟨(ad322.add ((x5_1).toNat * 7)).block, (ad322.add ((x5_1).toNat * 7)).off + 1, none⟩ = some (.int .i64 ((rd_T54 l0 x5_1).f1)) ∧ w'.cell? ⟨(ad322.add ((x5_1).toNat * 7)).block, (ad322.add ((x5_1).toNat * 7)).off + 2, none⟩ = some (.int .i64 ((rd_T54 l0 x5_1).f2)) ∧ w'.cell? ⟨(ad322.add ((x5_1).toNat * 7)).block, (ad322.add ((x5_1).toNat * 7)).off + 3, none⟩ = some (.int .i64 ((rd_T54 l0 x5_1).f3)) ∧ w'.cell? ⟨(ad322.add ((x5_1).toNat * 7)).block, (ad322.add ((x5_1).toNat * 7)).off + 4, none⟩ = some (.int .i64 ((rd_T54 l0 x5_1).f4)) ∧ w'.cell? ⟨(ad322.add ((x5_1).toNat * 7)).block, (ad322.add ((x5_1).toNat * 7)).off + 5, none⟩ = some (.string ((rd_T54 l0 x5_1).f5)) ∧ w'.cell? ⟨(ad322.add ((x5_1).toNat * 7)).block, (ad322.add ((x5_1).toNat * 7)).off + 6, none⟩ = some (.string ((rd_T54 l0 x5_1).f6))) (ds := []) #[false, false, false, false, false, false, false, false] (by kernel_rfl) rfl rfl ⟨(hz HB.out hw329_0), (hz HB.out hw329_1), (hz HB.out hw329_2), (hz HB.out hw329_3), (hz HB.out hw329_4), (hz HB.out hw329_5), (hz HB.out hw329_6)⟩ (fun hHeld => ?_); refine with_tabW laws_heldNodeS.tab22 laws_heldNodeS.bits22 (fun HT_ HW_ => ?_)
            generalize w19.drew = w20 at HB hx329_0 hx329_1 hx329_2 hx329_3 hx329_4 hx329_5 hx329_6 hHeld ⊢
            refine pure_ (i := 0) (N := some 67) (v := ?_) (a' := ?_) #[true, false, false, false, false, false, false, false] rfl rfl (any_of HT_.out (by kernel_rfl)) (fun _ _ _ h => h) (Or.inl ⟨by rfl, ?_⟩) ?_ ?_
            rotate_left
            ·intro w'
             go_simp
             with_reducible rfl
            rotate_left
            ·simp only [Act.put, List.setIfInBounds_toArray, List.set_cons_zero, List.set_cons_succ, i64_w, i32_w]
             rfl
            refine pure_ (i := 1) (N := some 68) (v := ?_) (a' := ?_) #[true, true, false, false, false, false, false, false] rfl rfl (any_of HT_.out (by kernel_rfl)) (fun _ _ _ h => h) (Or.inl ⟨by rfl, ?_⟩) ?_ ?_
            rotate_left
            ·intro w'
             go_simp
             with_reducible rfl
            rotate_left
            ·simp only [Act.put, List.setIfInBounds_toArray, List.set_cons_zero, List.set_cons_succ, i64_w, i32_w]
             rfl
            refine pure_ (i := 2) (N := some 69) (v := ?_) (a' := ?_) #[true, true, true, false, false, false, false, false] rfl rfl (any_of HT_.out (by kernel_rfl)) (fun _ _ _ h => h) (Or.inl ⟨by rfl, ?_⟩) ?_ ?_
            rotate_left
            ·intro w'
             go_simp
             with_reducible rfl
            rotate_left
            ·simp only [Act.put, List.setIfInBounds_toArray, List.set_cons_zero, List.set_cons_succ, i64_w, i32_w]
             rfl
            refine pure_ (i := 3) (N := some 70) (v := ?_) (a' := ?_) #[true, true, true, true, false, false, false, false] rfl rfl (any_of HT_.out (by kernel_rfl)) (fun _ _ _ h => h) (Or.inl ⟨by rfl, ?_⟩) ?_ ?_
            rotate_left
            ·intro w'
             go_simp
             with_reducible rfl
            rotate_left
            ·simp only [Act.put, List.setIfInBounds_toArray, List.set_cons_zero, List.set_cons_succ, i64_w, i32_w]
             rfl
            refine pure_ (i := 5) (N := some 72) (v := ?_) (a' := ?_) #[true, true, true, true, false, true, false, false] rfl rfl (any_of HT_.out (by kernel_rfl)) (fun _ _ _ h => h) (Or.inl ⟨by rfl, ?_⟩) ?_ ?_
            rotate_left
            ·intro w'
             go_simp
             with_reducible rfl
            rotate_left
            ·simp only [Act.put, List.setIfInBounds_toArray, List.set_cons_zero, List.set_cons_succ, i64_w, i32_w]
             rfl
            refine take_ (i := 4) (N := some 71) (v := ?_) (a' := ?_) #[true, true, true, true, true, true, false, false] rfl rfl (take_ofW HT_.out HW_.out (by kernel_rfl)) (fun _ _ _ h => h) (Or.inl ⟨by rfl, ?_⟩) hHeld ?_ ?_
            rotate_left
            ·rintro w' ⟨s0, s1, s2, s3, s4, s5, s6⟩
             go_simp
             with_reducible rfl
            rotate_left
            ·simp only [Act.put, List.setIfInBounds_toArray, List.set_cons_zero, List.set_cons_succ, i64_w, i32_w]
             rfl
            refine one_ (i := 6) (N := some 73) #[true, true, true, true, true, true, true, false] rfl rfl (one_of HT_.out (by kernel_rfl)) (by decide) (fun K hK => ?_)
            refine goes_ Tryd.func55 (by kernel_rfl) rfl #[.int .i64 (wrap64 ((wrap64 ((wrap64 ((wrap64 ((wrap64 ((wrap64 (x1_1 + 1)) + 1)) + 1)) + 1)) + 1)) + 1))] (by rfl) rfl rfl lz ?_
            with_reducible refine (laws_markText.calls k1 (wrap64 ((wrap64 ((wrap64 ((wrap64 ((wrap64 ((wrap64 (x1_1 + 1)) + 1)) + 1)) + 1)) + 1)) + 1)) t330 _ A12.out).mono ?_
            rintro e w21 ⟨rfl, hb⟩
            refine ⟨_, rfl, ?_⟩
            have n0_ := Aside0.mk (below_step (bz0 HB.out) hb)
            clear HB
            have HB := n0_
            clear n0_
            (try clear hb)
            (try clear hb2)
            (try clear hk)
            (try clear hi)
            refine hK.out _ _ ⟨(hz HB.out hw329_0), (hz HB.out hw329_1), (hz HB.out hw329_2), (hz HB.out hw329_3), (hz HB.out hw329_4), (hz HB.out hw329_5), (hz HB.out hw329_6)⟩ (fun hHeld => ?_)
            clear hK K
            refine norm_ (a' := ?_) ?_ ?_
            rotate_left
            ·show Act.put _ (some 73) _ = _
             simp only [Act.put, List.setIfInBounds_toArray, List.set_cons_zero, List.set_cons_succ, i64_w, i32_w]
             rfl
            refine pure_ (i := 7) (N := some 74) (v := ?_) (a' := ?_) #[true, true, true, true, true, true, true, true] rfl rfl (any_of HT_.out (by kernel_rfl)) (fun _ _ _ h => h) (Or.inl ⟨by rfl, ?_⟩) ?_ ?_
            rotate_left
            ·intro w'
             go_simp
             with_reducible rfl
            rotate_left
            ·simp only [Act.put, List.setIfInBounds_toArray, List.set_cons_zero, List.set_cons_succ, i64_w, i32_w]
             rfl
            refine done_ (done_of HT_.out (by kernel_rfl)) ?_
            try go_wp2
            go_ret
            exact ⟨gz, (bz0 HB.out)⟩
          ·rw [if_neg c11] at H
           have c11b0 : (((rd_T54 l0 x5_1).f5).toList == t328.toList) = false := beq_eq_false_iff_ne.mpr c11
           have c11b1 : (((rd_T54 l0 x5_1).f5).toList != t328.toList) = true := bne_iff_ne.mpr c11
           obtain rfl := Option.some.inj H
           have p322 : 0 ≤ (x5_1 : Int) := of_decide_eq_true az
           have q322 : x5_1 < (l0.length : Int) := of_decide_eq_true az
           obtain ⟨ad322, e322, hx322_0, hx322_1, hx322_2, hx322_3, hx322_4, hx322_5, hx322_6⟩ := at_T54 HR0.out x5_1 p322 q322
           cases e322
           replace hx322_0 := hz HB.out hx322_0
           replace hx322_1 := hz HB.out hx322_1
           replace hx322_2 := hz HB.out hx322_2
           replace hx322_3 := hz HB.out hx322_3
           replace hx322_4 := hz HB.out hx322_4
           replace hx322_5 := hz HB.out hx322_5
           replace hx322_6 := hz HB.out hx322_6
           replace p322 := eq_true p322
           replace q322 := eq_true q322
           have p323 : 0 ≤ (x5_1 : Int) := of_decide_eq_true az
           have q323 : x5_1 < (l0.length : Int) := of_decide_eq_true az
           obtain ⟨ad323, e323, hx323_0, hx323_1, hx323_2, hx323_3, hx323_4, hx323_5, hx323_6⟩ := at_T54 HR0.out x5_1 p323 q323
           obtain rfl : ad322 = ad323 := (by injection e323)
           replace hx323_0 := hz HB.out hx323_0
           replace hx323_1 := hz HB.out hx323_1
           replace hx323_2 := hz HB.out hx323_2
           replace hx323_3 := hz HB.out hx323_3
           replace hx323_4 := hz HB.out hx323_4
           replace hx323_5 := hz HB.out hx323_5
           replace hx323_6 := hz HB.out hx323_6
           replace p323 := eq_true p323
           replace q323 := eq_true q323
           have p324 : 0 ≤ (x5_1 : Int) := of_decide_eq_true az
           have q324 : x5_1 < (l0.length : Int) := of_decide_eq_true az
           obtain ⟨ad324, e324, hx324_0, hx324_1, hx324_2, hx324_3, hx324_4, hx324_5, hx324_6⟩ := at_T54 HR0.out x5_1 p324 q324
           obtain rfl : ad322 = ad324 := (by injection e324)
           replace hx324_0 := hz HB.out hx324_0
           replace hx324_1 := hz HB.out hx324_1
           replace hx324_2 := hz HB.out hx324_2
           replace hx324_3 := hz HB.out hx324_3
           replace hx324_4 := hz HB.out hx324_4
           replace hx324_5 := hz HB.out hx324_5
           replace hx324_6 := hz HB.out hx324_6
           replace p324 := eq_true p324
           replace q324 := eq_true q324
           have p325 : 0 ≤ (x5_1 : Int) := of_decide_eq_true az
           have q325 : x5_1 < (l0.length : Int) := of_decide_eq_true az
           obtain ⟨ad325, e325, hx325_0, hx325_1, hx325_2, hx325_3, hx325_4, hx325_5, hx325_6⟩ := at_T54 HR0.out x5_1 p325 q325
           obtain rfl : ad322 = ad325 := (by injection e325)
           replace hx325_0 := hz HB.out hx325_0
           replace hx325_1 := hz HB.out hx325_1
           replace hx325_2 := hz HB.out hx325_2
           replace hx325_3 := hz HB.out hx325_3
           replace hx325_4 := hz HB.out hx325_4
           replace hx325_5 := hz HB.out hx325_5
           replace hx325_6 := hz HB.out hx325_6
           replace p325 := eq_true p325
           replace q325 := eq_true q325
           have p326 : 0 ≤ (x5_1 : Int) := of_decide_eq_true az
           have q326 : x5_1 < (l0.length : Int) := of_decide_eq_true az
           obtain ⟨ad326, e326, hx326_0, hx326_1, hx326_2, hx326_3, hx326_4, hx326_5, hx326_6⟩ := at_T54 HR0.out x5_1 p326 q326
           obtain rfl : ad322 = ad326 := (by injection e326)
           replace hx326_0 := hz HB.out hx326_0
           replace hx326_1 := hz HB.out hx326_1
           replace hx326_2 := hz HB.out hx326_2
           replace hx326_3 := hz HB.out hx326_3
           replace hx326_4 := hz HB.out hx326_4
           replace hx326_5 := hz HB.out hx326_5
           replace hx326_6 := hz HB.out hx326_6
           replace p326 := eq_true p326
           replace q326 := eq_true q326
           try go_wp2
           have n0_ := Aside0.mk (below_drew1 HB.out)
           clear HB
           have HB := n0_
           clear n0_
           have p327 : 0 ≤ (x5_1 : Int) := of_decide_eq_true az
           have q327 : x5_1 < (l0.length : Int) := of_decide_eq_true az
           obtain ⟨ad327, e327, hx327_0, hx327_1, hx327_2, hx327_3, hx327_4, hx327_5, hx327_6⟩ := at_T54 HR0.out x5_1 p327 q327
           have hw327_6 := hx327_6
           have hw327_5 := hx327_5
           have hw327_4 := hx327_4
           have hw327_3 := hx327_3
           have hw327_2 := hx327_2
           have hw327_1 := hx327_1
           have hw327_0 := hx327_0
           obtain rfl : ad322 = ad327 := (by injection e327)
           replace hx327_0 := hz HB.out hx327_0
           replace hx327_1 := hz HB.out hx327_1
           replace hx327_2 := hz HB.out hx327_2
           replace hx327_3 := hz HB.out hx327_3
           replace hx327_4 := hz HB.out hx327_4
           replace hx327_5 := hz HB.out hx327_5
           replace hx327_6 := hz HB.out hx327_6
           replace p327 := eq_true p327
           replace q327 := eq_true q327
           refine start_ (n := 8) (S := fun w' => w'.cell? (ad322.add ((x5_1).toNat * 7)) = some (.int .i64 ((rd_T54 l0 x5_1).f0)) ∧ w'.cell? ⟨(ad322.add ((x5_1).toNat * 7)).block, (ad322.add ((x5_1).toNat * 7)).off + 1, none⟩ = some (.int .i64 ((rd_T54 l0 x5_1).f1)) ∧ w'.cell? ⟨(ad322.add ((x5_1).toNat * 7)).block, (ad322.add ((x5_1).toNat * 7)).off + 2, none⟩ = some (.int .i64 ((rd_T54 l0 x5_1).f2)) ∧ w'.cell? ⟨(ad322.add ((x5_1).toNat * 7)).block, (ad322.add ((x5_1).toNat * 7)).off + 3, none⟩ = some (.int .i64 ((rd_T54 l0 x5_1).f3)) ∧ w'.cell? ⟨(ad322.add ((x5_1).toNat * 7)).block, (ad322.add ((x5_1).toNat * 7)).off + 4, none⟩ = some (.int .i64 ((rd_T54 l0 x5_1).f4)) ∧ w'.cell? ⟨(ad322.add ((x5_1).toNat * 7)).block, (ad322.add ((x5_1).toNat * 7)).off + 5, none⟩ = some (.string ((rd_T54 l0 x5_1).f5)) ∧ w'.cell? ⟨(ad322.add ((x5_1).toNat * 7)).block, (ad322.add ((x5_1).toNat * 7)).off + 6, none⟩ = some (.string ((rd_T54 l0 x5_1).f6))) (ds := []) #[false, false, false, false, false, false, false, false] (by kernel_rfl) rfl rfl ⟨(hz HB.out hw327_0), (hz HB.out hw327_1), (hz HB.out hw327_2), (hz HB.out hw327_3), (hz HB.out hw327_4), (hz HB.out hw327_5), (hz HB.out hw327_6)⟩ (fun hHeld => ?_); refine with_tabW laws_heldNodeS.tab19 laws_heldNodeS.bits19 (fun HT_ HW_ => ?_)
           generalize wr.drew = w22 at HB hx327_0 hx327_1 hx327_2 hx327_3 hx327_4 hx327_5 hx327_6 hHeld ⊢
           refine pure_ (i := 0) (N := some 57) (v := ?_) (a' := ?_) #[true, false, false, false, false, false, false, false] rfl rfl (any_of HT_.out (by kernel_rfl)) (fun _ _ _ h => h) (Or.inl ⟨by rfl, ?_⟩) ?_ ?_
           rotate_left
           ·intro w'
            go_simp
            with_reducible rfl
           rotate_left
           ·simp only [Act.put, List.setIfInBounds_toArray, List.set_cons_zero, List.set_cons_succ, i64_w, i32_w]
            rfl
           refine pure_ (i := 1) (N := some 58) (v := ?_) (a' := ?_) #[true, true, false, false, false, false, false, false] rfl rfl (any_of HT_.out (by kernel_rfl)) (fun _ _ _ h => h) (Or.inl ⟨by rfl, ?_⟩) ?_ ?_
           rotate_left
           ·intro w'
            go_simp
            with_reducible rfl
           rotate_left
           ·simp only [Act.put, List.setIfInBounds_toArray, List.set_cons_zero, List.set_cons_succ, i64_w, i32_w]
            rfl
           refine pure_ (i := 2) (N := some 59) (v := ?_) (a' := ?_) #[true, true, true, false, false, false, false, false] rfl rfl (any_of HT_.out (by kernel_rfl)) (fun _ _ _ h => h) (Or.inl ⟨by rfl, ?_⟩) ?_ ?_
           rotate_left
           ·intro w'
            go_simp
            with_reducible rfl
           rotate_left
           ·simp only [Act.put, List.setIfInBounds_toArray, List.set_cons_zero, List.set_cons_succ, i64_w, i32_w]
            rfl
           refine pure_ (i := 3) (N := some 60) (v := ?_) (a' := ?_) #[true, true, true, true, false, false, false, false] rfl rfl (any_of HT_.out (by kernel_rfl)) (fun _ _ _ h => h) (Or.inl ⟨by rfl, ?_⟩) ?_ ?_
           rotate_left
           ·intro w'
            go_simp
            with_reducible rfl
           rotate_left
           ·simp only [Act.put, List.setIfInBounds_toArray, List.set_cons_zero, List.set_cons_succ, i64_w, i32_w]
            rfl
           refine pure_ (i := 5) (N := some 62) (v := ?_) (a' := ?_) #[true, true, true, true, false, true, false, false] rfl rfl (any_of HT_.out (by kernel_rfl)) (fun _ _ _ h => h) (Or.inl ⟨by rfl, ?_⟩) ?_ ?_
           rotate_left
           ·intro w'
            go_simp
            with_reducible rfl
           rotate_left
           ·simp only [Act.put, List.setIfInBounds_toArray, List.set_cons_zero, List.set_cons_succ, i64_w, i32_w]
            rfl
           refine take_ (i := 4) (N := some 61) (v := ?_) (a' := ?_) #[true, true, true, true, true, true, false, false] rfl rfl (take_ofW HT_.out HW_.out (by kernel_rfl)) (fun _ _ _ h => h) (Or.inl ⟨by rfl, ?_⟩) hHeld ?_ ?_
           rotate_left
           ·rintro w' ⟨s0, s1, s2, s3, s4, s5, s6⟩
            go_simp
            with_reducible rfl
           rotate_left
           ·simp only [Act.put, List.setIfInBounds_toArray, List.set_cons_zero, List.set_cons_succ, i64_w, i32_w]
            rfl
           refine one_ (i := 6) (N := some 63) #[true, true, true, true, true, true, true, false] rfl rfl (one_of HT_.out (by kernel_rfl)) (by decide) (fun K hK => ?_)
           refine goes_ Tryd.func55 (by kernel_rfl) rfl #[.int .i64 (wrap64 ((wrap64 ((wrap64 ((wrap64 ((wrap64 (x1_1 + 1)) + 1)) + 1)) + 1)) + 1))] (by rfl) rfl rfl lz ?_
           with_reducible refine (laws_markText.calls k1 (wrap64 ((wrap64 ((wrap64 ((wrap64 ((wrap64 (x1_1 + 1)) + 1)) + 1)) + 1)) + 1)) t328 _ A10.out).mono ?_
           rintro e w23 ⟨rfl, hb⟩
           refine ⟨_, rfl, ?_⟩
           have n0_ := Aside0.mk (below_step (bz0 HB.out) hb)
           clear HB
           have HB := n0_
           clear n0_
           (try clear hb)
           (try clear hb2)
           (try clear hk)
           (try clear hi)
           refine hK.out _ _ ⟨(hz HB.out hw327_0), (hz HB.out hw327_1), (hz HB.out hw327_2), (hz HB.out hw327_3), (hz HB.out hw327_4), (hz HB.out hw327_5), (hz HB.out hw327_6)⟩ (fun hHeld => ?_)
           clear hK K
           refine norm_ (a' := ?_) ?_ ?_
           rotate_left
           ·show Act.put _ (some 63) _ = _
            simp only [Act.put, List.setIfInBounds_toArray, List.set_cons_zero, List.set_cons_succ, i64_w, i32_w]
            rfl
           refine pure_ (i := 7) (N := some 64) (v := ?_) (a' := ?_) #[true, true, true, true, true, true, true, true] rfl rfl (any_of HT_.out (by kernel_rfl)) (fun _ _ _ h => h) (Or.inl ⟨by rfl, ?_⟩) ?_ ?_
           rotate_left
           ·intro w'
            go_simp
            with_reducible rfl
           rotate_left
           ·simp only [Act.put, List.setIfInBounds_toArray, List.set_cons_zero, List.set_cons_succ, i64_w, i32_w]
            rfl
           refine done_ (done_of HT_.out (by kernel_rfl)) ?_
           try go_wp2
           go_ret
           exact ⟨gz, (bz0 HB.out)⟩
         ·rw [if_neg c9] at H
          have c9b0 : (((rd_T54 l0 x5_1).f4) == (wrap64 ((wrap64 ((wrap64 ((wrap64 (x1_1 + 1)) + 1)) + 1)) + 1))) = false := beq_eq_false_iff_ne.mpr c9
          have c9b1 : (((rd_T54 l0 x5_1).f4) != (wrap64 ((wrap64 ((wrap64 ((wrap64 (x1_1 + 1)) + 1)) + 1)) + 1))) = true := bne_iff_ne.mpr c9
          obtain rfl := Option.some.inj H
          have p322 : 0 ≤ (x5_1 : Int) := of_decide_eq_true az
          have q322 : x5_1 < (l0.length : Int) := of_decide_eq_true az
          obtain ⟨ad322, e322, hx322_0, hx322_1, hx322_2, hx322_3, hx322_4, hx322_5, hx322_6⟩ := at_T54 HR0.out x5_1 p322 q322
          cases e322
          replace hx322_0 := hz HB.out hx322_0
          replace hx322_1 := hz HB.out hx322_1
          replace hx322_2 := hz HB.out hx322_2
          replace hx322_3 := hz HB.out hx322_3
          replace hx322_4 := hz HB.out hx322_4
          replace hx322_5 := hz HB.out hx322_5
          replace hx322_6 := hz HB.out hx322_6
          replace p322 := eq_true p322
          replace q322 := eq_true q322
          have p323 : 0 ≤ (x5_1 : Int) := of_decide_eq_true az
          have q323 : x5_1 < (l0.length : Int) := of_decide_eq_true az
          obtain ⟨ad323, e323, hx323_0, hx323_1, hx323_2, hx323_3, hx323_4, hx323_5, hx323_6⟩ := at_T54 HR0.out x5_1 p323 q323
          obtain rfl : ad322 = ad323 := (by injection e323)
          replace hx323_0 := hz HB.out hx323_0
          replace hx323_1 := hz HB.out hx323_1
          replace hx323_2 := hz HB.out hx323_2
          replace hx323_3 := hz HB.out hx323_3
          replace hx323_4 := hz HB.out hx323_4
          replace hx323_5 := hz HB.out hx323_5
          replace hx323_6 := hz HB.out hx323_6
          replace p323 := eq_true p323
          replace q323 := eq_true q323
          have p324 : 0 ≤ (x5_1 : Int) := of_decide_eq_true az
          have q324 : x5_1 < (l0.length : Int) := of_decide_eq_true az
          obtain ⟨ad324, e324, hx324_0, hx324_1, hx324_2, hx324_3, hx324_4, hx324_5, hx324_6⟩ := at_T54 HR0.out x5_1 p324 q324
          obtain rfl : ad322 = ad324 := (by injection e324)
          replace hx324_0 := hz HB.out hx324_0
          replace hx324_1 := hz HB.out hx324_1
          replace hx324_2 := hz HB.out hx324_2
          replace hx324_3 := hz HB.out hx324_3
          replace hx324_4 := hz HB.out hx324_4
          replace hx324_5 := hz HB.out hx324_5
          replace hx324_6 := hz HB.out hx324_6
          replace p324 := eq_true p324
          replace q324 := eq_true q324
          have p325 : 0 ≤ (x5_1 : Int) := of_decide_eq_true az
          have q325 : x5_1 < (l0.length : Int) := of_decide_eq_true az
          obtain ⟨ad325, e325, hx325_0, hx325_1, hx325_2, hx325_3, hx325_4, hx325_5, hx325_6⟩ := at_T54 HR0.out x5_1 p325 q325
          obtain rfl : ad322 = ad325 := (by injection e325)
          replace hx325_0 := hz HB.out hx325_0
          replace hx325_1 := hz HB.out hx325_1
          replace hx325_2 := hz HB.out hx325_2
          replace hx325_3 := hz HB.out hx325_3
          replace hx325_4 := hz HB.out hx325_4
          replace hx325_5 := hz HB.out hx325_5
          replace hx325_6 := hz HB.out hx325_6
          replace p325 := eq_true p325
          replace q325 := eq_true q325
          have p326 : 0 ≤ (x5_1 : Int) := of_decide_eq_true az
          have q326 : x5_1 < (l0.length : Int) := of_decide_eq_true az
          obtain ⟨ad326, e326, hx326_0, hx326_1, hx326_2, hx326_3, hx326_4, hx326_5, hx326_6⟩ := at_T54 HR0.out x5_1 p326 q326
          obtain rfl : ad322 = ad326 := (by injection e326)
          replace hx326_0 := hz HB.out hx326_0
          replace hx326_1 := hz HB.out hx326_1
          replace hx326_2 := hz HB.out hx326_2
          replace hx326_3 := hz HB.out hx326_3
          replace hx326_4 := hz HB.out hx326_4
          replace hx326_5 := hz HB.out hx326_5
          replace hx326_6 := hz HB.out hx326_6
          replace p326 := eq_true p326
          replace q326 := eq_true q326
          go_wp2
          go_ret
          exact ⟨gz, (bz0 HB.out)⟩
        ·rw [if_neg c8] at H
         have c8b0 : (((rd_T54 l0 x5_1).f3) == (wrap64 ((wrap64 ((wrap64 (x1_1 + 1)) + 1)) + 1))) = false := beq_eq_false_iff_ne.mpr c8
         have c8b1 : (((rd_T54 l0 x5_1).f3) != (wrap64 ((wrap64 ((wrap64 (x1_1 + 1)) + 1)) + 1))) = true := bne_iff_ne.mpr c8
         obtain rfl := Option.some.inj H
         have p322 : 0 ≤ (x5_1 : Int) := of_decide_eq_true az
         have q322 : x5_1 < (l0.length : Int) := of_decide_eq_true az
         obtain ⟨ad322, e322, hx322_0, hx322_1, hx322_2, hx322_3, hx322_4, hx322_5, hx322_6⟩ := at_T54 HR0.out x5_1 p322 q322
         cases e322
         replace hx322_0 := hz HB.out hx322_0
         replace hx322_1 := hz HB.out hx322_1
         replace hx322_2 := hz HB.out hx322_2
         replace hx322_3 := hz HB.out hx322_3
         replace hx322_4 := hz HB.out hx322_4
         replace hx322_5 := hz HB.out hx322_5
         replace hx322_6 := hz HB.out hx322_6
         replace p322 := eq_true p322
         replace q322 := eq_true q322
         have p323 : 0 ≤ (x5_1 : Int) := of_decide_eq_true az
         have q323 : x5_1 < (l0.length : Int) := of_decide_eq_true az
         obtain ⟨ad323, e323, hx323_0, hx323_1, hx323_2, hx323_3, hx323_4, hx323_5, hx323_6⟩ := at_T54 HR0.out x5_1 p323 q323
         obtain rfl : ad322 = ad323 := (by injection e323)
         replace hx323_0 := hz HB.out hx323_0
         replace hx323_1 := hz HB.out hx323_1
         replace hx323_2 := hz HB.out hx323_2
         replace hx323_3 := hz HB.out hx323_3
         replace hx323_4 := hz HB.out hx323_4
         replace hx323_5 := hz HB.out hx323_5
         replace hx323_6 := hz HB.out hx323_6
         replace p323 := eq_true p323
         replace q323 := eq_true q323
         have p324 : 0 ≤ (x5_1 : Int) := of_decide_eq_true az
         have q324 : x5_1 < (l0.length : Int) := of_decide_eq_true az
         obtain ⟨ad324, e324, hx324_0, hx324_1, hx324_2, hx324_3, hx324_4, hx324_5, hx324_6⟩ := at_T54 HR0.out x5_1 p324 q324
         obtain rfl : ad322 = ad324 := (by injection e324)
         replace hx324_0 := hz HB.out hx324_0
         replace hx324_1 := hz HB.out hx324_1
         replace hx324_2 := hz HB.out hx324_2
         replace hx324_3 := hz HB.out hx324_3
         replace hx324_4 := hz HB.out hx324_4
         replace hx324_5 := hz HB.out hx324_5
         replace hx324_6 := hz HB.out hx324_6
         replace p324 := eq_true p324
         replace q324 := eq_true q324
         have p325 : 0 ≤ (x5_1 : Int) := of_decide_eq_true az
         have q325 : x5_1 < (l0.length : Int) := of_decide_eq_true az
         obtain ⟨ad325, e325, hx325_0, hx325_1, hx325_2, hx325_3, hx325_4, hx325_5, hx325_6⟩ := at_T54 HR0.out x5_1 p325 q325
         obtain rfl : ad322 = ad325 := (by injection e325)
         replace hx325_0 := hz HB.out hx325_0
         replace hx325_1 := hz HB.out hx325_1
         replace hx325_2 := hz HB.out hx325_2
         replace hx325_3 := hz HB.out hx325_3
         replace hx325_4 := hz HB.out hx325_4
         replace hx325_5 := hz HB.out hx325_5
         replace hx325_6 := hz HB.out hx325_6
         replace p325 := eq_true p325
         replace q325 := eq_true q325
         go_wp2
         go_ret
         exact ⟨gz, (bz0 HB.out)⟩
       ·rw [if_neg c7] at H
        have c7b0 : (((rd_T54 l0 x5_1).f2) == (wrap64 ((wrap64 (x1_1 + 1)) + 1))) = false := beq_eq_false_iff_ne.mpr c7
        have c7b1 : (((rd_T54 l0 x5_1).f2) != (wrap64 ((wrap64 (x1_1 + 1)) + 1))) = true := bne_iff_ne.mpr c7
        obtain rfl := Option.some.inj H
        have p322 : 0 ≤ (x5_1 : Int) := of_decide_eq_true az
        have q322 : x5_1 < (l0.length : Int) := of_decide_eq_true az
        obtain ⟨ad322, e322, hx322_0, hx322_1, hx322_2, hx322_3, hx322_4, hx322_5, hx322_6⟩ := at_T54 HR0.out x5_1 p322 q322
        cases e322
        replace hx322_0 := hz HB.out hx322_0
        replace hx322_1 := hz HB.out hx322_1
        replace hx322_2 := hz HB.out hx322_2
        replace hx322_3 := hz HB.out hx322_3
        replace hx322_4 := hz HB.out hx322_4
        replace hx322_5 := hz HB.out hx322_5
        replace hx322_6 := hz HB.out hx322_6
        replace p322 := eq_true p322
        replace q322 := eq_true q322
        have p323 : 0 ≤ (x5_1 : Int) := of_decide_eq_true az
        have q323 : x5_1 < (l0.length : Int) := of_decide_eq_true az
        obtain ⟨ad323, e323, hx323_0, hx323_1, hx323_2, hx323_3, hx323_4, hx323_5, hx323_6⟩ := at_T54 HR0.out x5_1 p323 q323
        obtain rfl : ad322 = ad323 := (by injection e323)
        replace hx323_0 := hz HB.out hx323_0
        replace hx323_1 := hz HB.out hx323_1
        replace hx323_2 := hz HB.out hx323_2
        replace hx323_3 := hz HB.out hx323_3
        replace hx323_4 := hz HB.out hx323_4
        replace hx323_5 := hz HB.out hx323_5
        replace hx323_6 := hz HB.out hx323_6
        replace p323 := eq_true p323
        replace q323 := eq_true q323
        have p324 : 0 ≤ (x5_1 : Int) := of_decide_eq_true az
        have q324 : x5_1 < (l0.length : Int) := of_decide_eq_true az
        obtain ⟨ad324, e324, hx324_0, hx324_1, hx324_2, hx324_3, hx324_4, hx324_5, hx324_6⟩ := at_T54 HR0.out x5_1 p324 q324
        obtain rfl : ad322 = ad324 := (by injection e324)
        replace hx324_0 := hz HB.out hx324_0
        replace hx324_1 := hz HB.out hx324_1
        replace hx324_2 := hz HB.out hx324_2
        replace hx324_3 := hz HB.out hx324_3
        replace hx324_4 := hz HB.out hx324_4
        replace hx324_5 := hz HB.out hx324_5
        replace hx324_6 := hz HB.out hx324_6
        replace p324 := eq_true p324
        replace q324 := eq_true q324
        go_wp2
        go_ret
        exact ⟨gz, (bz0 HB.out)⟩
      ·rw [if_neg c6] at H
       have c6b0 : (((rd_T54 l0 x5_1).f1) == (wrap64 (x1_1 + 1))) = false := beq_eq_false_iff_ne.mpr c6
       have c6b1 : (((rd_T54 l0 x5_1).f1) != (wrap64 (x1_1 + 1))) = true := bne_iff_ne.mpr c6
       obtain rfl := Option.some.inj H
       have p322 : 0 ≤ (x5_1 : Int) := of_decide_eq_true az
       have q322 : x5_1 < (l0.length : Int) := of_decide_eq_true az
       obtain ⟨ad322, e322, hx322_0, hx322_1, hx322_2, hx322_3, hx322_4, hx322_5, hx322_6⟩ := at_T54 HR0.out x5_1 p322 q322
       cases e322
       replace hx322_0 := hz HB.out hx322_0
       replace hx322_1 := hz HB.out hx322_1
       replace hx322_2 := hz HB.out hx322_2
       replace hx322_3 := hz HB.out hx322_3
       replace hx322_4 := hz HB.out hx322_4
       replace hx322_5 := hz HB.out hx322_5
       replace hx322_6 := hz HB.out hx322_6
       replace p322 := eq_true p322
       replace q322 := eq_true q322
       have p323 : 0 ≤ (x5_1 : Int) := of_decide_eq_true az
       have q323 : x5_1 < (l0.length : Int) := of_decide_eq_true az
       obtain ⟨ad323, e323, hx323_0, hx323_1, hx323_2, hx323_3, hx323_4, hx323_5, hx323_6⟩ := at_T54 HR0.out x5_1 p323 q323
       obtain rfl : ad322 = ad323 := (by injection e323)
       replace hx323_0 := hz HB.out hx323_0
       replace hx323_1 := hz HB.out hx323_1
       replace hx323_2 := hz HB.out hx323_2
       replace hx323_3 := hz HB.out hx323_3
       replace hx323_4 := hz HB.out hx323_4
       replace hx323_5 := hz HB.out hx323_5
       replace hx323_6 := hz HB.out hx323_6
       replace p323 := eq_true p323
       replace q323 := eq_true q323
       go_wp2
       go_ret
       exact ⟨gz, (bz0 HB.out)⟩
     ·rw [if_neg c5] at H
      have c5b0 : (((rd_T54 l0 x5_1).f0) == x1_1) = false := beq_eq_false_iff_ne.mpr c5
      have c5b1 : (((rd_T54 l0 x5_1).f0) != x1_1) = true := bne_iff_ne.mpr c5
      obtain rfl := Option.some.inj H
      have p322 : 0 ≤ (x5_1 : Int) := of_decide_eq_true az
      have q322 : x5_1 < (l0.length : Int) := of_decide_eq_true az
      obtain ⟨ad322, e322, hx322_0, hx322_1, hx322_2, hx322_3, hx322_4, hx322_5, hx322_6⟩ := at_T54 HR0.out x5_1 p322 q322
      cases e322
      replace hx322_0 := hz HB.out hx322_0
      replace hx322_1 := hz HB.out hx322_1
      replace hx322_2 := hz HB.out hx322_2
      replace hx322_3 := hz HB.out hx322_3
      replace hx322_4 := hz HB.out hx322_4
      replace hx322_5 := hz HB.out hx322_5
      replace hx322_6 := hz HB.out hx322_6
      replace p322 := eq_true p322
      replace q322 := eq_true q322
      go_wp2
      go_ret
      exact ⟨gz, (bz0 HB.out)⟩
    ·rw [if_neg c4] at H
     exact absurd H (by simp)
   ·rw [if_neg c3] at H
    have c3b0 : decide (x5_1 < (l0.length : Int)) = false := decide_eq_false c3
    clear c3
    obtain rfl := Option.some.inj H
    go_wp2
    go_ret
    exact ⟨gz, (bz0 HB.out)⟩
end Go.Proofs.YthmkeimngfboiaaDoor.PFnExactPart
