/- PFnExactCanonx22, of the words and walks that the law FnExactCanon needs; made by this session's program out of printed texts. -/

import Derived.Test.YtmilegjmiiccdaaDoorVECanonPx0
import Derived.Test.YtmilegjmiiccdaaDoorVECanonPx3
namespace Go.Proofs.YtmilegjmiiccdaaDoor.PFnExactCanon
open Go.RowKit Go.Proofs.YtmilegjmiiccdaaDoorW.PrintWords Go.Proofs.YtmilegjmiiccdaaDoorW.PrintLast Go.Proofs.YtmilegjmiiccdaaDoorW.PrintMore
attribute [local go_sem] max2_int min2_int max_two min_two max_three min_three max_four min_four
set_option linter.unusedVariables false
set_option linter.unusedSimpArgs false
def laws_heldNodeS.l0 : Nat -> List (S43) -> Int -> Int -> Option (Int)
 | 0, _, _, _ => none
 | k + 1, x0, x1, x5 => if x5 < (x0.length : Int) then (if 0 <= x5 then (if ((rd_T43 x0 x5).f0) = x1 then (if ((rd_T43 x0 x5).f1) = (wrap64 (x1 + 1)) then (if ((rd_T43 x0 x5).f2) = (wrap64 ((wrap64 (x1 + 1)) + 1)) then (if ((rd_T43 x0 x5).f3) = (wrap64 ((wrap64 ((wrap64 (x1 + 1)) + 1)) + 1)) then (if ((rd_T43 x0 x5).f4) = (wrap64 ((wrap64 ((wrap64 ((wrap64 (x1 + 1)) + 1)) + 1)) + 1)) then ((laws_markText.f k (wrap64 ((wrap64 ((wrap64 ((wrap64 ((wrap64 (x1 + 1)) + 1)) + 1)) + 1)) + 1))).bind fun t569 => (if ((rd_T43 x0 x5).f5).toList = t569.toList then ((laws_markText.f k (wrap64 ((wrap64 ((wrap64 ((wrap64 ((wrap64 ((wrap64 (x1 + 1)) + 1)) + 1)) + 1)) + 1)) + 1))).bind fun t571 => (if ((rd_T43 x0 x5).f6).toList = t571.toList then (laws_heldNodeS.l0 k x0 (wrap64 ((wrap64 ((wrap64 ((wrap64 ((wrap64 ((wrap64 ((wrap64 (x1 + 1)) + 1)) + 1)) + 1)) + 1)) + 1)) + 1)) (wrap64 (x5 + 1))) else (some (-1)))) else (some (-1)))) else (some (-1))) else (some (-1))) else (some (-1))) else (some (-1))) else (some (-1))) else (none)) else (some x1)
def laws_heldNodeS.f (k : Nat) (l0 : List (S43)) (a1 : Int) : Option (Int) := laws_heldNodeS.l0 k l0 a1 0
theorem laws_heldNodeS.mono_l : ∀ k, (∀ y0 y1 y2, LeO (laws_heldNodeS.l0 k y0 y1 y2) (laws_heldNodeS.l0 (k + 1) y0 y1 y2))
 | 0 => fun _ _ _ r h => by simp [laws_heldNodeS.l0] at h
 | k + 1 => by
  have ih0 := laws_heldNodeS.mono_l k
  ·intro y0 y1 y2
   unfold laws_heldNodeS.l0
   with_reducible repeat' first | exact ih0 _ _ _ | exact laws_markText.mono _ _ | exact lrz _ | exact lnz _ | refine liz ?_ ?_ | refine lbz ?_ fun _ => ?_
theorem laws_heldNodeS.mono : ∀ a0 a1 k, LeO (laws_heldNodeS.f k a0 a1) (laws_heldNodeS.f (k + 1) a0 a1) := by
 intro a0 a1 k
 have ih0 := laws_heldNodeS.mono_l k
 unfold laws_heldNodeS.f
 with_reducible repeat' first | exact ih0 _ _ _ | exact laws_markText.mono _ _ | exact lrz _ | exact lnz _ | refine liz ?_ ?_ | refine lbz ?_ fun _ => ?_
def laws_heldNodeS.T19 : Bool × List (List Nat × List Nat) := (true, [([], []), ([], []), ([0, 1], [0, 1]), ([2], [2]), ([3], [3]), ([], []), ([5], [5]), ([4, 6], [4, 6])])
def laws_heldNodeS.B19 : List Nat := [0, 0, 3, 7, 15, 0, 32, 127]
theorem laws_heldNodeS.tab19 : rtab .any (opsOf Tryd.f31 19) = laws_heldNodeS.T19 := by kernel_rfl
theorem laws_heldNodeS.bits19 : waitsOk laws_heldNodeS.T19.2 laws_heldNodeS.B19 = true := by kernel_rfl
def laws_heldNodeS.T22 : Bool × List (List Nat × List Nat) := (true, [([], []), ([], []), ([0, 1], [0, 1]), ([2], [2]), ([3], [3]), ([], []), ([5], [5]), ([4, 6], [4, 6])])
def laws_heldNodeS.B22 : List Nat := [0, 0, 3, 7, 15, 0, 32, 127]
theorem laws_heldNodeS.tab22 : rtab .any (opsOf Tryd.f31 22) = laws_heldNodeS.T22 := by kernel_rfl
theorem laws_heldNodeS.bits22 : waitsOk laws_heldNodeS.T22.2 laws_heldNodeS.B22 = true := by kernel_rfl
set_option maxHeartbeats 8000000 in
set_option maxRecDepth 100000 in
theorem laws_heldNodeS.calls (k : Nat) (A0 : Option Addr) (c0 : Nat) (l0 : List (S43)) (a1 : Int) (r : Int) (w : World) (hr0 : Kd.C k43 w A0 l0.length l0) (hc0 : l0.length <= c0) (h : laws_heldNodeS.f k l0 a1 = some r) :
  Calls Tryd.prog 31 #[.slice A0 l0.length c0, .int .i64 a1] w fun e w' => e = .returned (.int .i64 r) /\ Below w.heap.size w w' := by
 have HR0 := Aside0.mk hr0
 have HC0 := Aside0.mk hc0
 clear hr0 hc0
 have HB := Aside0.mk (Below.refl w.heap.size w)
 have H : (laws_heldNodeS.l0 k l0 a1 0) = some r := h
 clear h
 have H' := Aside0.mk H
 clear H
 go_enter Tryd.func31, Tryd.ntmps31
 go_wp2
 go_loopg [1, 5] k (fun kq v1 v5 w' => ∃ (x1_1 : Int) (x5_1 : Int), v1 = .int .i64 x1_1 /\ v5 = .int .i64 x5_1 /\ Aside0 (laws_heldNodeS.l0 kq l0 x1_1 x5_1 = some r) /\ Aside0 (kq <= k) /\ Aside0 (Below w.heap.size w w'))
 case atStart => exact ⟨(a1), (0), ez, ez, H', ⟨Nat.le_refl _⟩, ⟨(bz0 HB.out)⟩⟩
 case round =>
  clear H'
  try clear p2
  obtain ⟨x1_1, x5_1, rfl, rfl, HA, HK1, HB⟩ := hrel
  cases gk with
  | zero => exact absurd HA.out (by simp [laws_heldNodeS.l0])
  | succ k1 =>
   have H := HA.out
   clear HA
   simp only [laws_heldNodeS.l0] at H
   by_cases c3 : x5_1 < (l0.length : Int)
   ·rw [if_pos c3] at H
    have c3b0 := decide_eq_true c3
    clear c3
    replace H := iz H
    obtain ⟨c4, H⟩ := H
    have c4b0 := decide_eq_true c4
    clear c4
    by_cases c5 : ((rd_T43 l0 x5_1).f0) = x1_1
    ·rw [if_pos c5] at H
     have c5b0 : (((rd_T43 l0 x5_1).f0) == x1_1) = true := beq_iff_eq.mpr c5
     have c5b1 : (((rd_T43 l0 x5_1).f0) != x1_1) = false := bne_eq_false_iff_eq.mpr c5
     clear c5
     by_cases c6 : ((rd_T43 l0 x5_1).f1) = (wrap64 (x1_1 + 1))
     ·rw [if_pos c6] at H
      have c6b0 : (((rd_T43 l0 x5_1).f1) == (wrap64 (x1_1 + 1))) = true := beq_iff_eq.mpr c6
      have c6b1 : (((rd_T43 l0 x5_1).f1) != (wrap64 (x1_1 + 1))) = false := bne_eq_false_iff_eq.mpr c6
      clear c6
      by_cases c7 : ((rd_T43 l0 x5_1).f2) = (wrap64 ((wrap64 (x1_1 + 1)) + 1))
      ·rw [if_pos c7] at H
       have c7b0 : (((rd_T43 l0 x5_1).f2) == (wrap64 ((wrap64 (x1_1 + 1)) + 1))) = true := beq_iff_eq.mpr c7
       have c7b1 : (((rd_T43 l0 x5_1).f2) != (wrap64 ((wrap64 (x1_1 + 1)) + 1))) = false := bne_eq_false_iff_eq.mpr c7
       clear c7
       by_cases c8 : ((rd_T43 l0 x5_1).f3) = (wrap64 ((wrap64 ((wrap64 (x1_1 + 1)) + 1)) + 1))
       ·rw [if_pos c8] at H
        have c8b0 : (((rd_T43 l0 x5_1).f3) == (wrap64 ((wrap64 ((wrap64 (x1_1 + 1)) + 1)) + 1))) = true := beq_iff_eq.mpr c8
        have c8b1 : (((rd_T43 l0 x5_1).f3) != (wrap64 ((wrap64 ((wrap64 (x1_1 + 1)) + 1)) + 1))) = false := bne_eq_false_iff_eq.mpr c8
        clear c8
        by_cases c9 : ((rd_T43 l0 x5_1).f4) = (wrap64 ((wrap64 ((wrap64 ((wrap64 (x1_1 + 1)) + 1)) + 1)) + 1))
        ·rw [if_pos c9] at H
         have c9b0 : (((rd_T43 l0 x5_1).f4) == (wrap64 ((wrap64 ((wrap64 ((wrap64 (x1_1 + 1)) + 1)) + 1)) + 1))) = true := beq_iff_eq.mpr c9
         have c9b1 : (((rd_T43 l0 x5_1).f4) != (wrap64 ((wrap64 ((wrap64 ((wrap64 (x1_1 + 1)) + 1)) + 1)) + 1))) = false := bne_eq_false_iff_eq.mpr c9
         clear c9
         replace H := bi H
         obtain ⟨t569, A100, H⟩ := H
         try dsimp only at H
         have A10 := Aside0.mk A100
         clear A100
         by_cases c11 : ((rd_T43 l0 x5_1).f5).toList = t569.toList
         ·rw [if_pos c11] at H
          have c11b0 : (((rd_T43 l0 x5_1).f5).toList == t569.toList) = true := beq_iff_eq.mpr c11
          have c11b1 : (((rd_T43 l0 x5_1).f5).toList != t569.toList) = false := bne_eq_false_iff_eq.mpr c11
          clear c11
          replace H := bi H
          obtain ⟨t571, A120, H⟩ := H
          try dsimp only at H
          have A12 := Aside0.mk A120
          clear A120
          by_cases c13 : ((rd_T43 l0 x5_1).f6).toList = t571.toList
          ·rw [if_pos c13] at H
           have c13b0 : (((rd_T43 l0 x5_1).f6).toList == t571.toList) = true := beq_iff_eq.mpr c13
           have c13b1 : (((rd_T43 l0 x5_1).f6).toList != t571.toList) = false := bne_eq_false_iff_eq.mpr c13
           clear c13
           have H' := Aside0.mk H
           clear H
           have p563 : 0 <= (x5_1 : Int) := oz
           have q563 : x5_1 < (l0.length : Int) := oz
           obtain ⟨ad563, e563, hx563_0, hx563_1, hx563_2, hx563_3, hx563_4, hx563_5, hx563_6⟩ := at_T43 (Kd.C_below HR0.out HB.out) x5_1 p563 q563
           cases e563
           replace p563 := eq_true p563
           replace q563 := eq_true q563
           have p564 : 0 <= (x5_1 : Int) := oz
           have q564 : x5_1 < (l0.length : Int) := oz
           obtain ⟨ad564, e564, hx564_0, hx564_1, hx564_2, hx564_3, hx564_4, hx564_5, hx564_6⟩ := at_T43 (Kd.C_below HR0.out HB.out) x5_1 p564 q564
           obtain rfl : ad563 = ad564 := (by injection e564)
           replace p564 := eq_true p564
           replace q564 := eq_true q564
           have p565 : 0 <= (x5_1 : Int) := oz
           have q565 : x5_1 < (l0.length : Int) := oz
           obtain ⟨ad565, e565, hx565_0, hx565_1, hx565_2, hx565_3, hx565_4, hx565_5, hx565_6⟩ := at_T43 (Kd.C_below HR0.out HB.out) x5_1 p565 q565
           obtain rfl : ad563 = ad565 := (by injection e565)
           replace p565 := eq_true p565
           replace q565 := eq_true q565
           have p566 : 0 <= (x5_1 : Int) := oz
           have q566 : x5_1 < (l0.length : Int) := oz
           obtain ⟨ad566, e566, hx566_0, hx566_1, hx566_2, hx566_3, hx566_4, hx566_5, hx566_6⟩ := at_T43 (Kd.C_below HR0.out HB.out) x5_1 p566 q566
           obtain rfl : ad563 = ad566 := (by injection e566)
           replace p566 := eq_true p566
           replace q566 := eq_true q566
           have p567 : 0 <= (x5_1 : Int) := oz
           have q567 : x5_1 < (l0.length : Int) := oz
           obtain ⟨ad567, e567, hx567_0, hx567_1, hx567_2, hx567_3, hx567_4, hx567_5, hx567_6⟩ := at_T43 (Kd.C_below HR0.out HB.out) x5_1 p567 q567
           obtain rfl : ad563 = ad567 := (by injection e567)
           replace p567 := eq_true p567
           replace q567 := eq_true q567
           try go_wp2
           have n0_ := Aside0.mk (below_drew1 HB.out)
           clear HB
           have HB := n0_
           clear n0_
           have p568 : 0 <= (x5_1 : Int) := oz
           have q568 : x5_1 < (l0.length : Int) := oz
           obtain ⟨ad568, e568, hx568_0, hx568_1, hx568_2, hx568_3, hx568_4, hx568_5, hx568_6⟩ := at_T43 HR0.out x5_1 p568 q568
           have hw568_6 := hx568_6
           have hw568_5 := hx568_5
           have hw568_4 := hx568_4
           have hw568_3 := hx568_3
           have hw568_2 := hx568_2
           have hw568_1 := hx568_1
           have hw568_0 := hx568_0
           obtain rfl : ad563 = ad568 := (by injection e568)
           replace hx568_0 := hz HB.out hx568_0
           replace hx568_1 := hz HB.out hx568_1
           replace hx568_2 := hz HB.out hx568_2
           replace hx568_3 := hz HB.out hx568_3
           replace hx568_4 := hz HB.out hx568_4
           replace hx568_5 := hz HB.out hx568_5
           replace hx568_6 := hz HB.out hx568_6
           replace p568 := eq_true p568
           replace q568 := eq_true q568
           refine start_ (n := 8) (S := fun w' => w'.cell? (ad563.add ((x5_1).toNat * 7)) = some (.int .i64 ((rd_T43 l0 x5_1).f0)) /\ w'.cell? ⟨(ad563.add ((x5_1).toNat * 7)).block, (ad563.add ((x5_1).toNat * 7)).off + 1, none⟩ = some (.int .i64 ((rd_T43 l0 x5_1).f1)) /\ w'.cell? ⟨(ad563.add ((x5_1).toNat * 7)).block, (ad563.add ((x5_1).toNat * 7)).off + 2, none⟩ = some (.int .i64 ((rd_T43 l0 x5_1).f2)) /\ w'.cell? ⟨(ad563.add ((x5_1).toNat * 7)).block, (ad563.add ((x5_1).toNat * 7)).off + 3, none⟩ = some (.int .i64 ((rd_T43 l0 x5_1).f3)) /\ w'.cell? ⟨(ad563.add ((x5_1).toNat * 7)).block, (ad563.add ((x5_1).toNat * 7)).off + 4, none⟩ = some (.int .i64 ((rd_T43 l0 x5_1).f4)) /\ w'.cell? ⟨(ad563.add ((x5_1).toNat * 7)).block, (ad563.add ((x5_1).toNat * 7)).off + 5, none⟩ = some (.string ((rd_T43 l0 x5_1).f5)) /\ w'.cell? ⟨(ad563.add ((x5_1).toNat * 7)).block, (ad563.add ((x5_1).toNat * 7)).off + 6, none⟩ = some (.string ((rd_T43 l0 x5_1).f6))) (ds := []) #[ff, ff, ff, ff, ff, ff, ff, ff] (by kernel_rfl) rfl rfl ⟨(hz HB.out hw568_0), (hz HB.out hw568_1), (hz HB.out hw568_2), (hz HB.out hw568_3), (hz HB.out hw568_4), (hz HB.out hw568_5), (hz HB.out hw568_6)⟩ (fun hHeld => ?_); refine with_tabW laws_heldNodeS.tab19 laws_heldNodeS.bits19 (fun HT_ HW_ => ?_)
           generalize wr.drew = w14 at HB hx568_0 hx568_1 hx568_2 hx568_3 hx568_4 hx568_5 hx568_6 hHeld ⊢
           refine pure_ (i := 0) (N := some 57) (v := ?_) (a' := ?_) #[tt, ff, ff, ff, ff, ff, ff, ff] rfl rfl (any_of HT_.out (by kernel_rfl)) (fun _ _ _ h => h) (Or.inl ⟨by rfl, ?_⟩) ?_ ?_
           rotate_left
           ·intro w'
            go_simp
            with_reducible rfl
           rotate_left
           ·simp only [Act.put, sz1, sz2, sz3, i64_w, i32_w]
            rfl
           refine pure_ (i := 1) (N := some 58) (v := ?_) (a' := ?_) #[tt, tt, ff, ff, ff, ff, ff, ff] rfl rfl (any_of HT_.out (by kernel_rfl)) (fun _ _ _ h => h) (Or.inl ⟨by rfl, ?_⟩) ?_ ?_
           rotate_left
           ·intro w'
            go_simp
            with_reducible rfl
           rotate_left
           ·simp only [Act.put, sz1, sz2, sz3, i64_w, i32_w]
            rfl
           refine pure_ (i := 2) (N := some 59) (v := ?_) (a' := ?_) #[tt, tt, tt, ff, ff, ff, ff, ff] rfl rfl (any_of HT_.out (by kernel_rfl)) (fun _ _ _ h => h) (Or.inl ⟨by rfl, ?_⟩) ?_ ?_
           rotate_left
           ·intro w'
            go_simp
            with_reducible rfl
           rotate_left
           ·simp only [Act.put, sz1, sz2, sz3, i64_w, i32_w]
            rfl
           refine pure_ (i := 3) (N := some 60) (v := ?_) (a' := ?_) #[tt, tt, tt, tt, ff, ff, ff, ff] rfl rfl (any_of HT_.out (by kernel_rfl)) (fun _ _ _ h => h) (Or.inl ⟨by rfl, ?_⟩) ?_ ?_
           rotate_left
           ·intro w'
            go_simp
            with_reducible rfl
           rotate_left
           ·simp only [Act.put, sz1, sz2, sz3, i64_w, i32_w]
            rfl
           refine pure_ (i := 5) (N := some 62) (v := ?_) (a' := ?_) #[tt, tt, tt, tt, ff, tt, ff, ff] rfl rfl (any_of HT_.out (by kernel_rfl)) (fun _ _ _ h => h) (Or.inl ⟨by rfl, ?_⟩) ?_ ?_
           rotate_left
           ·intro w'
            go_simp
            with_reducible rfl
           rotate_left
           ·simp only [Act.put, sz1, sz2, sz3, i64_w, i32_w]
            rfl
           refine take_ (i := 4) (N := some 61) (v := ?_) (a' := ?_) #[tt, tt, tt, tt, tt, tt, ff, ff] rfl rfl (take_ofW HT_.out HW_.out (by kernel_rfl)) (fun _ _ _ h => h) (Or.inl ⟨by rfl, ?_⟩) hHeld ?_ ?_
           rotate_left
           ·rintro w' ⟨s0, s1, s2, s3, s4, s5, s6⟩
            go_simp
            with_reducible rfl
           rotate_left
           ·simp only [Act.put, sz1, sz2, sz3, i64_w, i32_w]
            rfl
           refine one_ (i := 6) (N := some 63) #[tt, tt, tt, tt, tt, tt, tt, ff] rfl rfl (one_of HT_.out (by kernel_rfl)) (by decide) (fun K hK => ?_)
           refine goes_ Tryd.func48 (by kernel_rfl) rfl #[.int .i64 (wrap64 ((wrap64 ((wrap64 ((wrap64 ((wrap64 (x1_1 + 1)) + 1)) + 1)) + 1)) + 1))] (by rfl) rfl rfl lz ?_
           with_reducible refine (laws_markText.calls k1 (wrap64 ((wrap64 ((wrap64 ((wrap64 ((wrap64 (x1_1 + 1)) + 1)) + 1)) + 1)) + 1)) t569 _ A10.out).mono ?_
           rintro e w15 ⟨rfl, hb⟩
           refine ⟨_, rfl, ?_⟩
           have n0_ := Aside0.mk (below_step (bz0 HB.out) hb)
           clear HB
           have HB := n0_
           clear n0_
           (try clear hb)
           (try clear hb2)
           (try clear hk)
           (try clear hi)
           refine hK.out _ _ ⟨(hz HB.out hw568_0), (hz HB.out hw568_1), (hz HB.out hw568_2), (hz HB.out hw568_3), (hz HB.out hw568_4), (hz HB.out hw568_5), (hz HB.out hw568_6)⟩ (fun hHeld => ?_)
           clear hK K
           refine norm_ (a' := ?_) ?_ ?_
           rotate_left
           ·show Act.put _ (some 63) _ = _
            simp only [Act.put, sz1, sz2, sz3, i64_w, i32_w]
            rfl
           refine pure_ (i := 7) (N := some 64) (v := ?_) (a' := ?_) #[tt, tt, tt, tt, tt, tt, tt, tt] rfl rfl (any_of HT_.out (by kernel_rfl)) (fun _ _ _ h => h) (Or.inl ⟨by rfl, ?_⟩) ?_ ?_
           rotate_left
           ·intro w'
            go_simp
            with_reducible rfl
           rotate_left
           ·simp only [Act.put, sz1, sz2, sz3, i64_w, i32_w]
            rfl
           refine done_ (done_of HT_.out (by kernel_rfl)) ?_
           try go_wp2
           have n0_ := Aside0.mk (below_drew1 HB.out)
           clear HB
           have HB := n0_
           clear n0_
           have p570 : 0 <= (x5_1 : Int) := oz
           have q570 : x5_1 < (l0.length : Int) := oz
           obtain ⟨ad570, e570, hx570_0, hx570_1, hx570_2, hx570_3, hx570_4, hx570_5, hx570_6⟩ := at_T43 HR0.out x5_1 p570 q570
           have hw570_6 := hx570_6
           have hw570_5 := hx570_5
           have hw570_4 := hx570_4
           have hw570_3 := hx570_3
           have hw570_2 := hx570_2
           have hw570_1 := hx570_1
           have hw570_0 := hx570_0
           obtain rfl : ad563 = ad570 := (by injection e570)
           replace hx570_0 := hz HB.out hx570_0
           replace hx570_1 := hz HB.out hx570_1
           replace hx570_2 := hz HB.out hx570_2
           replace hx570_3 := hz HB.out hx570_3
           replace hx570_4 := hz HB.out hx570_4
           replace hx570_5 := hz HB.out hx570_5
           replace hx570_6 := hz HB.out hx570_6
           replace p570 := eq_true p570
           replace q570 := eq_true q570
           refine start_ (n := 8) (S := fun w' => w'.cell? (ad563.add ((x5_1).toNat * 7)) = some (.int .i64 ((rd_T43 l0 x5_1).f0)) /\ w'.cell? ⟨(ad563.add ((x5_1).toNat * 7)).block, (ad563.add ((x5_1).toNat * 7)).off + 1, none⟩ = some (.int .i64 ((rd_T43 l0 x5_1).f1)) /\ w'.cell? ⟨(ad563.add ((x5_1).toNat * 7)).block, (ad563.add ((x5_1).toNat * 7)).off + 2, none⟩ = some (.int .i64 ((rd_T43 l0 x5_1).f2)) /\ w'.cell? ⟨(ad563.add ((x5_1).toNat * 7)).block, (ad563.add ((x5_1).toNat * 7)).off + 3, none⟩ = some (.int .i64 ((rd_T43 l0 x5_1).f3)) /\ w'.cell? ⟨(ad563.add ((x5_1).toNat * 7)).block, (ad563.add ((x5_1).toNat * 7)).off + 4, none⟩ = some (.int .i64 ((rd_T43 l0 x5_1).f4)) /\ w'.cell? ⟨(ad563.add ((x5_1).toNat * 7)).block, (ad563.add ((x5_1).toNat * 7)).off + 5, none⟩ = some (.string ((rd_T43 l0 x5_1).f5)) /\ w'.cell? ⟨(ad563.add ((x5_1).toNat * 7)).block, (ad563.add ((x5_1).toNat * 7)).off + 6, none⟩ = some (.string ((rd_T43 l0 x5_1).f6))) (ds := []) #[ff, ff, ff, ff, ff, ff, ff, ff] (by kernel_rfl) rfl rfl ⟨(hz HB.out hw570_0), (hz HB.out hw570_1), (hz HB.out hw570_2), (hz HB.out hw570_3), (hz HB.out hw570_4), (hz HB.out hw570_5), (hz HB.out hw570_6)⟩ (fun hHeld => ?_); refine with_tabW laws_heldNodeS.tab22 laws_heldNodeS.bits22 (fun HT_ HW_ => ?_)
           generalize w15.drew = w16 at HB hx570_0 hx570_1 hx570_2 hx570_3 hx570_4 hx570_5 hx570_6 hHeld ⊢
           refine pure_ (i := 0) (N := some 67) (v := ?_) (a' := ?_) #[tt, ff, ff, ff, ff, ff, ff, ff] rfl rfl (any_of HT_.out (by kernel_rfl)) (fun _ _ _ h => h) (Or.inl ⟨by rfl, ?_⟩) ?_ ?_
           rotate_left
           ·intro w'
            go_simp
            with_reducible rfl
           rotate_left
           ·simp only [Act.put, sz1, sz2, sz3, i64_w, i32_w]
            rfl
           refine pure_ (i := 1) (N := some 68) (v := ?_) (a' := ?_) #[tt, tt, ff, ff, ff, ff, ff, ff] rfl rfl (any_of HT_.out (by kernel_rfl)) (fun _ _ _ h => h) (Or.inl ⟨by rfl, ?_⟩) ?_ ?_
           rotate_left
           ·intro w'
            go_simp
            with_reducible rfl
           rotate_left
           ·simp only [Act.put, sz1, sz2, sz3, i64_w, i32_w]
            rfl
           refine pure_ (i := 2) (N := some 69) (v := ?_) (a' := ?_) #[tt, tt, tt, ff, ff, ff, ff, ff] rfl rfl (any_of HT_.out (by kernel_rfl)) (fun _ _ _ h => h) (Or.inl ⟨by rfl, ?_⟩) ?_ ?_
           rotate_left
           ·intro w'
            go_simp
            with_reducible rfl
           rotate_left
           ·simp only [Act.put, sz1, sz2, sz3, i64_w, i32_w]
            rfl
           refine pure_ (i := 3) (N := some 70) (v := ?_) (a' := ?_) #[tt, tt, tt, tt, ff, ff, ff, ff] rfl rfl (any_of HT_.out (by kernel_rfl)) (fun _ _ _ h => h) (Or.inl ⟨by rfl, ?_⟩) ?_ ?_
           rotate_left
           ·intro w'
            go_simp
            with_reducible rfl
           rotate_left
           ·simp only [Act.put, sz1, sz2, sz3, i64_w, i32_w]
            rfl
           refine pure_ (i := 5) (N := some 72) (v := ?_) (a' := ?_) #[tt, tt, tt, tt, ff, tt, ff, ff] rfl rfl (any_of HT_.out (by kernel_rfl)) (fun _ _ _ h => h) (Or.inl ⟨by rfl, ?_⟩) ?_ ?_
           rotate_left
           ·intro w'
            go_simp
            with_reducible rfl
           rotate_left
           ·simp only [Act.put, sz1, sz2, sz3, i64_w, i32_w]
            rfl
           refine take_ (i := 4) (N := some 71) (v := ?_) (a' := ?_) #[tt, tt, tt, tt, tt, tt, ff, ff] rfl rfl (take_ofW HT_.out HW_.out (by kernel_rfl)) (fun _ _ _ h => h) (Or.inl ⟨by rfl, ?_⟩) hHeld ?_ ?_
           rotate_left
           ·rintro w' ⟨s0, s1, s2, s3, s4, s5, s6⟩
            go_simp
            with_reducible rfl
           rotate_left
           ·simp only [Act.put, sz1, sz2, sz3, i64_w, i32_w]
            rfl
           refine one_ (i := 6) (N := some 73) #[tt, tt, tt, tt, tt, tt, tt, ff] rfl rfl (one_of HT_.out (by kernel_rfl)) (by decide) (fun K hK => ?_)
           refine goes_ Tryd.func48 (by kernel_rfl) rfl #[.int .i64 (wrap64 ((wrap64 ((wrap64 ((wrap64 ((wrap64 ((wrap64 (x1_1 + 1)) + 1)) + 1)) + 1)) + 1)) + 1))] (by rfl) rfl rfl lz ?_
           with_reducible refine (laws_markText.calls k1 (wrap64 ((wrap64 ((wrap64 ((wrap64 ((wrap64 ((wrap64 (x1_1 + 1)) + 1)) + 1)) + 1)) + 1)) + 1)) t571 _ A12.out).mono ?_
           rintro e w17 ⟨rfl, hb⟩
           refine ⟨_, rfl, ?_⟩
           have n0_ := Aside0.mk (below_step (bz0 HB.out) hb)
           clear HB
           have HB := n0_
           clear n0_
           (try clear hb)
           (try clear hb2)
           (try clear hk)
           (try clear hi)
           refine hK.out _ _ ⟨(hz HB.out hw570_0), (hz HB.out hw570_1), (hz HB.out hw570_2), (hz HB.out hw570_3), (hz HB.out hw570_4), (hz HB.out hw570_5), (hz HB.out hw570_6)⟩ (fun hHeld => ?_)
           clear hK K
           refine norm_ (a' := ?_) ?_ ?_
           rotate_left
           ·show Act.put _ (some 73) _ = _
            simp only [Act.put, sz1, sz2, sz3, i64_w, i32_w]
            rfl
           refine pure_ (i := 7) (N := some 74) (v := ?_) (a' := ?_) #[tt, tt, tt, tt, tt, tt, tt, tt] rfl rfl (any_of HT_.out (by kernel_rfl)) (fun _ _ _ h => h) (Or.inl ⟨by rfl, ?_⟩) ?_ ?_
           rotate_left
           ·intro w'
            go_simp
            with_reducible rfl
           rotate_left
           ·simp only [Act.put, sz1, sz2, sz3, i64_w, i32_w]
            rfl
           refine done_ (done_of HT_.out (by kernel_rfl)) ?_
           try go_wp2
           go_roundg k1
           case measure => have := HK1.out; omega
           case rel => exact ⟨(wrap64 ((wrap64 ((wrap64 ((wrap64 ((wrap64 ((wrap64 ((wrap64 (x1_1 + 1)) + 1)) + 1)) + 1)) + 1)) + 1)) + 1)), (wrap64 (x5_1 + 1)), ez, ez, H', ⟨by have := HK1.out; omega⟩, ⟨(bz0 HB.out)⟩⟩
          ·rw [if_neg c13] at H
           have c13b0 : (((rd_T43 l0 x5_1).f6).toList == t571.toList) = false := beq_eq_false_iff_ne.mpr c13
           have c13b1 : (((rd_T43 l0 x5_1).f6).toList != t571.toList) = true := bne_iff_ne.mpr c13
           obtain rfl := Option.some.inj H
           have p563 : 0 <= (x5_1 : Int) := oz
           have q563 : x5_1 < (l0.length : Int) := oz
           obtain ⟨ad563, e563, hx563_0, hx563_1, hx563_2, hx563_3, hx563_4, hx563_5, hx563_6⟩ := at_T43 (Kd.C_below HR0.out HB.out) x5_1 p563 q563
           cases e563
           replace p563 := eq_true p563
           replace q563 := eq_true q563
           have p564 : 0 <= (x5_1 : Int) := oz
           have q564 : x5_1 < (l0.length : Int) := oz
           obtain ⟨ad564, e564, hx564_0, hx564_1, hx564_2, hx564_3, hx564_4, hx564_5, hx564_6⟩ := at_T43 (Kd.C_below HR0.out HB.out) x5_1 p564 q564
           obtain rfl : ad563 = ad564 := (by injection e564)
           replace p564 := eq_true p564
           replace q564 := eq_true q564
           have p565 : 0 <= (x5_1 : Int) := oz
           have q565 : x5_1 < (l0.length : Int) := oz
           obtain ⟨ad565, e565, hx565_0, hx565_1, hx565_2, hx565_3, hx565_4, hx565_5, hx565_6⟩ := at_T43 (Kd.C_below HR0.out HB.out) x5_1 p565 q565
           obtain rfl : ad563 = ad565 := (by injection e565)
           replace p565 := eq_true p565
           replace q565 := eq_true q565
           have p566 : 0 <= (x5_1 : Int) := oz
           have q566 : x5_1 < (l0.length : Int) := oz
           obtain ⟨ad566, e566, hx566_0, hx566_1, hx566_2, hx566_3, hx566_4, hx566_5, hx566_6⟩ := at_T43 (Kd.C_below HR0.out HB.out) x5_1 p566 q566
           obtain rfl : ad563 = ad566 := (by injection e566)
           replace p566 := eq_true p566
           replace q566 := eq_true q566
           have p567 : 0 <= (x5_1 : Int) := oz
           have q567 : x5_1 < (l0.length : Int) := oz
           obtain ⟨ad567, e567, hx567_0, hx567_1, hx567_2, hx567_3, hx567_4, hx567_5, hx567_6⟩ := at_T43 (Kd.C_below HR0.out HB.out) x5_1 p567 q567
           obtain rfl : ad563 = ad567 := (by injection e567)
           replace p567 := eq_true p567
           replace q567 := eq_true q567
           try go_wp2
           have n0_ := Aside0.mk (below_drew1 HB.out)
           clear HB
           have HB := n0_
           clear n0_
           have p568 : 0 <= (x5_1 : Int) := oz
           have q568 : x5_1 < (l0.length : Int) := oz
           obtain ⟨ad568, e568, hx568_0, hx568_1, hx568_2, hx568_3, hx568_4, hx568_5, hx568_6⟩ := at_T43 HR0.out x5_1 p568 q568
           have hw568_6 := hx568_6
           have hw568_5 := hx568_5
           have hw568_4 := hx568_4
           have hw568_3 := hx568_3
           have hw568_2 := hx568_2
           have hw568_1 := hx568_1
           have hw568_0 := hx568_0
           obtain rfl : ad563 = ad568 := (by injection e568)
           replace hx568_0 := hz HB.out hx568_0
           replace hx568_1 := hz HB.out hx568_1
           replace hx568_2 := hz HB.out hx568_2
           replace hx568_3 := hz HB.out hx568_3
           replace hx568_4 := hz HB.out hx568_4
           replace hx568_5 := hz HB.out hx568_5
           replace hx568_6 := hz HB.out hx568_6
           replace p568 := eq_true p568
           replace q568 := eq_true q568
           refine start_ (n := 8) (S := fun w' => w'.cell? (ad563.add ((x5_1).toNat * 7)) = some (.int .i64 ((rd_T43 l0 x5_1).f0)) /\ w'.cell? ⟨(ad563.add ((x5_1).toNat * 7)).block, (ad563.add ((x5_1).toNat * 7)).off + 1, none⟩ = some (.int .i64 ((rd_T43 l0 x5_1).f1)) /\ w'.cell? ⟨(ad563.add ((x5_1).toNat * 7)).block, (ad563.add ((x5_1).toNat * 7)).off + 2, none⟩ = some (.int .i64 ((rd_T43 l0 x5_1).f2)) /\ w'.cell? ⟨(ad563.add ((x5_1).toNat * 7)).block, (ad563.add ((x5_1).toNat * 7)).off + 3, none⟩ = some (.int .i64 ((rd_T43 l0 x5_1).f3)) /\ w'.cell? ⟨(ad563.add ((x5_1).toNat * 7)).block, (ad563.add ((x5_1).toNat * 7)).off + 4, none⟩ = some (.int .i64 ((rd_T43 l0 x5_1).f4)) /\ w'.cell? ⟨(ad563.add ((x5_1).toNat * 7)).block, (ad563.add ((x5_1).toNat * 7)).off + 5, none⟩ = some (.string ((rd_T43 l0 x5_1).f5)) /\ w'.cell? ⟨(ad563.add ((x5_1).toNat * 7)).block, (ad563.add ((x5_1).toNat * 7)).off + 6, none⟩ = some (.string ((rd_T43 l0 x5_1).f6))) (ds := []) #[ff, ff, ff, ff, ff, ff, ff, ff] (by kernel_rfl) rfl rfl ⟨(hz HB.out hw568_0), (hz HB.out hw568_1), (hz HB.out hw568_2), (hz HB.out hw568_3), (hz HB.out hw568_4), (hz HB.out hw568_5), (hz HB.out hw568_6)⟩ (fun hHeld => ?_); refine with_tabW laws_heldNodeS.tab19 laws_heldNodeS.bits19 (fun HT_ HW_ => ?_)
           generalize wr.drew = w18 at HB hx568_0 hx568_1 hx568_2 hx568_3 hx568_4 hx568_5 hx568_6 hHeld ⊢
           refine pure_ (i := 0) (N := some 57) (v := ?_) (a' := ?_) #[tt, ff, ff, ff, ff, ff, ff, ff] rfl rfl (any_of HT_.out (by kernel_rfl)) (fun _ _ _ h => h) (Or.inl ⟨by rfl, ?_⟩) ?_ ?_
           rotate_left
           ·intro w'
            go_simp
            with_reducible rfl
           rotate_left
           ·simp only [Act.put, sz1, sz2, sz3, i64_w, i32_w]
            rfl
           refine pure_ (i := 1) (N := some 58) (v := ?_) (a' := ?_) #[tt, tt, ff, ff, ff, ff, ff, ff] rfl rfl (any_of HT_.out (by kernel_rfl)) (fun _ _ _ h => h) (Or.inl ⟨by rfl, ?_⟩) ?_ ?_
           rotate_left
           ·intro w'
            go_simp
            with_reducible rfl
           rotate_left
           ·simp only [Act.put, sz1, sz2, sz3, i64_w, i32_w]
            rfl
           refine pure_ (i := 2) (N := some 59) (v := ?_) (a' := ?_) #[tt, tt, tt, ff, ff, ff, ff, ff] rfl rfl (any_of HT_.out (by kernel_rfl)) (fun _ _ _ h => h) (Or.inl ⟨by rfl, ?_⟩) ?_ ?_
           rotate_left
           ·intro w'
            go_simp
            with_reducible rfl
           rotate_left
           ·simp only [Act.put, sz1, sz2, sz3, i64_w, i32_w]
            rfl
           refine pure_ (i := 3) (N := some 60) (v := ?_) (a' := ?_) #[tt, tt, tt, tt, ff, ff, ff, ff] rfl rfl (any_of HT_.out (by kernel_rfl)) (fun _ _ _ h => h) (Or.inl ⟨by rfl, ?_⟩) ?_ ?_
           rotate_left
           ·intro w'
            go_simp
            with_reducible rfl
           rotate_left
           ·simp only [Act.put, sz1, sz2, sz3, i64_w, i32_w]
            rfl
           refine pure_ (i := 5) (N := some 62) (v := ?_) (a' := ?_) #[tt, tt, tt, tt, ff, tt, ff, ff] rfl rfl (any_of HT_.out (by kernel_rfl)) (fun _ _ _ h => h) (Or.inl ⟨by rfl, ?_⟩) ?_ ?_
           rotate_left
           ·intro w'
            go_simp
            with_reducible rfl
           rotate_left
           ·simp only [Act.put, sz1, sz2, sz3, i64_w, i32_w]
            rfl
           refine take_ (i := 4) (N := some 61) (v := ?_) (a' := ?_) #[tt, tt, tt, tt, tt, tt, ff, ff] rfl rfl (take_ofW HT_.out HW_.out (by kernel_rfl)) (fun _ _ _ h => h) (Or.inl ⟨by rfl, ?_⟩) hHeld ?_ ?_
           rotate_left
           ·rintro w' ⟨s0, s1, s2, s3, s4, s5, s6⟩
            go_simp
            with_reducible rfl
           rotate_left
           ·simp only [Act.put, sz1, sz2, sz3, i64_w, i32_w]
            rfl
           refine one_ (i := 6) (N := some 63) #[tt, tt, tt, tt, tt, tt, tt, ff] rfl rfl (one_of HT_.out (by kernel_rfl)) (by decide) (fun K hK => ?_)
           refine goes_ Tryd.func48 (by kernel_rfl) rfl #[.int .i64 (wrap64 ((wrap64 ((wrap64 ((wrap64 ((wrap64 (x1_1 + 1)) + 1)) + 1)) + 1)) + 1))] (by rfl) rfl rfl lz ?_
           with_reducible refine (laws_markText.calls k1 (wrap64 ((wrap64 ((wrap64 ((wrap64 ((wrap64 (x1_1 + 1)) + 1)) + 1)) + 1)) + 1)) t569 _ A10.out).mono ?_
           rintro e w19 ⟨rfl, hb⟩
           refine ⟨_, rfl, ?_⟩
           have n0_ := Aside0.mk (below_step (bz0 HB.out) hb)
           clear HB
           have HB := n0_
           clear n0_
           (try clear hb)
           (try clear hb2)
           (try clear hk)
           (try clear hi)
           refine hK.out _ _ ⟨(hz HB.out hw568_0), (hz HB.out hw568_1), (hz HB.out hw568_2), (hz HB.out hw568_3), (hz HB.out hw568_4), (hz HB.out hw568_5), (hz HB.out hw568_6)⟩ (fun hHeld => ?_)
           clear hK K
           refine norm_ (a' := ?_) ?_ ?_
           rotate_left
           ·show Act.put _ (some 63) _ = _
            simp only [Act.put, sz1, sz2, sz3, i64_w, i32_w]
            rfl
           refine pure_ (i := 7) (N := some 64) (v := ?_) (a' := ?_) #[tt, tt, tt, tt, tt, tt, tt, tt] rfl rfl (any_of HT_.out (by kernel_rfl)) (fun _ _ _ h => h) (Or.inl ⟨by rfl, ?_⟩) ?_ ?_
           rotate_left
           ·intro w'
            go_simp
            with_reducible rfl
           rotate_left
           ·simp only [Act.put, sz1, sz2, sz3, i64_w, i32_w]
            rfl
           refine done_ (done_of HT_.out (by kernel_rfl)) ?_
           try go_wp2
           have n0_ := Aside0.mk (below_drew1 HB.out)
           clear HB
           have HB := n0_
           clear n0_
           have p570 : 0 <= (x5_1 : Int) := oz
           have q570 : x5_1 < (l0.length : Int) := oz
           obtain ⟨ad570, e570, hx570_0, hx570_1, hx570_2, hx570_3, hx570_4, hx570_5, hx570_6⟩ := at_T43 HR0.out x5_1 p570 q570
           have hw570_6 := hx570_6
           have hw570_5 := hx570_5
           have hw570_4 := hx570_4
           have hw570_3 := hx570_3
           have hw570_2 := hx570_2
           have hw570_1 := hx570_1
           have hw570_0 := hx570_0
           obtain rfl : ad563 = ad570 := (by injection e570)
           replace hx570_0 := hz HB.out hx570_0
           replace hx570_1 := hz HB.out hx570_1
           replace hx570_2 := hz HB.out hx570_2
           replace hx570_3 := hz HB.out hx570_3
           replace hx570_4 := hz HB.out hx570_4
           replace hx570_5 := hz HB.out hx570_5
           replace hx570_6 := hz HB.out hx570_6
           replace p570 := eq_true p570
           replace q570 := eq_true q570
           refine start_ (n := 8) (S := fun w' => w'.cell? (ad563.add ((x5_1).toNat * 7)) = some (.int .i64 ((rd_T43 l0 x5_1).f0)) /\ w'.cell? ⟨(ad563.add ((x5_1).toNat * 7)).block, (ad563.add ((x5_1).toNat * 7)).off + 1, none⟩ = some (.int .i64 ((rd_T43 l0 x5_1).f1)) /\ w'.cell? ⟨(ad563.add ((x5_1).toNat * 7)).block, (ad563.add ((x5_1).toNat * 7)).off + 2, none⟩ = some (.int .i64 ((rd_T43 l0 x5_1).f2)) /\ w'.cell? ⟨(ad563.add ((x5_1).toNat * 7)).block, (ad563.add ((x5_1).toNat * 7)).off + 3, none⟩ = some (.int .i64 ((rd_T43 l0 x5_1).f3)) /\ w'.cell? ⟨(ad563.add ((x5_1).toNat * 7)).block, (ad563.add ((x5_1).toNat * 7)).off + 4, none⟩ = some (.int .i64 ((rd_T43 l0 x5_1).f4)) /\ w'.cell? ⟨(ad563.add ((x5_1).toNat * 7)).block, (ad563.add ((x5_1).toNat * 7)).off + 5, none⟩ = some (.string ((rd_T43 l0 x5_1).f5)) /\ w'.cell? ⟨(ad563.add ((x5_1).toNat * 7)).block, (ad563.add ((x5_1).toNat * 7)).off + 6, none⟩ = some (.string ((rd_T43 l0 x5_1).f6))) (ds := []) #[ff, ff, ff, ff, ff, ff, ff, ff] (by kernel_rfl) rfl rfl ⟨(hz HB.out hw570_0), (hz HB.out hw570_1), (hz HB.out hw570_2), (hz HB.out hw570_3), (hz HB.out hw570_4), (hz HB.out hw570_5), (hz HB.out hw570_6)⟩ (fun hHeld => ?_); refine with_tabW laws_heldNodeS.tab22 laws_heldNodeS.bits22 (fun HT_ HW_ => ?_)
           generalize w19.drew = w20 at HB hx570_0 hx570_1 hx570_2 hx570_3 hx570_4 hx570_5 hx570_6 hHeld ⊢
           refine pure_ (i := 0) (N := some 67) (v := ?_) (a' := ?_) #[tt, ff, ff, ff, ff, ff, ff, ff] rfl rfl (any_of HT_.out (by kernel_rfl)) (fun _ _ _ h => h) (Or.inl ⟨by rfl, ?_⟩) ?_ ?_
           rotate_left
           ·intro w'
            go_simp
            with_reducible rfl
           rotate_left
           ·simp only [Act.put, sz1, sz2, sz3, i64_w, i32_w]
            rfl
           refine pure_ (i := 1) (N := some 68) (v := ?_) (a' := ?_) #[tt, tt, ff, ff, ff, ff, ff, ff] rfl rfl (any_of HT_.out (by kernel_rfl)) (fun _ _ _ h => h) (Or.inl ⟨by rfl, ?_⟩) ?_ ?_
           rotate_left
           ·intro w'
            go_simp
            with_reducible rfl
           rotate_left
           ·simp only [Act.put, sz1, sz2, sz3, i64_w, i32_w]
            rfl
           refine pure_ (i := 2) (N := some 69) (v := ?_) (a' := ?_) #[tt, tt, tt, ff, ff, ff, ff, ff] rfl rfl (any_of HT_.out (by kernel_rfl)) (fun _ _ _ h => h) (Or.inl ⟨by rfl, ?_⟩) ?_ ?_
           rotate_left
           ·intro w'
            go_simp
            with_reducible rfl
           rotate_left
           ·simp only [Act.put, sz1, sz2, sz3, i64_w, i32_w]
            rfl
           refine pure_ (i := 3) (N := some 70) (v := ?_) (a' := ?_) #[tt, tt, tt, tt, ff, ff, ff, ff] rfl rfl (any_of HT_.out (by kernel_rfl)) (fun _ _ _ h => h) (Or.inl ⟨by rfl, ?_⟩) ?_ ?_
           rotate_left
           ·intro w'
            go_simp
            with_reducible rfl
           rotate_left
           ·simp only [Act.put, sz1, sz2, sz3, i64_w, i32_w]
            rfl
           refine pure_ (i := 5) (N := some 72) (v := ?_) (a' := ?_) #[tt, tt, tt, tt, ff, tt, ff, ff] rfl rfl (any_of HT_.out (by kernel_rfl)) (fun _ _ _ h => h) (Or.inl ⟨by rfl, ?_⟩) ?_ ?_
           rotate_left
           ·intro w'
            go_simp
            with_reducible rfl
           rotate_left
           ·simp only [Act.put, sz1, sz2, sz3, i64_w, i32_w]
            rfl
           refine take_ (i := 4) (N := some 71) (v := ?_) (a' := ?_) #[tt, tt, tt, tt, tt, tt, ff, ff] rfl rfl (take_ofW HT_.out HW_.out (by kernel_rfl)) (fun _ _ _ h => h) (Or.inl ⟨by rfl, ?_⟩) hHeld ?_ ?_
           rotate_left
           ·rintro w' ⟨s0, s1, s2, s3, s4, s5, s6⟩
            go_simp
            with_reducible rfl
           rotate_left
           ·simp only [Act.put, sz1, sz2, sz3, i64_w, i32_w]
            rfl
           refine one_ (i := 6) (N := some 73) #[tt, tt, tt, tt, tt, tt, tt, ff] rfl rfl (one_of HT_.out (by kernel_rfl)) (by decide) (fun K hK => ?_)
           refine goes_ Tryd.func48 (by kernel_rfl) rfl #[.int .i64 (wrap64 ((wrap64 ((wrap64 ((wrap64 ((wrap64 ((wrap64 (x1_1 + 1)) + 1)) + 1)) + 1)) + 1)) + 1))] (by rfl) rfl rfl lz ?_
           with_reducible refine (laws_markText.calls k1 (wrap64 ((wrap64 ((wrap64 ((wrap64 ((wrap64 ((wrap64 (x1_1 + 1)) + 1)) + 1)) + 1)) + 1)) + 1)) t571 _ A12.out).mono ?_
           rintro e w21 ⟨rfl, hb⟩
           refine ⟨_, rfl, ?_⟩
           have n0_ := Aside0.mk (below_step (bz0 HB.out) hb)
           clear HB
           have HB := n0_
           clear n0_
           (try clear hb)
           (try clear hb2)
           (try clear hk)
           (try clear hi)
           refine hK.out _ _ ⟨(hz HB.out hw570_0), (hz HB.out hw570_1), (hz HB.out hw570_2), (hz HB.out hw570_3), (hz HB.out hw570_4), (hz HB.out hw570_5), (hz HB.out hw570_6)⟩ (fun hHeld => ?_)
           clear hK K
           refine norm_ (a' := ?_) ?_ ?_
           rotate_left
           ·show Act.put _ (some 73) _ = _
            simp only [Act.put, sz1, sz2, sz3, i64_w, i32_w]
            rfl
           refine pure_ (i := 7) (N := some 74) (v := ?_) (a' := ?_) #[tt, tt, tt, tt, tt, tt, tt, tt] rfl rfl (any_of HT_.out (by kernel_rfl)) (fun _ _ _ h => h) (Or.inl ⟨by rfl, ?_⟩) ?_ ?_
           rotate_left
           ·intro w'
            go_simp
            with_reducible rfl
           rotate_left
           ·simp only [Act.put, sz1, sz2, sz3, i64_w, i32_w]
            rfl
           refine done_ (done_of HT_.out (by kernel_rfl)) ?_
           try go_wp2
           go_ret
           exact ⟨gz, (bz0 HB.out)⟩
         ·rw [if_neg c11] at H
          have c11b0 : (((rd_T43 l0 x5_1).f5).toList == t569.toList) = false := beq_eq_false_iff_ne.mpr c11
          have c11b1 : (((rd_T43 l0 x5_1).f5).toList != t569.toList) = true := bne_iff_ne.mpr c11
          obtain rfl := Option.some.inj H
          have p563 : 0 <= (x5_1 : Int) := oz
          have q563 : x5_1 < (l0.length : Int) := oz
          obtain ⟨ad563, e563, hx563_0, hx563_1, hx563_2, hx563_3, hx563_4, hx563_5, hx563_6⟩ := at_T43 (Kd.C_below HR0.out HB.out) x5_1 p563 q563
          cases e563
          replace p563 := eq_true p563
          replace q563 := eq_true q563
          have p564 : 0 <= (x5_1 : Int) := oz
          have q564 : x5_1 < (l0.length : Int) := oz
          obtain ⟨ad564, e564, hx564_0, hx564_1, hx564_2, hx564_3, hx564_4, hx564_5, hx564_6⟩ := at_T43 (Kd.C_below HR0.out HB.out) x5_1 p564 q564
          obtain rfl : ad563 = ad564 := (by injection e564)
          replace p564 := eq_true p564
          replace q564 := eq_true q564
          have p565 : 0 <= (x5_1 : Int) := oz
          have q565 : x5_1 < (l0.length : Int) := oz
          obtain ⟨ad565, e565, hx565_0, hx565_1, hx565_2, hx565_3, hx565_4, hx565_5, hx565_6⟩ := at_T43 (Kd.C_below HR0.out HB.out) x5_1 p565 q565
          obtain rfl : ad563 = ad565 := (by injection e565)
          replace p565 := eq_true p565
          replace q565 := eq_true q565
          have p566 : 0 <= (x5_1 : Int) := oz
          have q566 : x5_1 < (l0.length : Int) := oz
          obtain ⟨ad566, e566, hx566_0, hx566_1, hx566_2, hx566_3, hx566_4, hx566_5, hx566_6⟩ := at_T43 (Kd.C_below HR0.out HB.out) x5_1 p566 q566
          obtain rfl : ad563 = ad566 := (by injection e566)
          replace p566 := eq_true p566
          replace q566 := eq_true q566
          have p567 : 0 <= (x5_1 : Int) := oz
          have q567 : x5_1 < (l0.length : Int) := oz
          obtain ⟨ad567, e567, hx567_0, hx567_1, hx567_2, hx567_3, hx567_4, hx567_5, hx567_6⟩ := at_T43 (Kd.C_below HR0.out HB.out) x5_1 p567 q567
          obtain rfl : ad563 = ad567 := (by injection e567)
          replace p567 := eq_true p567
          replace q567 := eq_true q567
          try go_wp2
          have n0_ := Aside0.mk (below_drew1 HB.out)
          clear HB
          have HB := n0_
          clear n0_
          have p568 : 0 <= (x5_1 : Int) := oz
          have q568 : x5_1 < (l0.length : Int) := oz
          obtain ⟨ad568, e568, hx568_0, hx568_1, hx568_2, hx568_3, hx568_4, hx568_5, hx568_6⟩ := at_T43 HR0.out x5_1 p568 q568
          have hw568_6 := hx568_6
          have hw568_5 := hx568_5
          have hw568_4 := hx568_4
          have hw568_3 := hx568_3
          have hw568_2 := hx568_2
          have hw568_1 := hx568_1
          have hw568_0 := hx568_0
          obtain rfl : ad563 = ad568 := (by injection e568)
          replace hx568_0 := hz HB.out hx568_0
          replace hx568_1 := hz HB.out hx568_1
          replace hx568_2 := hz HB.out hx568_2
          replace hx568_3 := hz HB.out hx568_3
          replace hx568_4 := hz HB.out hx568_4
          replace hx568_5 := hz HB.out hx568_5
          replace hx568_6 := hz HB.out hx568_6
          replace p568 := eq_true p568
          replace q568 := eq_true q568
          refine start_ (n := 8) (S := fun w' => w'.cell? (ad563.add ((x5_1).toNat * 7)) = some (.int .i64 ((rd_T43 l0 x5_1).f0)) /\ w'.cell? ⟨(ad563.add ((x5_1).toNat * 7)).block, (ad563.add ((x5_1).toNat * 7)).off + 1, none⟩ = some (.int .i64 ((rd_T43 l0 x5_1).f1)) /\ w'.cell? ⟨(ad563.add ((x5_1).toNat * 7)).block, (ad563.add ((x5_1).toNat * 7)).off + 2, none⟩ = some (.int .i64 ((rd_T43 l0 x5_1).f2)) /\ w'.cell? ⟨(ad563.add ((x5_1).toNat * 7)).block, (ad563.add ((x5_1).toNat * 7)).off + 3, none⟩ = some (.int .i64 ((rd_T43 l0 x5_1).f3)) /\ w'.cell? ⟨(ad563.add ((x5_1).toNat * 7)).block, (ad563.add ((x5_1).toNat * 7)).off + 4, none⟩ = some (.int .i64 ((rd_T43 l0 x5_1).f4)) /\ w'.cell? ⟨(ad563.add ((x5_1).toNat * 7)).block, (ad563.add ((x5_1).toNat * 7)).off + 5, none⟩ = some (.string ((rd_T43 l0 x5_1).f5)) /\ w'.cell? ⟨(ad563.add ((x5_1).toNat * 7)).block, (ad563.add ((x5_1).toNat * 7)).off + 6, none⟩ = some (.string ((rd_T43 l0 x5_1).f6))) (ds := []) #[ff, ff, ff, ff, ff, ff, ff, ff] (by kernel_rfl) rfl rfl ⟨(hz HB.out hw568_0), (hz HB.out hw568_1), (hz HB.out hw568_2), (hz HB.out hw568_3), (hz HB.out hw568_4), (hz HB.out hw568_5), (hz HB.out hw568_6)⟩ (fun hHeld => ?_); refine with_tabW laws_heldNodeS.tab19 laws_heldNodeS.bits19 (fun HT_ HW_ => ?_)
          generalize wr.drew = w22 at HB hx568_0 hx568_1 hx568_2 hx568_3 hx568_4 hx568_5 hx568_6 hHeld ⊢
          refine pure_ (i := 0) (N := some 57) (v := ?_) (a' := ?_) #[tt, ff, ff, ff, ff, ff, ff, ff] rfl rfl (any_of HT_.out (by kernel_rfl)) (fun _ _ _ h => h) (Or.inl ⟨by rfl, ?_⟩) ?_ ?_
          rotate_left
          ·intro w'
           go_simp
           with_reducible rfl
          rotate_left
          ·simp only [Act.put, sz1, sz2, sz3, i64_w, i32_w]
           rfl
          refine pure_ (i := 1) (N := some 58) (v := ?_) (a' := ?_) #[tt, tt, ff, ff, ff, ff, ff, ff] rfl rfl (any_of HT_.out (by kernel_rfl)) (fun _ _ _ h => h) (Or.inl ⟨by rfl, ?_⟩) ?_ ?_
          rotate_left
          ·intro w'
           go_simp
           with_reducible rfl
          rotate_left
          ·simp only [Act.put, sz1, sz2, sz3, i64_w, i32_w]
           rfl
          refine pure_ (i := 2) (N := some 59) (v := ?_) (a' := ?_) #[tt, tt, tt, ff, ff, ff, ff, ff] rfl rfl (any_of HT_.out (by kernel_rfl)) (fun _ _ _ h => h) (Or.inl ⟨by rfl, ?_⟩) ?_ ?_
          rotate_left
          ·intro w'
           go_simp
           with_reducible rfl
          rotate_left
          ·simp only [Act.put, sz1, sz2, sz3, i64_w, i32_w]
           rfl
          refine pure_ (i := 3) (N := some 60) (v := ?_) (a' := ?_) #[tt, tt, tt, tt, ff, ff, ff, ff] rfl rfl (any_of HT_.out (by kernel_rfl)) (fun _ _ _ h => h) (Or.inl ⟨by rfl, ?_⟩) ?_ ?_
          rotate_left
          ·intro w'
           go_simp
           with_reducible rfl
          rotate_left
          ·simp only [Act.put, sz1, sz2, sz3, i64_w, i32_w]
           rfl
          refine pure_ (i := 5) (N := some 62) (v := ?_) (a' := ?_) #[tt, tt, tt, tt, ff, tt, ff, ff] rfl rfl (any_of HT_.out (by kernel_rfl)) (fun _ _ _ h => h) (Or.inl ⟨by rfl, ?_⟩) ?_ ?_
          rotate_left
          ·intro w'
           go_simp
           with_reducible rfl
          rotate_left
          ·simp only [Act.put, sz1, sz2, sz3, i64_w, i32_w]
           rfl
          refine take_ (i := 4) (N := some 61) (v := ?_) (a' := ?_) #[tt, tt, tt, tt, tt, tt, ff, ff] rfl rfl (take_ofW HT_.out HW_.out (by kernel_rfl)) (fun _ _ _ h => h) (Or.inl ⟨by rfl, ?_⟩) hHeld ?_ ?_
          rotate_left
          ·rintro w' ⟨s0, s1, s2, s3, s4, s5, s6⟩
           go_simp
           with_reducible rfl
          rotate_left
          ·simp only [Act.put, sz1, sz2, sz3, i64_w, i32_w]
           rfl
          refine one_ (i := 6) (N := some 63) #[tt, tt, tt, tt, tt, tt, tt, ff] rfl rfl (one_of HT_.out (by kernel_rfl)) (by decide) (fun K hK => ?_)
          refine goes_ Tryd.func48 (by kernel_rfl) rfl #[.int .i64 (wrap64 ((wrap64 ((wrap64 ((wrap64 ((wrap64 (x1_1 + 1)) + 1)) + 1)) + 1)) + 1))] (by rfl) rfl rfl lz ?_
          with_reducible refine (laws_markText.calls k1 (wrap64 ((wrap64 ((wrap64 ((wrap64 ((wrap64 (x1_1 + 1)) + 1)) + 1)) + 1)) + 1)) t569 _ A10.out).mono ?_
          rintro e w23 ⟨rfl, hb⟩
          refine ⟨_, rfl, ?_⟩
          have n0_ := Aside0.mk (below_step (bz0 HB.out) hb)
          clear HB
          have HB := n0_
          clear n0_
          (try clear hb)
          (try clear hb2)
          (try clear hk)
          (try clear hi)
          refine hK.out _ _ ⟨(hz HB.out hw568_0), (hz HB.out hw568_1), (hz HB.out hw568_2), (hz HB.out hw568_3), (hz HB.out hw568_4), (hz HB.out hw568_5), (hz HB.out hw568_6)⟩ (fun hHeld => ?_)
          clear hK K
          refine norm_ (a' := ?_) ?_ ?_
          rotate_left
          ·show Act.put _ (some 63) _ = _
           simp only [Act.put, sz1, sz2, sz3, i64_w, i32_w]
           rfl
          refine pure_ (i := 7) (N := some 64) (v := ?_) (a' := ?_) #[tt, tt, tt, tt, tt, tt, tt, tt] rfl rfl (any_of HT_.out (by kernel_rfl)) (fun _ _ _ h => h) (Or.inl ⟨by rfl, ?_⟩) ?_ ?_
          rotate_left
          ·intro w'
           go_simp
           with_reducible rfl
          rotate_left
          ·simp only [Act.put, sz1, sz2, sz3, i64_w, i32_w]
           rfl
          refine done_ (done_of HT_.out (by kernel_rfl)) ?_
          try go_wp2
          go_ret
          exact ⟨gz, (bz0 HB.out)⟩
        ·rw [if_neg c9] at H
         have c9b0 : (((rd_T43 l0 x5_1).f4) == (wrap64 ((wrap64 ((wrap64 ((wrap64 (x1_1 + 1)) + 1)) + 1)) + 1))) = false := beq_eq_false_iff_ne.mpr c9
         have c9b1 : (((rd_T43 l0 x5_1).f4) != (wrap64 ((wrap64 ((wrap64 ((wrap64 (x1_1 + 1)) + 1)) + 1)) + 1))) = true := bne_iff_ne.mpr c9
         obtain rfl := Option.some.inj H
         have p563 : 0 <= (x5_1 : Int) := oz
         have q563 : x5_1 < (l0.length : Int) := oz
         obtain ⟨ad563, e563, hx563_0, hx563_1, hx563_2, hx563_3, hx563_4, hx563_5, hx563_6⟩ := at_T43 (Kd.C_below HR0.out HB.out) x5_1 p563 q563
         cases e563
         replace p563 := eq_true p563
         replace q563 := eq_true q563
         have p564 : 0 <= (x5_1 : Int) := oz
         have q564 : x5_1 < (l0.length : Int) := oz
         obtain ⟨ad564, e564, hx564_0, hx564_1, hx564_2, hx564_3, hx564_4, hx564_5, hx564_6⟩ := at_T43 (Kd.C_below HR0.out HB.out) x5_1 p564 q564
         obtain rfl : ad563 = ad564 := (by injection e564)
         replace p564 := eq_true p564
         replace q564 := eq_true q564
         have p565 : 0 <= (x5_1 : Int) := oz
         have q565 : x5_1 < (l0.length : Int) := oz
         obtain ⟨ad565, e565, hx565_0, hx565_1, hx565_2, hx565_3, hx565_4, hx565_5, hx565_6⟩ := at_T43 (Kd.C_below HR0.out HB.out) x5_1 p565 q565
         obtain rfl : ad563 = ad565 := (by injection e565)
         replace p565 := eq_true p565
         replace q565 := eq_true q565
         have p566 : 0 <= (x5_1 : Int) := oz
         have q566 : x5_1 < (l0.length : Int) := oz
         obtain ⟨ad566, e566, hx566_0, hx566_1, hx566_2, hx566_3, hx566_4, hx566_5, hx566_6⟩ := at_T43 (Kd.C_below HR0.out HB.out) x5_1 p566 q566
         obtain rfl : ad563 = ad566 := (by injection e566)
         replace p566 := eq_true p566
         replace q566 := eq_true q566
         have p567 : 0 <= (x5_1 : Int) := oz
         have q567 : x5_1 < (l0.length : Int) := oz
         obtain ⟨ad567, e567, hx567_0, hx567_1, hx567_2, hx567_3, hx567_4, hx567_5, hx567_6⟩ := at_T43 (Kd.C_below HR0.out HB.out) x5_1 p567 q567
         obtain rfl : ad563 = ad567 := (by injection e567)
         replace p567 := eq_true p567
         replace q567 := eq_true q567
         go_wp2
         go_ret
         exact ⟨gz, (bz0 HB.out)⟩
       ·rw [if_neg c8] at H
        have c8b0 : (((rd_T43 l0 x5_1).f3) == (wrap64 ((wrap64 ((wrap64 (x1_1 + 1)) + 1)) + 1))) = false := beq_eq_false_iff_ne.mpr c8
        have c8b1 : (((rd_T43 l0 x5_1).f3) != (wrap64 ((wrap64 ((wrap64 (x1_1 + 1)) + 1)) + 1))) = true := bne_iff_ne.mpr c8
        obtain rfl := Option.some.inj H
        have p563 : 0 <= (x5_1 : Int) := oz
        have q563 : x5_1 < (l0.length : Int) := oz
        obtain ⟨ad563, e563, hx563_0, hx563_1, hx563_2, hx563_3, hx563_4, hx563_5, hx563_6⟩ := at_T43 (Kd.C_below HR0.out HB.out) x5_1 p563 q563
        cases e563
        replace p563 := eq_true p563
        replace q563 := eq_true q563
        have p564 : 0 <= (x5_1 : Int) := oz
        have q564 : x5_1 < (l0.length : Int) := oz
        obtain ⟨ad564, e564, hx564_0, hx564_1, hx564_2, hx564_3, hx564_4, hx564_5, hx564_6⟩ := at_T43 (Kd.C_below HR0.out HB.out) x5_1 p564 q564
        obtain rfl : ad563 = ad564 := (by injection e564)
        replace p564 := eq_true p564
        replace q564 := eq_true q564
        have p565 : 0 <= (x5_1 : Int) := oz
        have q565 : x5_1 < (l0.length : Int) := oz
        obtain ⟨ad565, e565, hx565_0, hx565_1, hx565_2, hx565_3, hx565_4, hx565_5, hx565_6⟩ := at_T43 (Kd.C_below HR0.out HB.out) x5_1 p565 q565
        obtain rfl : ad563 = ad565 := (by injection e565)
        replace p565 := eq_true p565
        replace q565 := eq_true q565
        have p566 : 0 <= (x5_1 : Int) := oz
        have q566 : x5_1 < (l0.length : Int) := oz
        obtain ⟨ad566, e566, hx566_0, hx566_1, hx566_2, hx566_3, hx566_4, hx566_5, hx566_6⟩ := at_T43 (Kd.C_below HR0.out HB.out) x5_1 p566 q566
        obtain rfl : ad563 = ad566 := (by injection e566)
        replace p566 := eq_true p566
        replace q566 := eq_true q566
        go_wp2
        go_ret
        exact ⟨gz, (bz0 HB.out)⟩
      ·rw [if_neg c7] at H
       have c7b0 : (((rd_T43 l0 x5_1).f2) == (wrap64 ((wrap64 (x1_1 + 1)) + 1))) = false := beq_eq_false_iff_ne.mpr c7
       have c7b1 : (((rd_T43 l0 x5_1).f2) != (wrap64 ((wrap64 (x1_1 + 1)) + 1))) = true := bne_iff_ne.mpr c7
       obtain rfl := Option.some.inj H
       have p563 : 0 <= (x5_1 : Int) := oz
       have q563 : x5_1 < (l0.length : Int) := oz
       obtain ⟨ad563, e563, hx563_0, hx563_1, hx563_2, hx563_3, hx563_4, hx563_5, hx563_6⟩ := at_T43 (Kd.C_below HR0.out HB.out) x5_1 p563 q563
       cases e563
       replace p563 := eq_true p563
       replace q563 := eq_true q563
       have p564 : 0 <= (x5_1 : Int) := oz
       have q564 : x5_1 < (l0.length : Int) := oz
       obtain ⟨ad564, e564, hx564_0, hx564_1, hx564_2, hx564_3, hx564_4, hx564_5, hx564_6⟩ := at_T43 (Kd.C_below HR0.out HB.out) x5_1 p564 q564
       obtain rfl : ad563 = ad564 := (by injection e564)
       replace p564 := eq_true p564
       replace q564 := eq_true q564
       have p565 : 0 <= (x5_1 : Int) := oz
       have q565 : x5_1 < (l0.length : Int) := oz
       obtain ⟨ad565, e565, hx565_0, hx565_1, hx565_2, hx565_3, hx565_4, hx565_5, hx565_6⟩ := at_T43 (Kd.C_below HR0.out HB.out) x5_1 p565 q565
       obtain rfl : ad563 = ad565 := (by injection e565)
       replace p565 := eq_true p565
       replace q565 := eq_true q565
       go_wp2
       go_ret
       exact ⟨gz, (bz0 HB.out)⟩
     ·rw [if_neg c6] at H
      have c6b0 : (((rd_T43 l0 x5_1).f1) == (wrap64 (x1_1 + 1))) = false := beq_eq_false_iff_ne.mpr c6
      have c6b1 : (((rd_T43 l0 x5_1).f1) != (wrap64 (x1_1 + 1))) = true := bne_iff_ne.mpr c6
      obtain rfl := Option.some.inj H
      have p563 : 0 <= (x5_1 : Int) := oz
      have q563 : x5_1 < (l0.length : Int) := oz
      obtain ⟨ad563, e563, hx563_0, hx563_1, hx563_2, hx563_3, hx563_4, hx563_5, hx563_6⟩ := at_T43 (Kd.C_below HR0.out HB.out) x5_1 p563 q563
      cases e563
      replace p563 := eq_true p563
      replace q563 := eq_true q563
      have p564 : 0 <= (x5_1 : Int) := oz
      have q564 : x5_1 < (l0.length : Int) := oz
      obtain ⟨ad564, e564, hx564_0, hx564_1, hx564_2, hx564_3, hx564_4, hx564_5, hx564_6⟩ := at_T43 (Kd.C_below HR0.out HB.out) x5_1 p564 q564
      obtain rfl : ad563 = ad564 := (by injection e564)
      replace p564 := eq_true p564
      replace q564 := eq_true q564
      go_wp2
      go_ret
      exact ⟨gz, (bz0 HB.out)⟩
    ·rw [if_neg c5] at H
     have c5b0 : (((rd_T43 l0 x5_1).f0) == x1_1) = false := beq_eq_false_iff_ne.mpr c5
     have c5b1 : (((rd_T43 l0 x5_1).f0) != x1_1) = true := bne_iff_ne.mpr c5
     obtain rfl := Option.some.inj H
     have p563 : 0 <= (x5_1 : Int) := oz
     have q563 : x5_1 < (l0.length : Int) := oz
     obtain ⟨ad563, e563, hx563_0, hx563_1, hx563_2, hx563_3, hx563_4, hx563_5, hx563_6⟩ := at_T43 (Kd.C_below HR0.out HB.out) x5_1 p563 q563
     cases e563
     replace p563 := eq_true p563
     replace q563 := eq_true q563
     go_wp2
     go_ret
     exact ⟨gz, (bz0 HB.out)⟩
   ·rw [if_neg c3] at H
    have c3b0 := decide_eq_false c3
    clear c3
    obtain rfl := Option.some.inj H
    go_wp2
    go_ret
    exact ⟨gz, (bz0 HB.out)⟩
end Go.Proofs.YtmilegjmiiccdaaDoor.PFnExactCanon
