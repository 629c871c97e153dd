/- PFnSizesx5, of the words and walks that the law FnSizes needs; made by this session's program out of printed texts. -/

import Derived.Test.YtlhofeikcaejpaaDoorVFnSizesPx0
import Derived.Test.YtlhofeikcaejpaaDoorVFnSizesPx4
namespace Go.Proofs.YtlhofeikcaejpaaDoor.PFnSizes
open Go.RowKit Go.Proofs.YtlhofeikcaejpaaDoorW.PrintWords Go.Proofs.YtlhofeikcaejpaaDoorW.PrintLast Go.Proofs.YtlhofeikcaejpaaDoorW.PrintMore
attribute [local go_sem] max2_int min2_int max_two min_two max_three min_three max_four min_four
set_option linter.unusedVariables false
set_option linter.unusedSimpArgs false
mutual
def spec_TableOk.l0 : Nat -> List (S55) -> Int -> Option (Bool)
 | 0, _, _ => none
 | k + 1, x0, x3 => if x3 < (x0.length : Int) then (if 0 <= x3 then ((spec_l1In.f ((rd_T55 x0 x3).f0) 0 5).bind fun t254 => (if t254 = true then (if ((rd_T55 x0 x3).f0) = 0 then (if ((rd_T55 x0 x3).f1) < (-1) then (spec_TableOk.j1 k x0 x3 true) else (if ((rd_T55 x0 x3).f0) = 1 then (spec_TableOk.j1 k x0 x3 (((rd_T55 x0 x3).f1) != 0)) else (spec_TableOk.j1 k x0 x3 false))) else (if ((rd_T55 x0 x3).f0) = 1 then (spec_TableOk.j1 k x0 x3 (((rd_T55 x0 x3).f1) != 0)) else (spec_TableOk.j1 k x0 x3 false))) else (spec_TableOk.j1 k x0 x3 true))) else (none)) else (if 0 <= (x0.length : Int) then (if ((x0.length : Int) : Int).toNat <= 281474976710656 then (spec_TableOk.l2 k x0 (List.replicate ((x0.length : Int) : Int).toNat false) 0) else (none)) else (none))
def spec_TableOk.j1 : Nat -> List (S55) -> Int -> Bool -> Option (Bool)
 | 0, _, _, _ => none
 | k + 1, x0, x3, x60 => if x60 = true then (some false) else (if 0 <= x3 then (if x3 < (x0.length : Int) then (if ((rd_T55 x0 x3).f0) = 2 then (spec_TableOk.j2 k x0 x3 false) else (if ((rd_T55 x0 x3).f0) = 3 then (spec_TableOk.j2 k x0 x3 false) else (spec_TableOk.j2 k x0 x3 (((rd_T55 x0 x3).f2) != 0)))) else (none)) else (none))
def spec_TableOk.j2 : Nat -> List (S55) -> Int -> Bool -> Option (Bool)
 | 0, _, _, _ => none
 | k + 1, x0, x3, x82 => if x82 = true then (some false) else (if 0 <= x3 then (if x3 < (x0.length : Int) then ((spec_l8Kids.f k ((rd_T55 x0 x3).f0) ((rd_T55 x0 x3).f1) ((rd_T55 x0 x3).f2)).bind fun t265 => (spec_TableOk.l1 k x0 x3 t265 0)) else (none)) else (none))
def spec_TableOk.l1 : Nat -> List (S55) -> Int -> List Int -> Int -> Option (Bool)
 | 0, _, _, _, _ => none
 | k + 1, x0, x3, x4, x5 => if x5 < (x4.length : Int) then (if 0 <= x5 then ((spec_l1In.f (rd x4 x5) 0 (wrap64 ((x0.length : Int) - 1))).bind fun t269 => (if t269 = true then (spec_TableOk.l1 k x0 x3 x4 (wrap64 (x5 + 1))) else (some false))) else (none)) else (spec_TableOk.l0 k x0 (wrap64 (x3 + 1)))
def spec_TableOk.l2 : Nat -> List (S55) -> List Bool -> Int -> Option (Bool)
 | 0, _, _, _ => none
 | k + 1, x0, x6, x7 => if x7 < (x0.length : Int) then (spec_TableOk.l3 k x0 x6 x7 0) else (spec_TableOk.l5 k x0 x6 0)
def spec_TableOk.l3 : Nat -> List (S55) -> List Bool -> Int -> Int -> Option (Bool)
 | 0, _, _, _, _ => none
 | k + 1, x0, x6, x7, x8 => if x8 < (x0.length : Int) then (if 0 <= x8 then ((spec_l8Kids.f k ((rd_T55 x0 x8).f0) ((rd_T55 x0 x8).f1) ((rd_T55 x0 x8).f2)).bind fun t274 => (spec_TableOk.l4 k x0 x6 x7 x8 t274 true 0)) else (none)) else (spec_TableOk.l2 k x0 x6 (wrap64 (x7 + 1)))
def spec_TableOk.l4 : Nat -> List (S55) -> List Bool -> Int -> Int -> List Int -> Bool -> Int -> Option (Bool)
 | 0, _, _, _, _, _, _, _ => none
 | k + 1, x0, x6, x7, x8, x9, x10, x11 => if x11 < (x9.length : Int) then (if x10 = true then (if 0 <= x11 then (if 0 <= (rd x9 x11) then (if (rd x9 x11) < (x6.length : Int) then (spec_TableOk.l4 k x0 x6 x7 x8 x9 (rdOf false x6 (rd x9 x11)) (wrap64 (x11 + 1))) else (none)) else (none)) else (none)) else (spec_TableOk.l4 k x0 x6 x7 x8 x9 false (wrap64 (x11 + 1)))) else (if 0 <= x8 then (if x8 < (x6.length : Int) then (if rdOf false x6 x8 = true then (spec_TableOk.l3 k x0 (x6.set (x8 : Int).toNat true) x7 (wrap64 (x8 + 1))) else (spec_TableOk.l3 k x0 (x6.set (x8 : Int).toNat x10) x7 (wrap64 (x8 + 1)))) else (none)) else (none))
def spec_TableOk.l5 : Nat -> List (S55) -> List Bool -> Int -> Option (Bool)
 | 0, _, _, _ => none
 | k + 1, x0, x6, x12 => if x12 < (x0.length : Int) then (if 0 <= x12 then (if x12 < (x6.length : Int) then (if rdOf false x6 x12 = true then (spec_TableOk.l5 k x0 x6 (wrap64 (x12 + 1))) else (some false)) else (none)) else (none)) else (some true)
end
def spec_TableOk.f (k : Nat) (l0 : List (S55)) : Option (Bool) := if (l0.length : Int) > 40 then (some false) else (spec_TableOk.l0 k l0 0)
theorem spec_TableOk.mono_l : ∀ k, (∀ y0 y1, LeO (spec_TableOk.l0 k y0 y1) (spec_TableOk.l0 (k + 1) y0 y1)) /\ (∀ y0 y1 y2, LeO (spec_TableOk.j1 k y0 y1 y2) (spec_TableOk.j1 (k + 1) y0 y1 y2)) /\ (∀ y0 y1 y2, LeO (spec_TableOk.j2 k y0 y1 y2) (spec_TableOk.j2 (k + 1) y0 y1 y2)) /\ (∀ y0 y1 y2 y3, LeO (spec_TableOk.l1 k y0 y1 y2 y3) (spec_TableOk.l1 (k + 1) y0 y1 y2 y3)) /\ (∀ y0 y1 y2, LeO (spec_TableOk.l2 k y0 y1 y2) (spec_TableOk.l2 (k + 1) y0 y1 y2)) /\ (∀ y0 y1 y2 y3, LeO (spec_TableOk.l3 k y0 y1 y2 y3) (spec_TableOk.l3 (k + 1) y0 y1 y2 y3)) /\ (∀ y0 y1 y2 y3 y4 y5 y6, LeO (spec_TableOk.l4 k y0 y1 y2 y3 y4 y5 y6) (spec_TableOk.l4 (k + 1) y0 y1 y2 y3 y4 y5 y6)) /\ (∀ y0 y1 y2, LeO (spec_TableOk.l5 k y0 y1 y2) (spec_TableOk.l5 (k + 1) y0 y1 y2))
 | 0 => ⟨fun _ _ r h => by simp [spec_TableOk.l0] at h, fun _ _ _ r h => by simp [spec_TableOk.j1] at h, fun _ _ _ r h => by simp [spec_TableOk.j2] at h, fun _ _ _ _ r h => by simp [spec_TableOk.l1] at h, fun _ _ _ r h => by simp [spec_TableOk.l2] at h, fun _ _ _ _ r h => by simp [spec_TableOk.l3] at h, fun _ _ _ _ _ _ _ r h => by simp [spec_TableOk.l4] at h, fun _ _ _ r h => by simp [spec_TableOk.l5] at h⟩
 | k + 1 => by
  obtain ⟨ih0, ih1, ih2, ih3, ih4, ih5, ih6, ih7⟩ := spec_TableOk.mono_l k
  refine ⟨?_, ?_, ?_, ?_, ?_, ?_, ?_, ?_⟩
  ·intro y0 y1
   unfold spec_TableOk.l0
   with_reducible repeat' first | exact ih0 _ _ | exact ih1 _ _ _ | exact ih2 _ _ _ | exact ih3 _ _ _ _ | exact ih4 _ _ _ | exact ih5 _ _ _ _ | exact ih6 _ _ _ _ _ _ _ | exact ih7 _ _ _ | exact spec_l8Kids.mono _ _ _ _ | exact lrz _ | exact lnz _ | refine liz ?_ ?_ | refine lbz ?_ fun _ => ?_
  ·intro y0 y1 y2
   unfold spec_TableOk.j1
   with_reducible repeat' first | exact ih0 _ _ | exact ih1 _ _ _ | exact ih2 _ _ _ | exact ih3 _ _ _ _ | exact ih4 _ _ _ | exact ih5 _ _ _ _ | exact ih6 _ _ _ _ _ _ _ | exact ih7 _ _ _ | exact spec_l8Kids.mono _ _ _ _ | exact lrz _ | exact lnz _ | refine liz ?_ ?_ | refine lbz ?_ fun _ => ?_
  ·intro y0 y1 y2
   unfold spec_TableOk.j2
   with_reducible repeat' first | exact ih0 _ _ | exact ih1 _ _ _ | exact ih2 _ _ _ | exact ih3 _ _ _ _ | exact ih4 _ _ _ | exact ih5 _ _ _ _ | exact ih6 _ _ _ _ _ _ _ | exact ih7 _ _ _ | exact spec_l8Kids.mono _ _ _ _ | exact lrz _ | exact lnz _ | refine liz ?_ ?_ | refine lbz ?_ fun _ => ?_
  ·intro y0 y1 y2 y3
   unfold spec_TableOk.l1
   with_reducible repeat' first | exact ih0 _ _ | exact ih1 _ _ _ | exact ih2 _ _ _ | exact ih3 _ _ _ _ | exact ih4 _ _ _ | exact ih5 _ _ _ _ | exact ih6 _ _ _ _ _ _ _ | exact ih7 _ _ _ | exact spec_l8Kids.mono _ _ _ _ | exact lrz _ | exact lnz _ | refine liz ?_ ?_ | refine lbz ?_ fun _ => ?_
  ·intro y0 y1 y2
   unfold spec_TableOk.l2
   with_reducible repeat' first | exact ih0 _ _ | exact ih1 _ _ _ | exact ih2 _ _ _ | exact ih3 _ _ _ _ | exact ih4 _ _ _ | exact ih5 _ _ _ _ | exact ih6 _ _ _ _ _ _ _ | exact ih7 _ _ _ | exact spec_l8Kids.mono _ _ _ _ | exact lrz _ | exact lnz _ | refine liz ?_ ?_ | refine lbz ?_ fun _ => ?_
  ·intro y0 y1 y2 y3
   unfold spec_TableOk.l3
   with_reducible repeat' first | exact ih0 _ _ | exact ih1 _ _ _ | exact ih2 _ _ _ | exact ih3 _ _ _ _ | exact ih4 _ _ _ | exact ih5 _ _ _ _ | exact ih6 _ _ _ _ _ _ _ | exact ih7 _ _ _ | exact spec_l8Kids.mono _ _ _ _ | exact lrz _ | exact lnz _ | refine liz ?_ ?_ | refine lbz ?_ fun _ => ?_
  ·intro y0 y1 y2 y3 y4 y5 y6
   unfold spec_TableOk.l4
   with_reducible repeat' first | exact ih0 _ _ | exact ih1 _ _ _ | exact ih2 _ _ _ | exact ih3 _ _ _ _ | exact ih4 _ _ _ | exact ih5 _ _ _ _ | exact ih6 _ _ _ _ _ _ _ | exact ih7 _ _ _ | exact spec_l8Kids.mono _ _ _ _ | exact lrz _ | exact lnz _ | refine liz ?_ ?_ | refine lbz ?_ fun _ => ?_
  ·intro y0 y1 y2
   unfold spec_TableOk.l5
   with_reducible repeat' first | exact ih0 _ _ | exact ih1 _ _ _ | exact ih2 _ _ _ | exact ih3 _ _ _ _ | exact ih4 _ _ _ | exact ih5 _ _ _ _ | exact ih6 _ _ _ _ _ _ _ | exact ih7 _ _ _ | exact spec_l8Kids.mono _ _ _ _ | exact lrz _ | exact lnz _ | refine liz ?_ ?_ | refine lbz ?_ fun _ => ?_
theorem spec_TableOk.mono : ∀ a0 k, LeO (spec_TableOk.f k a0) (spec_TableOk.f (k + 1) a0) := by
 intro a0 k
 obtain ⟨ih0, ih1, ih2, ih3, ih4, ih5, ih6, ih7⟩ := spec_TableOk.mono_l k
 unfold spec_TableOk.f
 with_reducible repeat' first | exact ih0 _ _ | exact ih1 _ _ _ | exact ih2 _ _ _ | exact ih3 _ _ _ _ | exact ih4 _ _ _ | exact ih5 _ _ _ _ | exact ih6 _ _ _ _ _ _ _ | exact ih7 _ _ _ | exact spec_l8Kids.mono _ _ _ _ | exact lrz _ | exact lnz _ | refine liz ?_ ?_ | refine lbz ?_ fun _ => ?_
set_option maxHeartbeats 8000000 in
set_option maxRecDepth 100000 in
theorem spec_TableOk.calls (k : Nat) (A0 : Option Addr) (c0 : Nat) (l0 : List (S55)) (r : Bool) (w : World) (hr0 : Kd.C k55 w A0 l0.length l0) (hc0 : l0.length <= c0) (h : spec_TableOk.f k l0 = some r) :
  Calls Tryd.prog 24 #[.slice A0 l0.length c0] w fun e w' => e = .returned (.bool r) /\ Below w.heap.size w w' := by
 have hu55 := Tryd.underlying55
 have HR0 := Aside0.mk hr0
 have HC0 := Aside0.mk hc0
 clear hr0 hc0
 have HB := Aside0.mk (Below.refl w.heap.size w)
 have H : (if (l0.length : Int) > 40 then (some false) else (spec_TableOk.l0 k l0 0)) = some r := h
 clear h
 by_cases c2 : (l0.length : Int) > 40
 ·rw [if_pos c2] at H
  have c2b0 : decide (40 < (l0.length : Int)) = true := decide_eq_true c2
  have c2b1 : decide (40 < l0.length) = true := decide_eq_true (by omega)
  clear c2
  obtain rfl := Option.some.inj H
  go_enter Tryd.func24, Tryd.ntmps24
  go_wp2
  go_ret
  exact ⟨gz, (bz0 HB.out)⟩
 ·rw [if_neg c2] at H
  have c2b0 : decide (40 < (l0.length : Int)) = false := decide_eq_false c2
  have c2b1 : decide (40 < l0.length) = false := decide_eq_false (by omega)
  clear c2
  have H' := Aside0.mk H
  clear H
  go_enter Tryd.func24, Tryd.ntmps24
  go_wp2
  go_loopg [3] k (fun kq v3 w' => ∃ (x3_1 : Int), v3 = .int .i64 x3_1 /\ Aside0 (spec_TableOk.l0 kq l0 x3_1 = some r) /\ Aside0 (kq <= k) /\ Aside0 (Below w.heap.size w w'))
  case atStart => exact ⟨(0), ez, H', ⟨Nat.le_refl _⟩, ⟨(bz0 HB.out)⟩⟩
  case round =>
   clear H'
   try clear c2
   try clear c2b0
   try clear c2b1
   try clear p2
   obtain ⟨x3_1, rfl, HA, HK1, HB⟩ := hrel
   cases gk with
   | zero => exact absurd HA.out (by simp [spec_TableOk.l0])
   | succ k1 =>
    have H := HA.out
    clear HA
    simp only [spec_TableOk.l0] at H
    by_cases c3 : x3_1 < (l0.length : Int)
    ·rw [if_pos c3] at H
     have c3b0 := decide_eq_true c3
     clear c3
     have HC4 := Aside0.mk H
     clear H
     go_upto_region 6 with (fail)
     go_cut [60] (fun v60 wc => ∃ (kq : Nat) (x60_3 : Bool), v60 = .bool x60_3 /\ Aside0 (spec_TableOk.j1 kq l0 x3_1 x60_3 = some r) /\ Aside0 (kq <= k1) /\ Aside0 (Below w.heap.size w wc))
     case first =>
      have H := HC4.out
      clear HC4
      replace H := iz H
      obtain ⟨c5, H⟩ := H
      have c5b0 := decide_eq_true c5
      clear c5
      (first | rw [c5b0] | (simp only [i64_w, i32_w]; rw [c5b0]) | skip)
      replace H := bi H
      obtain ⟨t254, A60, H⟩ := H
      try dsimp only at H
      have A6 := Aside0.mk A60
      clear A60
      by_cases c7 : t254 = true
      ·subst c7
       have H1 := hp H
       clear H
       have H := H1
       clear H1
       by_cases c8 : ((rd_T55 l0 x3_1).f0) = 0
       ·rw [if_pos c8] at H
        have c8b0 : (((rd_T55 l0 x3_1).f0) == 0) = true := beq_iff_eq.mpr c8
        have c8b1 : (((rd_T55 l0 x3_1).f0) != 0) = false := bne_eq_false_iff_eq.mpr c8
        clear c8
        by_cases c9 : ((rd_T55 l0 x3_1).f1) < (-1)
        ·rw [if_pos c9] at H
         have c9b0 := decide_eq_true c9
         clear c9
         have H' := Aside0.mk H
         clear H
         have p253 : 0 <= (x3_1 : Int) := oz
         have q253 : x3_1 < (l0.length : Int) := oz
         obtain ⟨ad253, e253, hx253_0, hx253_1, hx253_2⟩ := at_T55 (Kd.C_below HR0.out HB.out) x3_1 p253 q253
         cases e253
         replace p253 := eq_true p253
         replace q253 := eq_true q253
         go_wp2_with (first | ((with_reducible refine gate_callee (f := 44) rfl ?_); refine goesL_ (some 27) rfl rfl Tryd.func44 (by kernel_rfl) rfl #[.int .i64 ((rd_T55 l0 x3_1).f0), .int .i64 0, .int .i64 5] rfl lz ?_; (with_reducible refine (spec_l1In.calls ((rd_T55 l0 x3_1).f0) 0 5 true _ A6.out).mono ?_); rintro e w' ⟨rfl, ⟨nd, rfl⟩⟩; refine ⟨_, rfl, ?_⟩; have p255 : 0 <= (x3_1 : Int) := oz; have q255 : x3_1 < (l0.length : Int) := oz; obtain ⟨ad255, e255, hx255_0, hx255_1, hx255_2⟩ := at_T55 HR0.out x3_1 p255 q255; obtain rfl : ad253 = ad255 := (by injection e255); replace hx255_0 := hz HB.out hx255_0; replace hx255_1 := hz HB.out hx255_1; replace hx255_2 := hz HB.out hx255_2; replace p255 := eq_true p255; replace q255 := eq_true q255; have p256 : 0 <= (x3_1 : Int) := oz; have q256 : x3_1 < (l0.length : Int) := oz; obtain ⟨ad256, e256, hx256_0, hx256_1, hx256_2⟩ := at_T55 HR0.out x3_1 p256 q256; obtain rfl : ad253 = ad256 := (by injection e256); replace hx256_0 := hz HB.out hx256_0; replace hx256_1 := hz HB.out hx256_1; replace hx256_2 := hz HB.out hx256_2; replace p256 := eq_true p256; replace q256 := eq_true q256))
         go_meet
         case rel => exact ⟨_, (true), ez, H', ⟨by have := HK1.out; first | omega | exact Nat.le_refl _⟩, ⟨(bz0 HB.out)⟩⟩
        ·rw [if_neg c9] at H
         have c9b0 := decide_eq_false c9
         clear c9
         by_cases c10 : ((rd_T55 l0 x3_1).f0) = 1
         ·rw [if_pos c10] at H
          have c10b0 : (((rd_T55 l0 x3_1).f0) == 1) = true := beq_iff_eq.mpr c10
          have c10b1 : (((rd_T55 l0 x3_1).f0) != 1) = false := bne_eq_false_iff_eq.mpr c10
          clear c10
          have H' := Aside0.mk H
          clear H
          have p253 : 0 <= (x3_1 : Int) := oz
          have q253 : x3_1 < (l0.length : Int) := oz
          obtain ⟨ad253, e253, hx253_0, hx253_1, hx253_2⟩ := at_T55 (Kd.C_below HR0.out HB.out) x3_1 p253 q253
          cases e253
          replace p253 := eq_true p253
          replace q253 := eq_true q253
          go_wp2_with (first | ((with_reducible refine gate_callee (f := 44) rfl ?_); refine goesL_ (some 27) rfl rfl Tryd.func44 (by kernel_rfl) rfl #[.int .i64 ((rd_T55 l0 x3_1).f0), .int .i64 0, .int .i64 5] rfl lz ?_; (with_reducible refine (spec_l1In.calls ((rd_T55 l0 x3_1).f0) 0 5 true _ A6.out).mono ?_); rintro e w' ⟨rfl, ⟨nd, rfl⟩⟩; refine ⟨_, rfl, ?_⟩; have p255 : 0 <= (x3_1 : Int) := oz; have q255 : x3_1 < (l0.length : Int) := oz; obtain ⟨ad255, e255, hx255_0, hx255_1, hx255_2⟩ := at_T55 HR0.out x3_1 p255 q255; obtain rfl : ad253 = ad255 := (by injection e255); replace hx255_0 := hz HB.out hx255_0; replace hx255_1 := hz HB.out hx255_1; replace hx255_2 := hz HB.out hx255_2; replace p255 := eq_true p255; replace q255 := eq_true q255; have p256 : 0 <= (x3_1 : Int) := oz; have q256 : x3_1 < (l0.length : Int) := oz; obtain ⟨ad256, e256, hx256_0, hx256_1, hx256_2⟩ := at_T55 HR0.out x3_1 p256 q256; obtain rfl : ad253 = ad256 := (by injection e256); replace hx256_0 := hz HB.out hx256_0; replace hx256_1 := hz HB.out hx256_1; replace hx256_2 := hz HB.out hx256_2; replace p256 := eq_true p256; replace q256 := eq_true q256; have p257 : 0 <= (x3_1 : Int) := oz; have q257 : x3_1 < (l0.length : Int) := oz; obtain ⟨ad257, e257, hx257_0, hx257_1, hx257_2⟩ := at_T55 HR0.out x3_1 p257 q257; obtain rfl : ad253 = ad257 := (by injection e257); replace hx257_0 := hz HB.out hx257_0; replace hx257_1 := hz HB.out hx257_1; replace hx257_2 := hz HB.out hx257_2; replace p257 := eq_true p257; replace q257 := eq_true q257; have p258 : 0 <= (x3_1 : Int) := oz; have q258 : x3_1 < (l0.length : Int) := oz; obtain ⟨ad258, e258, hx258_0, hx258_1, hx258_2⟩ := at_T55 HR0.out x3_1 p258 q258; obtain rfl : ad253 = ad258 := (by injection e258); replace hx258_0 := hz HB.out hx258_0; replace hx258_1 := hz HB.out hx258_1; replace hx258_2 := hz HB.out hx258_2; replace p258 := eq_true p258; replace q258 := eq_true q258))
          go_meet
          case rel => exact ⟨_, ((((rd_T55 l0 x3_1).f1) != 0)), ez, H', ⟨by have := HK1.out; first | omega | exact Nat.le_refl _⟩, ⟨(bz0 HB.out)⟩⟩
         ·rw [if_neg c10] at H
          have c10b0 : (((rd_T55 l0 x3_1).f0) == 1) = false := beq_eq_false_iff_ne.mpr c10
          have c10b1 : (((rd_T55 l0 x3_1).f0) != 1) = true := bne_iff_ne.mpr c10
          have H' := Aside0.mk H
          clear H
          have p253 : 0 <= (x3_1 : Int) := oz
          have q253 : x3_1 < (l0.length : Int) := oz
          obtain ⟨ad253, e253, hx253_0, hx253_1, hx253_2⟩ := at_T55 (Kd.C_below HR0.out HB.out) x3_1 p253 q253
          cases e253
          replace p253 := eq_true p253
          replace q253 := eq_true q253
          go_wp2_with (first | ((with_reducible refine gate_callee (f := 44) rfl ?_); refine goesL_ (some 27) rfl rfl Tryd.func44 (by kernel_rfl) rfl #[.int .i64 ((rd_T55 l0 x3_1).f0), .int .i64 0, .int .i64 5] rfl lz ?_; (with_reducible refine (spec_l1In.calls ((rd_T55 l0 x3_1).f0) 0 5 true _ A6.out).mono ?_); rintro e w' ⟨rfl, ⟨nd, rfl⟩⟩; refine ⟨_, rfl, ?_⟩; have p255 : 0 <= (x3_1 : Int) := oz; have q255 : x3_1 < (l0.length : Int) := oz; obtain ⟨ad255, e255, hx255_0, hx255_1, hx255_2⟩ := at_T55 HR0.out x3_1 p255 q255; obtain rfl : ad253 = ad255 := (by injection e255); replace hx255_0 := hz HB.out hx255_0; replace hx255_1 := hz HB.out hx255_1; replace hx255_2 := hz HB.out hx255_2; replace p255 := eq_true p255; replace q255 := eq_true q255; have p256 : 0 <= (x3_1 : Int) := oz; have q256 : x3_1 < (l0.length : Int) := oz; obtain ⟨ad256, e256, hx256_0, hx256_1, hx256_2⟩ := at_T55 HR0.out x3_1 p256 q256; obtain rfl : ad253 = ad256 := (by injection e256); replace hx256_0 := hz HB.out hx256_0; replace hx256_1 := hz HB.out hx256_1; replace hx256_2 := hz HB.out hx256_2; replace p256 := eq_true p256; replace q256 := eq_true q256; have p257 : 0 <= (x3_1 : Int) := oz; have q257 : x3_1 < (l0.length : Int) := oz; obtain ⟨ad257, e257, hx257_0, hx257_1, hx257_2⟩ := at_T55 HR0.out x3_1 p257 q257; obtain rfl : ad253 = ad257 := (by injection e257); replace hx257_0 := hz HB.out hx257_0; replace hx257_1 := hz HB.out hx257_1; replace hx257_2 := hz HB.out hx257_2; replace p257 := eq_true p257; replace q257 := eq_true q257))
          go_meet
          case rel => exact ⟨_, (false), ez, H', ⟨by have := HK1.out; first | omega | exact Nat.le_refl _⟩, ⟨(bz0 HB.out)⟩⟩
       ·rw [if_neg c8] at H
        have c8b0 : (((rd_T55 l0 x3_1).f0) == 0) = false := beq_eq_false_iff_ne.mpr c8
        have c8b1 : (((rd_T55 l0 x3_1).f0) != 0) = true := bne_iff_ne.mpr c8
        by_cases c11 : ((rd_T55 l0 x3_1).f0) = 1
        ·rw [if_pos c11] at H
         have c11b0 : (((rd_T55 l0 x3_1).f0) == 1) = true := beq_iff_eq.mpr c11
         have c11b1 : (((rd_T55 l0 x3_1).f0) != 1) = false := bne_eq_false_iff_eq.mpr c11
         clear c11
         have H' := Aside0.mk H
         clear H
         have p253 : 0 <= (x3_1 : Int) := oz
         have q253 : x3_1 < (l0.length : Int) := oz
         obtain ⟨ad253, e253, hx253_0, hx253_1, hx253_2⟩ := at_T55 (Kd.C_below HR0.out HB.out) x3_1 p253 q253
         cases e253
         replace p253 := eq_true p253
         replace q253 := eq_true q253
         go_wp2_with (first | ((with_reducible refine gate_callee (f := 44) rfl ?_); refine goesL_ (some 27) rfl rfl Tryd.func44 (by kernel_rfl) rfl #[.int .i64 ((rd_T55 l0 x3_1).f0), .int .i64 0, .int .i64 5] rfl lz ?_; (with_reducible refine (spec_l1In.calls ((rd_T55 l0 x3_1).f0) 0 5 true _ A6.out).mono ?_); rintro e w' ⟨rfl, ⟨nd, rfl⟩⟩; refine ⟨_, rfl, ?_⟩; have p255 : 0 <= (x3_1 : Int) := oz; have q255 : x3_1 < (l0.length : Int) := oz; obtain ⟨ad255, e255, hx255_0, hx255_1, hx255_2⟩ := at_T55 HR0.out x3_1 p255 q255; obtain rfl : ad253 = ad255 := (by injection e255); replace hx255_0 := hz HB.out hx255_0; replace hx255_1 := hz HB.out hx255_1; replace hx255_2 := hz HB.out hx255_2; replace p255 := eq_true p255; replace q255 := eq_true q255; have p259 : 0 <= (x3_1 : Int) := oz; have q259 : x3_1 < (l0.length : Int) := oz; obtain ⟨ad259, e259, hx259_0, hx259_1, hx259_2⟩ := at_T55 HR0.out x3_1 p259 q259; obtain rfl : ad253 = ad259 := (by injection e259); replace hx259_0 := hz HB.out hx259_0; replace hx259_1 := hz HB.out hx259_1; replace hx259_2 := hz HB.out hx259_2; replace p259 := eq_true p259; replace q259 := eq_true q259; have p260 : 0 <= (x3_1 : Int) := oz; have q260 : x3_1 < (l0.length : Int) := oz; obtain ⟨ad260, e260, hx260_0, hx260_1, hx260_2⟩ := at_T55 HR0.out x3_1 p260 q260; obtain rfl : ad253 = ad260 := (by injection e260); replace hx260_0 := hz HB.out hx260_0; replace hx260_1 := hz HB.out hx260_1; replace hx260_2 := hz HB.out hx260_2; replace p260 := eq_true p260; replace q260 := eq_true q260))
         go_meet
         case rel => exact ⟨_, ((((rd_T55 l0 x3_1).f1) != 0)), ez, H', ⟨by have := HK1.out; first | omega | exact Nat.le_refl _⟩, ⟨(bz0 HB.out)⟩⟩
        ·rw [if_neg c11] at H
         have c11b0 : (((rd_T55 l0 x3_1).f0) == 1) = false := beq_eq_false_iff_ne.mpr c11
         have c11b1 : (((rd_T55 l0 x3_1).f0) != 1) = true := bne_iff_ne.mpr c11
         have H' := Aside0.mk H
         clear H
         have p253 : 0 <= (x3_1 : Int) := oz
         have q253 : x3_1 < (l0.length : Int) := oz
         obtain ⟨ad253, e253, hx253_0, hx253_1, hx253_2⟩ := at_T55 (Kd.C_below HR0.out HB.out) x3_1 p253 q253
         cases e253
         replace p253 := eq_true p253
         replace q253 := eq_true q253
         go_wp2_with (first | ((with_reducible refine gate_callee (f := 44) rfl ?_); refine goesL_ (some 27) rfl rfl Tryd.func44 (by kernel_rfl) rfl #[.int .i64 ((rd_T55 l0 x3_1).f0), .int .i64 0, .int .i64 5] rfl lz ?_; (with_reducible refine (spec_l1In.calls ((rd_T55 l0 x3_1).f0) 0 5 true _ A6.out).mono ?_); rintro e w' ⟨rfl, ⟨nd, rfl⟩⟩; refine ⟨_, rfl, ?_⟩; have p255 : 0 <= (x3_1 : Int) := oz; have q255 : x3_1 < (l0.length : Int) := oz; obtain ⟨ad255, e255, hx255_0, hx255_1, hx255_2⟩ := at_T55 HR0.out x3_1 p255 q255; obtain rfl : ad253 = ad255 := (by injection e255); replace hx255_0 := hz HB.out hx255_0; replace hx255_1 := hz HB.out hx255_1; replace hx255_2 := hz HB.out hx255_2; replace p255 := eq_true p255; replace q255 := eq_true q255; have p259 : 0 <= (x3_1 : Int) := oz; have q259 : x3_1 < (l0.length : Int) := oz; obtain ⟨ad259, e259, hx259_0, hx259_1, hx259_2⟩ := at_T55 HR0.out x3_1 p259 q259; obtain rfl : ad253 = ad259 := (by injection e259); replace hx259_0 := hz HB.out hx259_0; replace hx259_1 := hz HB.out hx259_1; replace hx259_2 := hz HB.out hx259_2; replace p259 := eq_true p259; replace q259 := eq_true q259))
         go_meet
         case rel => exact ⟨_, (false), ez, H', ⟨by have := HK1.out; first | omega | exact Nat.le_refl _⟩, ⟨(bz0 HB.out)⟩⟩
      ·replace c7 := Bool.eq_false_iff.mpr c7
       subst c7
       have H1 := hq H
       clear H
       have H := H1
       clear H1
       have H' := Aside0.mk H
       clear H
       have p253 : 0 <= (x3_1 : Int) := oz
       have q253 : x3_1 < (l0.length : Int) := oz
       obtain ⟨ad253, e253, hx253_0, hx253_1, hx253_2⟩ := at_T55 (Kd.C_below HR0.out HB.out) x3_1 p253 q253
       cases e253
       replace p253 := eq_true p253
       replace q253 := eq_true q253
       go_wp2_with (first | ((with_reducible refine gate_callee (f := 44) rfl ?_); refine goesL_ (some 27) rfl rfl Tryd.func44 (by kernel_rfl) rfl #[.int .i64 ((rd_T55 l0 x3_1).f0), .int .i64 0, .int .i64 5] rfl lz ?_; (with_reducible refine (spec_l1In.calls ((rd_T55 l0 x3_1).f0) 0 5 false _ A6.out).mono ?_); rintro e w' ⟨rfl, ⟨nd, rfl⟩⟩; refine ⟨_, rfl, ?_⟩))
       go_meet
       case rel => exact ⟨_, (true), ez, H', ⟨by have := HK1.out; first | omega | exact Nat.le_refl _⟩, ⟨(bz0 HB.out)⟩⟩
     case rest =>
      clear HC4
      try clear c1
      try clear c2
      try clear c2b0
      try clear c2b1
      try clear p2
      try clear q2
      try clear hx2
      try clear c3
      try clear c3b0
      try clear c4
      try clear c5
      try clear c5b0
      try clear c7
      try clear c8
      try clear c8b0
      try clear c8b1
      try clear c9
      try clear c9b0
      try clear c10
      try clear c10b0
      try clear c10b1
      try clear c11
      try clear c11b0
      try clear c11b1
      try clear hx253_0
      try clear hx253_1
      try clear hx253_2
      try clear hx255_0
      try clear hx255_1
      try clear hx255_2
      try clear hx256_0
      try clear hx256_1
      try clear hx256_2
      try clear hx257_0
      try clear hx257_1
      try clear hx257_2
      try clear hx258_0
      try clear hx258_1
      try clear hx258_2
      try clear hx259_0
      try clear hx259_1
      try clear hx259_2
      try clear hx260_0
      try clear hx260_1
      try clear hx260_2
      try clear p2
      try clear p253
      try clear p255
      try clear p256
      try clear p257
      try clear p258
      try clear p259
      try clear p260
      try clear q253
      try clear q255
      try clear q256
      try clear q257
      try clear q258
      try clear q259
      try clear q260
      obtain ⟨kq, x60_3, rfl, HA, HJ3, HB⟩ := hcut
      cases kq with
      | zero => exact absurd HA.out (by simp [spec_TableOk.j1])
      | succ kj3 =>
       have H := HA.out
       clear HA
       simp only [spec_TableOk.j1] at H
       by_cases c12 : x60_3 = true
       ·subst c12
        have H1 := hp H
        clear H
        have H := H1
        clear H1
        obtain rfl := Option.some.inj H
        go_wp2
        go_ret
        exact ⟨gz, (bz0 HB.out)⟩
       ·replace c12 := Bool.eq_false_iff.mpr c12
        subst c12
        have H1 := hq H
        clear H
        have H := H1
        clear H1
        have HC13 := Aside0.mk H
        clear H
        go_upto_region 8 with (fail)
        go_cut [82] (fun v82 wc => ∃ (kq : Nat) (x82_12 : Bool), v82 = .bool x82_12 /\ Aside0 (spec_TableOk.j2 kq l0 x3_1 x82_12 = some r) /\ Aside0 (kq <= kj3) /\ Aside0 (Below w.heap.size w wc))
        case first =>
         have H := HC13.out
         clear HC13
         replace H := iz H
         obtain ⟨c14, H⟩ := H
         have c14b0 := decide_eq_true c14
         clear c14
         (first | rw [c14b0] | (simp only [i64_w, i32_w]; rw [c14b0]) | skip)
         replace H := iz H
         obtain ⟨c15, H⟩ := H
         have c15b0 := decide_eq_true c15
         clear c15
         by_cases c16 : ((rd_T55 l0 x3_1).f0) = 2
         ·rw [if_pos c16] at H
          have c16b0 : (((rd_T55 l0 x3_1).f0) == 2) = true := beq_iff_eq.mpr c16
          have c16b1 : (((rd_T55 l0 x3_1).f0) != 2) = false := bne_eq_false_iff_eq.mpr c16
          clear c16
          have H' := Aside0.mk H
          clear H
          have p261 : 0 <= (x3_1 : Int) := oz
          have q261 : x3_1 < (l0.length : Int) := oz
          obtain ⟨ad261, e261, hx261_0, hx261_1, hx261_2⟩ := at_T55 (Kd.C_below HR0.out HB.out) x3_1 p261 q261
          cases e261
          replace p261 := eq_true p261
          replace q261 := eq_true q261
          go_wp2
          go_meet
          case rel => exact ⟨_, (false), ez, H', ⟨by have := HK1.out; have := HJ3.out; first | omega | exact Nat.le_refl _⟩, ⟨(bz0 HB.out)⟩⟩
         ·rw [if_neg c16] at H
          have c16b0 : (((rd_T55 l0 x3_1).f0) == 2) = false := beq_eq_false_iff_ne.mpr c16
          have c16b1 : (((rd_T55 l0 x3_1).f0) != 2) = true := bne_iff_ne.mpr c16
          by_cases c17 : ((rd_T55 l0 x3_1).f0) = 3
          ·rw [if_pos c17] at H
           have c17b0 : (((rd_T55 l0 x3_1).f0) == 3) = true := beq_iff_eq.mpr c17
           have c17b1 : (((rd_T55 l0 x3_1).f0) != 3) = false := bne_eq_false_iff_eq.mpr c17
           clear c17
           have H' := Aside0.mk H
           clear H
           have p261 : 0 <= (x3_1 : Int) := oz
           have q261 : x3_1 < (l0.length : Int) := oz
           obtain ⟨ad261, e261, hx261_0, hx261_1, hx261_2⟩ := at_T55 (Kd.C_below HR0.out HB.out) x3_1 p261 q261
           cases e261
           replace p261 := eq_true p261
           replace q261 := eq_true q261
           have p262 : 0 <= (x3_1 : Int) := oz
           have q262 : x3_1 < (l0.length : Int) := oz
           obtain ⟨ad262, e262, hx262_0, hx262_1, hx262_2⟩ := at_T55 (Kd.C_below HR0.out HB.out) x3_1 p262 q262
           obtain rfl : ad261 = ad262 := (by injection e262)
           replace p262 := eq_true p262
           replace q262 := eq_true q262
           go_wp2
           go_meet
           case rel => exact ⟨_, (false), ez, H', ⟨by have := HK1.out; have := HJ3.out; first | omega | exact Nat.le_refl _⟩, ⟨(bz0 HB.out)⟩⟩
          ·rw [if_neg c17] at H
           have c17b0 : (((rd_T55 l0 x3_1).f0) == 3) = false := beq_eq_false_iff_ne.mpr c17
           have c17b1 : (((rd_T55 l0 x3_1).f0) != 3) = true := bne_iff_ne.mpr c17
           have H' := Aside0.mk H
           clear H
           have p261 : 0 <= (x3_1 : Int) := oz
           have q261 : x3_1 < (l0.length : Int) := oz
           obtain ⟨ad261, e261, hx261_0, hx261_1, hx261_2⟩ := at_T55 (Kd.C_below HR0.out HB.out) x3_1 p261 q261
           cases e261
           replace p261 := eq_true p261
           replace q261 := eq_true q261
           have p262 : 0 <= (x3_1 : Int) := oz
           have q262 : x3_1 < (l0.length : Int) := oz
           obtain ⟨ad262, e262, hx262_0, hx262_1, hx262_2⟩ := at_T55 (Kd.C_below HR0.out HB.out) x3_1 p262 q262
           obtain rfl : ad261 = ad262 := (by injection e262)
           replace p262 := eq_true p262
           replace q262 := eq_true q262
           have p263 : 0 <= (x3_1 : Int) := oz
           have q263 : x3_1 < (l0.length : Int) := oz
           obtain ⟨ad263, e263, hx263_0, hx263_1, hx263_2⟩ := at_T55 (Kd.C_below HR0.out HB.out) x3_1 p263 q263
           obtain rfl : ad261 = ad263 := (by injection e263)
           replace p263 := eq_true p263
           replace q263 := eq_true q263
           go_wp2
           go_meet
           case rel => exact ⟨_, ((((rd_T55 l0 x3_1).f2) != 0)), ez, H', ⟨by have := HK1.out; have := HJ3.out; first | omega | exact Nat.le_refl _⟩, ⟨(bz0 HB.out)⟩⟩
        case rest =>
         clear HC13
         try clear c1
         try clear c2
         try clear c2b0
         try clear c2b1
         try clear p2
         try clear q2
         try clear hx2
         try clear c3
         try clear c3b0
         try clear c4
         try clear c5
         try clear c5b0
         try clear c7
         try clear c8
         try clear c8b0
         try clear c8b1
         try clear c9
         try clear c9b0
         try clear c10
         try clear c10b0
         try clear c10b1
         try clear c11
         try clear c11b0
         try clear c11b1
         try clear c12
         try clear c14
         try clear c14b0
         try clear c15
         try clear c15b0
         try clear c16
         try clear c16b0
         try clear c16b1
         try clear c17
         try clear c17b0
         try clear c17b1
         try clear hx253_0
         try clear hx253_1
         try clear hx253_2
         try clear hx255_0
         try clear hx255_1
         try clear hx255_2
         try clear hx256_0
         try clear hx256_1
         try clear hx256_2
         try clear hx257_0
         try clear hx257_1
         try clear hx257_2
         try clear hx258_0
         try clear hx258_1
         try clear hx258_2
         try clear hx259_0
         try clear hx259_1
         try clear hx259_2
         try clear hx260_0
         try clear hx260_1
         try clear hx260_2
         try clear hx261_0
         try clear hx261_1
         try clear hx261_2
         try clear hx262_0
         try clear hx262_1
         try clear hx262_2
         try clear hx263_0
         try clear hx263_1
         try clear hx263_2
         try clear p2
         try clear p253
         try clear p255
         try clear p256
         try clear p257
         try clear p258
         try clear p259
         try clear p260
         try clear p261
         try clear p262
         try clear p263
         try clear q2
         try clear q253
         try clear q255
         try clear q256
         try clear q257
         try clear q258
         try clear q259
         try clear q260
         try clear q261
         try clear q262
         try clear q263
         obtain ⟨kq, x82_12, rfl, HA, HJ12, HB⟩ := hcut
         cases kq with
         | zero => exact absurd HA.out (by simp [spec_TableOk.j2])
         | succ kj12 =>
          have H := HA.out
          clear HA
          simp only [spec_TableOk.j2] at H
          by_cases c18 : x82_12 = true
          ·subst c18
           have H1 := hp H
           clear H
           have H := H1
           clear H1
           obtain rfl := Option.some.inj H
           go_wp2
           go_ret
           exact ⟨gz, (bz0 HB.out)⟩
          ·replace c18 := Bool.eq_false_iff.mpr c18
           subst c18
           have H1 := hq H
           clear H
           have H := H1
           clear H1
           replace H := iz H
           obtain ⟨c19, H⟩ := H
           have c19b0 := decide_eq_true c19
           clear c19
           replace H := iz H
           obtain ⟨c20, H⟩ := H
           have c20b0 := decide_eq_true c20
           clear c20
           replace H := bi H
           obtain ⟨t265, A210, H⟩ := H
           try dsimp only at H
           have A21 := Aside0.mk A210
           clear A210
           have H' := Aside0.mk H
           clear H
           have p264 : 0 <= (x3_1 : Int) := oz
           have q264 : x3_1 < (l0.length : Int) := oz
           obtain ⟨ad264, e264, hx264_0, hx264_1, hx264_2⟩ := at_T55 (Kd.C_below HR0.out HB.out) x3_1 p264 q264
           cases e264
           replace p264 := eq_true p264
           replace q264 := eq_true q264
           go_wp2_with (first | ((with_reducible refine gate_callee (f := 56) rfl ?_); refine goesL_ (some 87) rfl rfl Tryd.func56 (by kernel_rfl) rfl #[.agg #[.int .i64 ((rd_T55 l0 x3_1).f0), .int .i64 ((rd_T55 l0 x3_1).f1), .int .i64 ((rd_T55 l0 x3_1).f2)]] rfl lz ?_; (with_reducible refine (spec_l8Kids.calls kj12 ((rd_T55 l0 x3_1).f0) ((rd_T55 l0 x3_1).f1) ((rd_T55 l0 x3_1).f2) t265 _ A21.out).mono ?_); rintro e w22 ⟨v266, rfl, ho0, hb⟩; refine ⟨_, rfl, ?_⟩; have HO267 := Aside0.mk (Kd.R_lower ho0 (below_size (bz0 HB.out))); replace HB := Aside0.mk (below_step (bz0 HB.out) hb); (try clear hb); (try clear ho0)))
           go_loopg [5] kj12 (fun kq v5 w' => ∃ (x5_4 : Int), v5 = .int .i64 x5_4 /\ Aside0 (spec_TableOk.l1 kq l0 x3_1 t265 x5_4 = some r) /\ Aside0 (kq <= kj12) /\ Aside0 (Kd.R (Kd.int .i64) 3 w' w.heap.size (fun _ => True) v266 t265) /\ Aside0 (Below w.heap.size w w'))
           case atStart => exact ⟨(0), ez, H', ⟨Nat.le_refl _⟩, ⟨by refine rq ?_; exact HO267.out⟩, ⟨(bz0 HB.out)⟩⟩
           case round =>
            clear H'
            try clear c1
            try clear c2
            try clear c2b0
            try clear c2b1
            try clear p2
            try clear q2
            try clear hx2
            try clear c3
            try clear c3b0
            try clear c4
            try clear c5
            try clear c5b0
            try clear c7
            try clear c8
            try clear c8b0
            try clear c8b1
            try clear c9
            try clear c9b0
            try clear c10
            try clear c10b0
            try clear c10b1
            try clear c11
            try clear c11b0
            try clear c11b1
            try clear c12
            try clear c14
            try clear c14b0
            try clear c15
            try clear c15b0
            try clear c16
            try clear c16b0
            try clear c16b1
            try clear c17
            try clear c17b0
            try clear c17b1
            try clear c18
            try clear c19
            try clear c19b0
            try clear c20
            try clear c20b0
            try clear hx253_0
            try clear hx253_1
            try clear hx253_2
            try clear hx255_0
            try clear hx255_1
            try clear hx255_2
            try clear hx256_0
            try clear hx256_1
            try clear hx256_2
            try clear hx257_0
            try clear hx257_1
            try clear hx257_2
            try clear hx258_0
            try clear hx258_1
            try clear hx258_2
            try clear hx259_0
            try clear hx259_1
            try clear hx259_2
            try clear hx260_0
            try clear hx260_1
            try clear hx260_2
            try clear hx261_0
            try clear hx261_1
            try clear hx261_2
            try clear hx262_0
            try clear hx262_1
            try clear hx262_2
            try clear hx263_0
            try clear hx263_1
            try clear hx263_2
            try clear hx264_0
            try clear hx264_1
            try clear hx264_2
            try clear p2
            try clear p253
            try clear p255
            try clear p256
            try clear p257
            try clear p258
            try clear p259
            try clear p260
            try clear p261
            try clear p262
            try clear p263
            try clear p264
            try clear q2
            try clear q253
            try clear q255
            try clear q256
            try clear q257
            try clear q258
            try clear q259
            try clear q260
            try clear q261
            try clear q262
            try clear q263
            try clear q264
            obtain ⟨x5_4, rfl, HA, HK4, HO_4, HB⟩ := hrel
            cases gk with
            | zero => exact absurd HA.out (by simp [spec_TableOk.l1])
            | succ k4 =>
             have H := HA.out
             clear HA
             simp only [spec_TableOk.l1] at H
             by_cases c23 : x5_4 < (t265.length : Int)
             ·rw [if_pos c23] at H
              have c23b0 := decide_eq_true c23
              clear c23
              replace H := iz H
              obtain ⟨c24, H⟩ := H
              have c24b0 := decide_eq_true c24
              clear c24
              replace H := bi H
              obtain ⟨t269, A250, H⟩ := H
              try dsimp only at H
              have A25 := Aside0.mk A250
              clear A250
              by_cases c26 : t269 = true
              ·subst c26
               have H1 := hp H
               clear H
               have H := H1
               clear H1
               have H' := Aside0.mk H
               clear H
               obtain ⟨Ao27, co27, eo27⟩ := Kd.R_slice HO_4.out
               subst eo27
               have p268 : 0 <= (x5_4 : Int) := oz
               have q268 : x5_4 < (t265.length : Int) := oz
               obtain ⟨ad268, e268, hx268_0⟩ := Kd.at_int (Kd.R_reads' HO_4.out).2.2 x5_4 p268 q268
               cases e268
               replace p268 := eq_true p268
               replace q268 := eq_true q268
               go_wp2_with (first | ((with_reducible refine gate_callee (f := 44) rfl ?_); refine goesL_ (some 101) rfl rfl Tryd.func44 (by kernel_rfl) rfl #[.int .i64 (rd t265 x5_4), .int .i64 0, .int .i64 (wrap64 ((l0.length : Int) - 1))] rfl lz ?_; (with_reducible refine (spec_l1In.calls (rd t265 x5_4) 0 (wrap64 ((l0.length : Int) - 1)) true _ A25.out).mono ?_); rintro e w' ⟨rfl, ⟨nd, rfl⟩⟩; refine ⟨_, rfl, ?_⟩))
               go_roundg k4
               case measure => have := HK1.out; have := HJ3.out; have := HJ12.out; have := HK4.out; omega
               case rel => exact ⟨(wrap64 (x5_4 + 1)), ez, H', ⟨by have := HK1.out; have := HJ3.out; have := HJ12.out; have := HK4.out; omega⟩, ⟨by refine rq ?_; exact HO_4.out⟩, ⟨(bz0 HB.out)⟩⟩
              ·replace c26 := Bool.eq_false_iff.mpr c26
               subst c26
               have H1 := hq H
               clear H
               have H := H1
               clear H1
               obtain rfl := Option.some.inj H
               obtain ⟨Ao28, co28, eo28⟩ := Kd.R_slice HO_4.out
               subst eo28
               have p268 : 0 <= (x5_4 : Int) := oz
               have q268 : x5_4 < (t265.length : Int) := oz
               obtain ⟨ad268, e268, hx268_0⟩ := Kd.at_int (Kd.R_reads' HO_4.out).2.2 x5_4 p268 q268
               cases e268
               replace p268 := eq_true p268
               replace q268 := eq_true q268
               go_wp2_with (first | ((with_reducible refine gate_callee (f := 44) rfl ?_); refine goesL_ (some 101) rfl rfl Tryd.func44 (by kernel_rfl) rfl #[.int .i64 (rd t265 x5_4), .int .i64 0, .int .i64 (wrap64 ((l0.length : Int) - 1))] rfl lz ?_; (with_reducible refine (spec_l1In.calls (rd t265 x5_4) 0 (wrap64 ((l0.length : Int) - 1)) false _ A25.out).mono ?_); rintro e w' ⟨rfl, ⟨nd, rfl⟩⟩; refine ⟨_, rfl, ?_⟩))
               go_ret
               exact ⟨gz, (bz0 HB.out)⟩
             ·rw [if_neg c23] at H
              have c23b0 := decide_eq_false c23
              clear c23
              have H' := Aside0.mk H
              clear H
              obtain ⟨Ao29, co29, eo29⟩ := Kd.R_slice HO_4.out
              subst eo29
              go_wp2
              go_roundg k4
              case measure => have := HK1.out; have := HJ3.out; have := HJ12.out; have := HK4.out; omega
              case rel => exact ⟨(wrap64 (x3_1 + 1)), ez, H', ⟨by have := HK1.out; have := HJ3.out; have := HJ12.out; have := HK4.out; omega⟩, ⟨(bz0 HB.out)⟩⟩
    ·rw [if_neg c3] at H
     have c3b0 := decide_eq_false c3
     clear c3
     replace H := iz H
     obtain ⟨c30, H⟩ := H
     have c30b0 := eq_true c30
     have c30b1 : decide (0 <= (l0.length : Int)) = true := decide_eq_true c30
     clear c30
     replace H := iz H
     obtain ⟨c31, H⟩ := H
     have c31b0 := eq_true c31
     have c31b1 : decide (((l0.length : Int) : Int).toNat <= 281474976710656) = true := decide_eq_true c31
     clear c31
     obtain ⟨y270, hy270⟩ : ∃ y_ : List Bool, y_ = (List.replicate ((l0.length : Int) : Int).toNat false) := ⟨_, rfl⟩
     replace H : (spec_TableOk.l2 k1 l0 y270 0) = some r := yz hy270 H
     have Ny270 := Aside0.mk hy270
     clear hy270
     have H' := Aside0.mk H
     clear H
     go_wp2_with (first | ((with_reducible refine gate_dst (N := 105) rfl ?_); refine Kd.R_make Kd.bool _ 4 rfl (N := 105) rfl 95 _ _ rfl (l0.length : Int) rfl rfl Tryd.underlying95 (.bool false) 1 info4 rfl (by decide) (by omega) false (ok := fun _ => True) (okp := fun _ => True) rfl (fun _ hk => hk) trivial (of_decide_eq_true az) (Nat.le_trans (Nat.mul_le_mul_right _ (of_decide_eq_true az : (l0.length : Int).toNat <= 281474976710656)) (by omega)) (Below.refl _ _) (Nat.le_refl _) ?_; intro v271 w32 ho33 hb hg_ hnew_; clear hg_ hnew_; (first | rw [<- Ny270.out] at ho33 | (simp only [Int.reduceToNat] at ho33; rw [<- Ny270.out] at ho33)); have HO272 := Aside0.mk (Kd.R_lower ho33 (below_size (bz0 HB.out))); replace HB := Aside0.mk (below_step (bz0 HB.out) hb); clear hb ho33))
     (try simp only [Act.put, sz1, sz2, sz3])
     go_loopg [7] k1 (fun kq v7 w' => ∃ (x6_2 : List Bool) (x7_2 : Int), v7 = .int .i64 x7_2 /\ Aside0 (spec_TableOk.l2 kq l0 x6_2 x7_2 = some r) /\ Aside0 (kq <= k1) /\ Aside0 (Kd.R Kd.bool 4 w' w.heap.size (fun _ => True) v271 x6_2) /\ Aside0 (Below w.heap.size w w'))
     case atStart => exact ⟨(y270), (0), ez, H', ⟨Nat.le_refl _⟩, ⟨by refine rq ?_; exact HO272.out⟩, ⟨(bz0 HB.out)⟩⟩
     case round =>
      clear H'
      try clear c1
      try clear c2
      try clear c2b0
      try clear c2b1
      try clear p2
      try clear q2
      try clear hx2
      try clear c3
      try clear c3b0
      try clear c4
      try clear c5
      try clear c5b0
      try clear p6
      try clear c7
      try clear c8
      try clear c8b0
      try clear c8b1
      try clear c9
      try clear c9b0
      try clear c10
      try clear c10b0
      try clear c10b1
      try clear c11
      try clear c11b0
      try clear c11b1
      try clear c12
      try clear c14
      try clear c14b0
      try clear c15
      try clear c15b0
      try clear c16
      try clear c16b0
      try clear c16b1
      try clear c17
      try clear c17b0
      try clear c17b1
      try clear c18
      try clear c19
      try clear c19b0
      try clear c20
      try clear c20b0
      try clear c23
      try clear c23b0
      try clear c24
      try clear c24b0
      try clear p25
      try clear q25
      try clear hx25
      try clear c26
      try clear p26
      try clear q26
      try clear hx26
      try clear c30
      try clear c30b0
      try clear c30b1
      try clear c31
      try clear c31b0
      try clear c31b1
      try clear hx253_0
      try clear hx253_1
      try clear hx253_2
      try clear hx255_0
      try clear hx255_1
      try clear hx255_2
      try clear hx256_0
      try clear hx256_1
      try clear hx256_2
      try clear hx257_0
      try clear hx257_1
      try clear hx257_2
      try clear hx258_0
      try clear hx258_1
      try clear hx258_2
      try clear hx259_0
      try clear hx259_1
      try clear hx259_2
      try clear hx260_0
      try clear hx260_1
      try clear hx260_2
      try clear hx261_0
      try clear hx261_1
      try clear hx261_2
      try clear hx262_0
      try clear hx262_1
      try clear hx262_2
      try clear hx263_0
      try clear hx263_1
      try clear hx263_2
      try clear hx264_0
      try clear hx264_1
      try clear hx264_2
      try clear hx268_0
      try clear p2
      try clear p253
      try clear p255
      try clear p256
      try clear p257
      try clear p258
      try clear p259
      try clear p260
      try clear p261
      try clear p262
      try clear p263
      try clear p264
      try clear p268
      try clear q2
      try clear q253
      try clear q255
      try clear q256
      try clear q257
      try clear q258
      try clear q259
      try clear q260
      try clear q261
      try clear q262
      try clear q263
      try clear q264
      try clear q268
      obtain ⟨x6_2, x7_2, rfl, HA, HK2, HO_6, HB⟩ := hrel
      cases gk with
      | zero => exact absurd HA.out (by simp [spec_TableOk.l2])
      | succ k2 =>
       have H := HA.out
       clear HA
       simp only [spec_TableOk.l2] at H
       by_cases c34 : x7_2 < (l0.length : Int)
       ·rw [if_pos c34] at H
        have c34b0 := decide_eq_true c34
        clear c34
        have H' := Aside0.mk H
        clear H
        go_wp2
        go_loopg [8] k2 (fun kq v8 w' => ∃ (x6_3 : List Bool) (x8_3 : Int), v8 = .int .i64 x8_3 /\ Aside0 (spec_TableOk.l3 kq l0 x6_3 x7_2 x8_3 = some r) /\ Aside0 (kq <= k2) /\ Aside0 (Kd.R Kd.bool 4 w' w.heap.size (fun _ => True) v271 x6_3) /\ Aside0 (Below w.heap.size w w'))
        case atStart => exact ⟨(x6_2), (0), ez, H', ⟨Nat.le_refl _⟩, ⟨by refine rq ?_; exact HO_6.out⟩, ⟨(bz0 HB.out)⟩⟩
        case round =>
         clear H'
         try clear c1
         try clear c2
         try clear c2b0
         try clear c2b1
         try clear p2
         try clear q2
         try clear hx2
         try clear c3
         try clear c3b0
         try clear c4
         try clear c5
         try clear c5b0
         try clear p6
         try clear c7
         try clear c8
         try clear c8b0
         try clear c8b1
         try clear c9
         try clear c9b0
         try clear c10
         try clear c10b0
         try clear c10b1
         try clear c11
         try clear c11b0
         try clear c11b1
         try clear c12
         try clear c14
         try clear c14b0
         try clear c15
         try clear c15b0
         try clear c16
         try clear c16b0
         try clear c16b1
         try clear c17
         try clear c17b0
         try clear c17b1
         try clear c18
         try clear c19
         try clear c19b0
         try clear c20
         try clear c20b0
         try clear c23
         try clear c23b0
         try clear c24
         try clear c24b0
         try clear p25
         try clear q25
         try clear hx25
         try clear c26
         try clear p26
         try clear q26
         try clear hx26
         try clear c30
         try clear c30b0
         try clear c30b1
         try clear c31
         try clear c31b0
         try clear c31b1
         try clear c34
         try clear c34b0
         try clear hx253_0
         try clear hx253_1
         try clear hx253_2
         try clear hx255_0
         try clear hx255_1
         try clear hx255_2
         try clear hx256_0
         try clear hx256_1
         try clear hx256_2
         try clear hx257_0
         try clear hx257_1
         try clear hx257_2
         try clear hx258_0
         try clear hx258_1
         try clear hx258_2
         try clear hx259_0
         try clear hx259_1
         try clear hx259_2
         try clear hx260_0
         try clear hx260_1
         try clear hx260_2
         try clear hx261_0
         try clear hx261_1
         try clear hx261_2
         try clear hx262_0
         try clear hx262_1
         try clear hx262_2
         try clear hx263_0
         try clear hx263_1
         try clear hx263_2
         try clear hx264_0
         try clear hx264_1
         try clear hx264_2
         try clear hx268_0
         try clear p2
         try clear p25
         try clear p253
         try clear p255
         try clear p256
         try clear p257
         try clear p258
         try clear p259
         try clear p26
         try clear p260
         try clear p261
         try clear p262
         try clear p263
         try clear p264
         try clear p268
         try clear p6
         try clear q2
         try clear q25
         try clear q253
         try clear q255
         try clear q256
         try clear q257
         try clear q258
         try clear q259
         try clear q26
         try clear q260
         try clear q261
         try clear q262
         try clear q263
         try clear q264
         try clear q268
         obtain ⟨x6_3, x8_3, rfl, HA, HK3, HO_6, HB⟩ := hrel
         cases gk with
         | zero => exact absurd HA.out (by simp [spec_TableOk.l3])
         | succ k3 =>
          have H := HA.out
          clear HA
          simp only [spec_TableOk.l3] at H
          by_cases c35 : x8_3 < (l0.length : Int)
          ·rw [if_pos c35] at H
           have c35b0 := decide_eq_true c35
           clear c35
           replace H := iz H
           obtain ⟨c36, H⟩ := H
           have c36b0 := decide_eq_true c36
           clear c36
           replace H := bi H
           obtain ⟨t274, A370, H⟩ := H
           try dsimp only at H
           have A37 := Aside0.mk A370
           clear A370
           have H' := Aside0.mk H
           clear H
           have p273 : 0 <= (x8_3 : Int) := oz
           have q273 : x8_3 < (l0.length : Int) := oz
           obtain ⟨ad273, e273, hx273_0, hx273_1, hx273_2⟩ := at_T55 (Kd.C_below HR0.out HB.out) x8_3 p273 q273
           cases e273
           replace p273 := eq_true p273
           replace q273 := eq_true q273
           go_wp2_with (first | ((with_reducible refine gate_callee (f := 56) rfl ?_); refine goesL_ (some 122) rfl rfl Tryd.func56 (by kernel_rfl) rfl #[.agg #[.int .i64 ((rd_T55 l0 x8_3).f0), .int .i64 ((rd_T55 l0 x8_3).f1), .int .i64 ((rd_T55 l0 x8_3).f2)]] rfl lz ?_; (with_reducible refine (spec_l8Kids.calls k3 ((rd_T55 l0 x8_3).f0) ((rd_T55 l0 x8_3).f1) ((rd_T55 l0 x8_3).f2) t274 _ A37.out).mono ?_); rintro e w38 ⟨v275, rfl, ho0, hb⟩; refine ⟨_, rfl, ?_⟩; replace HO_6 := qz HO_6 hb; have HO276 := Aside0.mk (Kd.R_lower ho0 (below_size (bz0 HB.out))); replace HB := Aside0.mk (below_step (bz0 HB.out) hb); (try clear hb); (try clear ho0)))
           go_loopg [10, 11] k3 (fun kq v10 v11 w' => ∃ (x10_4 : Bool) (x11_4 : Int), v10 = .bool x10_4 /\ v11 = .int .i64 x11_4 /\ Aside0 (spec_TableOk.l4 kq l0 x6_3 x7_2 x8_3 t274 x10_4 x11_4 = some r) /\ Aside0 (kq <= k3) /\ Aside0 (Kd.R Kd.bool 4 w' w.heap.size (fun _ => True) v271 x6_3) /\ Aside0 (Kd.R (Kd.int .i64) 3 w' w.heap.size (fun _ => True) v275 t274) /\ Aside0 (Below w.heap.size w w'))
           case atStart => exact ⟨(true), (0), ez, ez, H', ⟨Nat.le_refl _⟩, ⟨by refine rq ?_; exact HO_6.out⟩, ⟨by refine rq ?_; exact HO276.out⟩, ⟨(bz0 HB.out)⟩⟩
           case round =>
            clear H'
            try clear c1
            try clear c2
            try clear c2b0
            try clear c2b1
            try clear p2
            try clear q2
            try clear hx2
            try clear c3
            try clear c3b0
            try clear c4
            try clear c5
            try clear c5b0
            try clear p6
            try clear c7
            try clear c8
            try clear c8b0
            try clear c8b1
            try clear c9
            try clear c9b0
            try clear c10
            try clear c10b0
            try clear c10b1
            try clear c11
            try clear c11b0
            try clear c11b1
            try clear c12
            try clear c14
            try clear c14b0
            try clear c15
            try clear c15b0
            try clear c16
            try clear c16b0
            try clear c16b1
            try clear c17
            try clear c17b0
            try clear c17b1
            try clear c18
            try clear c19
            try clear c19b0
            try clear c20
            try clear c20b0
            try clear c23
            try clear c23b0
            try clear c24
            try clear c24b0
            try clear p25
            try clear q25
            try clear hx25
            try clear c26
            try clear p26
            try clear q26
            try clear hx26
            try clear p27
            try clear q27
            try clear hx27
            try clear c30
            try clear c30b0
            try clear c30b1
            try clear c31
            try clear c31b0
            try clear c31b1
            try clear c34
            try clear c34b0
            try clear c35
            try clear c35b0
            try clear c36
            try clear c36b0
            try clear hx253_0
            try clear hx253_1
            try clear hx253_2
            try clear hx255_0
            try clear hx255_1
            try clear hx255_2
            try clear hx256_0
            try clear hx256_1
            try clear hx256_2
            try clear hx257_0
            try clear hx257_1
            try clear hx257_2
            try clear hx258_0
            try clear hx258_1
            try clear hx258_2
            try clear hx259_0
            try clear hx259_1
            try clear hx259_2
            try clear hx260_0
            try clear hx260_1
            try clear hx260_2
            try clear hx261_0
            try clear hx261_1
            try clear hx261_2
            try clear hx262_0
            try clear hx262_1
            try clear hx262_2
            try clear hx263_0
            try clear hx263_1
            try clear hx263_2
            try clear hx264_0
            try clear hx264_1
            try clear hx264_2
            try clear hx268_0
            try clear hx273_0
            try clear hx273_1
            try clear hx273_2
            try clear p2
            try clear p25
            try clear p253
            try clear p255
            try clear p256
            try clear p257
            try clear p258
            try clear p259
            try clear p26
            try clear p260
            try clear p261
            try clear p262
            try clear p263
            try clear p264
            try clear p268
            try clear p273
            try clear p6
            try clear q2
            try clear q25
            try clear q253
            try clear q255
            try clear q256
            try clear q257
            try clear q258
            try clear q259
            try clear q26
            try clear q260
            try clear q261
            try clear q262
            try clear q263
            try clear q264
            try clear q268
            try clear q273
            obtain ⟨x10_4, x11_4, rfl, rfl, HA, HK4, HO_6, HO_9, HB⟩ := hrel
            cases gk with
            | zero => exact absurd HA.out (by simp [spec_TableOk.l4])
            | succ k4 =>
             have H := HA.out
             clear HA
             simp only [spec_TableOk.l4] at H
             by_cases c39 : x11_4 < (t274.length : Int)
             ·rw [if_pos c39] at H
              have c39b0 := decide_eq_true c39
              clear c39
              by_cases c40 : x10_4 = true
              ·subst c40
               have H1 := hp H
               clear H
               have H := H1
               clear H1
               replace H := iz H
               obtain ⟨c41, H⟩ := H
               have c41b0 := decide_eq_true c41
               clear c41
               replace H := iz H
               obtain ⟨c42, H⟩ := H
               have c42b0 := decide_eq_true c42
               clear c42
               replace H := iz H
               obtain ⟨c43, H⟩ := H
               have c43b0 := decide_eq_true c43
               clear c43
               have H' := Aside0.mk H
               clear H
               obtain ⟨Ao44, co44, eo44⟩ := Kd.R_slice HO_9.out
               subst eo44
               have p277 : 0 <= (x11_4 : Int) := oz
               have q277 : x11_4 < (t274.length : Int) := oz
               obtain ⟨ad277, e277, hx277_0⟩ := Kd.at_int (Kd.R_reads' HO_9.out).2.2 x11_4 p277 q277
               cases e277
               replace p277 := eq_true p277
               replace q277 := eq_true q277
               obtain ⟨Ao45, co45, eo45⟩ := Kd.R_slice HO_6.out
               subst eo45
               have p278 : 0 <= ((rd t274 x11_4) : Int) := oz
               have q278 : (rd t274 x11_4) < (x6_3.length : Int) := oz
               obtain ⟨ad278, e278, hx278_0⟩ := Kd.at_bool (Kd.R_reads' HO_6.out).2.2 (rd t274 x11_4) p278 q278
               cases e278
               replace p278 := eq_true p278
               replace q278 := eq_true q278
               go_wp2
               go_roundg k4
               case measure => have := HK1.out; have := HK2.out; have := HK3.out; have := HK4.out; omega
               case rel => exact ⟨(rdOf false x6_3 (rd t274 x11_4)), (wrap64 (x11_4 + 1)), ez, ez, H', ⟨by have := HK1.out; have := HK2.out; have := HK3.out; have := HK4.out; omega⟩, ⟨by refine rq ?_; exact HO_6.out⟩, ⟨by refine rq ?_; exact HO_9.out⟩, ⟨(bz0 HB.out)⟩⟩
              ·replace c40 := Bool.eq_false_iff.mpr c40
               subst c40
               have H1 := hq H
               clear H
               have H := H1
               clear H1
               have H' := Aside0.mk H
               clear H
               obtain ⟨Ao46, co46, eo46⟩ := Kd.R_slice HO_9.out
               subst eo46
               go_wp2
               go_roundg k4
               case measure => have := HK1.out; have := HK2.out; have := HK3.out; have := HK4.out; omega
               case rel => exact ⟨(false), (wrap64 (x11_4 + 1)), ez, ez, H', ⟨by have := HK1.out; have := HK2.out; have := HK3.out; have := HK4.out; omega⟩, ⟨by refine rq ?_; exact HO_6.out⟩, ⟨by refine rq ?_; exact HO_9.out⟩, ⟨(bz0 HB.out)⟩⟩
             ·rw [if_neg c39] at H
              have c39b0 := decide_eq_false c39
              clear c39
              replace H := iz H
              obtain ⟨c47, H⟩ := H
              have c47b0 := decide_eq_true c47
              clear c47
              replace H := iz H
              obtain ⟨c48, H⟩ := H
              have c48b0 := decide_eq_true c48
              clear c48
              obtain ⟨bq49, hbq49⟩ : ∃ b_ : Bool, b_ = (rdOf false x6_3 x8_3) := ⟨_, rfl⟩
              replace H : (if bq49 = true then (spec_TableOk.l3 k4 l0 (x6_3.set (x8_3 : Int).toNat true) x7_2 (wrap64 (x8_3 + 1))) else (spec_TableOk.l3 k4 l0 (x6_3.set (x8_3 : Int).toNat x10_4) x7_2 (wrap64 (x8_3 + 1)))) = some r := by rw [<- hbq49] at H; exact H
              have Nbq49 := Aside0.mk hbq49
              clear hbq49
              by_cases c50 : bq49 = true
              ·subst c50
               have H1 := hp H
               clear H
               have H := H1
               clear H1
               obtain ⟨y280, hy280⟩ : ∃ y_ : List Bool, y_ = (x6_3.set (x8_3 : Int).toNat true) := ⟨_, rfl⟩
               replace H : (spec_TableOk.l3 k4 l0 y280 x7_2 (wrap64 (x8_3 + 1))) = some r := yz hy280 H
               have Ny280 := Aside0.mk hy280
               clear hy280
               have H' := Aside0.mk H
               clear H
               obtain ⟨Ao52, co52, eo52⟩ := Kd.R_slice HO_9.out
               subst eo52
               obtain ⟨Ao53, co53, eo53⟩ := Kd.R_slice HO_6.out
               subst eo53
               have p279 : 0 <= (x8_3 : Int) := oz
               have q279 : x8_3 < (x6_3.length : Int) := oz
               obtain ⟨ad279, e279, hx279_0⟩ := Kd.at_bool (Kd.R_reads' HO_6.out).2.2 x8_3 p279 q279
               (try rw [<- Nbq49.out] at hx279_0)
               cases e279
               replace p279 := eq_true p279
               replace q279 := eq_true q279
               have p51 : 0 <= (x8_3 : Int) := oz
               have q51 : (x8_3 : Int) < ((x6_3.length : Int) : Int) := oz
               obtain ⟨go51, co51, eo51, gb51, gl51, cl51, HG51⟩ := Kd.R_form HO_6.out (by omega)
               (first | cases eo51 | (injection eo51 with ea_ en_ ec_; (first | subst ea_ | (injection ea_ with ea_; subst ea_)); subst ec_; clear en_))
               have GB51 := Aside0.mk gb51
               have GG51 := Aside0.mk HG51
               clear gb51 gl51 HG51
               (first | simp only [add_plain] at hx279_0 | skip)
               obtain ⟨hx51_0, hf51_0⟩ := Kd.R_celln false HO_6.out (x8_3 : Int) p51 q51
               replace p51 := eq_true p51
               replace q51 := eq_true q51
               have HP54 := Kd.R_putg HO_6.out (x8_3 : Int) true
               go_wp2_with (first | ((with_reducible refine gate_store (t := 4) (p := 148) rfl ?_); refine store_event (t := 4) (p := 148) (v := ?vo_w55) (w1 := (wr.setCell ⟨go51, (x8_3 : Int).toNat, none⟩ (.bool true))) ?hg ?ho ?hn ?hr ?_; (case ho => rfl); (case hg => rfl); (case hn => rfl); (case hr => exact vz); intro w55 hw; have hg : wr.grownBy w55 (some go51) := (by rw [hw]; exact HP54.2); have hp_ : Kd.R Kd.bool 4 w55 w.heap.size (fun _ => True) (.slice (some ⟨go51, 0, none⟩) x6_3.length co53) y280 := (by rw [hw, Ny280.out]; exact HP54.1); clear HP54; replace HO_9 := Aside0.mk (Kd.R_over' (v := (.slice (some ⟨go51, 0, none⟩) x6_3.length co53)) (rz HO_9.out) (Kd.R_typed HO_6.out) (by decide) hg); replace HO_6 := Aside0.mk (hp_); replace HB := Aside0.mk ((by rw [hw]; exact below_set (HB.out) GB51.out : Below w.heap.size w w55)); clear hg hw hp_))
               go_roundg k4
               case measure => have := HK1.out; have := HK2.out; have := HK3.out; have := HK4.out; omega
               case rel => exact ⟨(y280), (wrap64 (x8_3 + 1)), ez, H', ⟨by have := HK1.out; have := HK2.out; have := HK3.out; have := HK4.out; omega⟩, ⟨by refine rq ?_; exact HO_6.out⟩, ⟨(bz0 HB.out)⟩⟩
              ·replace c50 := Bool.eq_false_iff.mpr c50
               subst c50
               have H1 := hq H
               clear H
               have H := H1
               clear H1
               obtain ⟨y281, hy281⟩ : ∃ y_ : List Bool, y_ = (x6_3.set (x8_3 : Int).toNat x10_4) := ⟨_, rfl⟩
               replace H : (spec_TableOk.l3 k4 l0 y281 x7_2 (wrap64 (x8_3 + 1))) = some r := yz hy281 H
               have Ny281 := Aside0.mk hy281
               clear hy281
               have H' := Aside0.mk H
               clear H
               obtain ⟨Ao57, co57, eo57⟩ := Kd.R_slice HO_9.out
               subst eo57
               obtain ⟨Ao58, co58, eo58⟩ := Kd.R_slice HO_6.out
               subst eo58
               have p279 : 0 <= (x8_3 : Int) := oz
               have q279 : x8_3 < (x6_3.length : Int) := oz
               obtain ⟨ad279, e279, hx279_0⟩ := Kd.at_bool (Kd.R_reads' HO_6.out).2.2 x8_3 p279 q279
               (try rw [<- Nbq49.out] at hx279_0)
               cases e279
               replace p279 := eq_true p279
               replace q279 := eq_true q279
               have p56 : 0 <= (x8_3 : Int) := oz
               have q56 : (x8_3 : Int) < ((x6_3.length : Int) : Int) := oz
               obtain ⟨go56, co56, eo56, gb56, gl56, cl56, HG56⟩ := Kd.R_form HO_6.out (by omega)
               (first | cases eo56 | (injection eo56 with ea_ en_ ec_; (first | subst ea_ | (injection ea_ with ea_; subst ea_)); subst ec_; clear en_))
               have GB56 := Aside0.mk gb56
               have GG56 := Aside0.mk HG56
               clear gb56 gl56 HG56
               (first | simp only [add_plain] at hx279_0 | skip)
               obtain ⟨hx56_0, hf56_0⟩ := Kd.R_celln false HO_6.out (x8_3 : Int) p56 q56
               replace p56 := eq_true p56
               replace q56 := eq_true q56
               have HP59 := Kd.R_putg HO_6.out (x8_3 : Int) x10_4
               go_wp2_with (first | ((with_reducible refine gate_store (t := 4) (p := 148) rfl ?_); refine store_event (t := 4) (p := 148) (v := ?vo_w60) (w1 := (wr.setCell ⟨go56, (x8_3 : Int).toNat, none⟩ (.bool x10_4))) ?hg ?ho ?hn ?hr ?_; (case ho => rfl); (case hg => rfl); (case hn => rfl); (case hr => exact vz); intro w60 hw; have hg : wr.grownBy w60 (some go56) := (by rw [hw]; exact HP59.2); have hp_ : Kd.R Kd.bool 4 w60 w.heap.size (fun _ => True) (.slice (some ⟨go56, 0, none⟩) x6_3.length co58) y281 := (by rw [hw, Ny281.out]; exact HP59.1); clear HP59; replace HO_9 := Aside0.mk (Kd.R_over' (v := (.slice (some ⟨go56, 0, none⟩) x6_3.length co58)) (rz HO_9.out) (Kd.R_typed HO_6.out) (by decide) hg); replace HO_6 := Aside0.mk (hp_); replace HB := Aside0.mk ((by rw [hw]; exact below_set (HB.out) GB56.out : Below w.heap.size w w60)); clear hg hw hp_))
               go_roundg k4
               case measure => have := HK1.out; have := HK2.out; have := HK3.out; have := HK4.out; omega
               case rel => exact ⟨(y281), (wrap64 (x8_3 + 1)), ez, H', ⟨by have := HK1.out; have := HK2.out; have := HK3.out; have := HK4.out; omega⟩, ⟨by refine rq ?_; exact HO_6.out⟩, ⟨(bz0 HB.out)⟩⟩
          ·rw [if_neg c35] at H
           have c35b0 := decide_eq_false c35
           clear c35
           have H' := Aside0.mk H
           clear H
           go_wp2
           go_roundg k3
           case measure => have := HK1.out; have := HK2.out; have := HK3.out; omega
           case rel => exact ⟨(x6_3), (wrap64 (x7_2 + 1)), ez, H', ⟨by have := HK1.out; have := HK2.out; have := HK3.out; omega⟩, ⟨by refine rq ?_; exact HO_6.out⟩, ⟨(bz0 HB.out)⟩⟩
       ·rw [if_neg c34] at H
        have c34b0 := decide_eq_false c34
        clear c34
        have H' := Aside0.mk H
        clear H
        go_wp2
        go_loopg [12] k2 (fun kq v12 w' => ∃ (x12_3 : Int), v12 = .int .i64 x12_3 /\ Aside0 (spec_TableOk.l5 kq l0 x6_2 x12_3 = some r) /\ Aside0 (kq <= k2) /\ Aside0 (Kd.R Kd.bool 4 w' w.heap.size (fun _ => True) v271 x6_2) /\ Aside0 (Below w.heap.size w w'))
        case atStart => exact ⟨(0), ez, H', ⟨Nat.le_refl _⟩, ⟨by refine rq ?_; exact HO_6.out⟩, ⟨(bz0 HB.out)⟩⟩
        case round =>
         clear H'
         try clear c1
         try clear c2
         try clear c2b0
         try clear c2b1
         try clear p2
         try clear q2
         try clear hx2
         try clear c3
         try clear c3b0
         try clear c4
         try clear q4
         try clear c5
         try clear c5b0
         try clear p5
         try clear q5
         try clear hx5
         try clear hf5
         try clear p6
         try clear c7
         try clear c8
         try clear c8b0
         try clear c8b1
         try clear c9
         try clear c9b0
         try clear c10
         try clear c10b0
         try clear c10b1
         try clear c11
         try clear c11b0
         try clear c11b1
         try clear c12
         try clear c14
         try clear c14b0
         try clear c15
         try clear c15b0
         try clear c16
         try clear c16b0
         try clear c16b1
         try clear c17
         try clear c17b0
         try clear c17b1
         try clear c18
         try clear c19
         try clear c19b0
         try clear c20
         try clear c20b0
         try clear c23
         try clear c23b0
         try clear c24
         try clear c24b0
         try clear p25
         try clear q25
         try clear hx25
         try clear c26
         try clear p26
         try clear q26
         try clear hx26
         try clear p27
         try clear q27
         try clear hx27
         try clear c30
         try clear c30b0
         try clear c30b1
         try clear c31
         try clear c31b0
         try clear c31b1
         try clear c34
         try clear c34b0
         try clear c35
         try clear c35b0
         try clear c36
         try clear c36b0
         try clear c39
         try clear c39b0
         try clear c40
         try clear c41
         try clear c41b0
         try clear c42
         try clear c42b0
         try clear c43
         try clear c43b0
         try clear c47
         try clear c47b0
         try clear c48
         try clear c48b0
         try clear q49
         try clear c50
         try clear p51
         try clear q51
         try clear hx51
         try clear hf51
         try clear c56
         try clear p56
         try clear q56
         try clear hx56
         try clear hf56
         try clear hx253_0
         try clear hx253_1
         try clear hx253_2
         try clear hx255_0
         try clear hx255_1
         try clear hx255_2
         try clear hx256_0
         try clear hx256_1
         try clear hx256_2
         try clear hx257_0
         try clear hx257_1
         try clear hx257_2
         try clear hx258_0
         try clear hx258_1
         try clear hx258_2
         try clear hx259_0
         try clear hx259_1
         try clear hx259_2
         try clear hx260_0
         try clear hx260_1
         try clear hx260_2
         try clear hx261_0
         try clear hx261_1
         try clear hx261_2
         try clear hx262_0
         try clear hx262_1
         try clear hx262_2
         try clear hx263_0
         try clear hx263_1
         try clear hx263_2
         try clear hx264_0
         try clear hx264_1
         try clear hx264_2
         try clear hx268_0
         try clear hx273_0
         try clear hx273_1
         try clear hx273_2
         try clear hx277_0
         try clear hx278_0
         try clear hx279_0
         try clear hx51_0
         try clear hx56_0
         try clear p2
         try clear p25
         try clear p253
         try clear p255
         try clear p256
         try clear p257
         try clear p258
         try clear p259
         try clear p26
         try clear p260
         try clear p261
         try clear p262
         try clear p263
         try clear p264
         try clear p268
         try clear p27
         try clear p273
         try clear p277
         try clear p278
         try clear p279
         try clear p51
         try clear p56
         try clear p6
         try clear q2
         try clear q25
         try clear q253
         try clear q255
         try clear q256
         try clear q257
         try clear q258
         try clear q259
         try clear q26
         try clear q260
         try clear q261
         try clear q262
         try clear q263
         try clear q264
         try clear q268
         try clear q27
         try clear q273
         try clear q277
         try clear q278
         try clear q279
         try clear q51
         try clear q56
         obtain ⟨x12_3, rfl, HA, HK3, HO_6, HB⟩ := hrel
         cases gk with
         | zero => exact absurd HA.out (by simp [spec_TableOk.l5])
         | succ k3 =>
          have H := HA.out
          clear HA
          simp only [spec_TableOk.l5] at H
          by_cases c61 : x12_3 < (l0.length : Int)
          ·rw [if_pos c61] at H
           have c61b0 := decide_eq_true c61
           clear c61
           replace H := iz H
           obtain ⟨c62, H⟩ := H
           have c62b0 := decide_eq_true c62
           clear c62
           replace H := iz H
           obtain ⟨c63, H⟩ := H
           have c63b0 := decide_eq_true c63
           clear c63
           obtain ⟨bq64, hbq64⟩ : ∃ b_ : Bool, b_ = (rdOf false x6_2 x12_3) := ⟨_, rfl⟩
           replace H : (if bq64 = true then (spec_TableOk.l5 k3 l0 x6_2 (wrap64 (x12_3 + 1))) else (some false)) = some r := by rw [<- hbq64] at H; exact H
           have Nbq64 := Aside0.mk hbq64
           clear hbq64
           by_cases c65 : bq64 = true
           ·subst c65
            have H1 := hp H
            clear H
            have H := H1
            clear H1
            have H' := Aside0.mk H
            clear H
            obtain ⟨Ao66, co66, eo66⟩ := Kd.R_slice HO_6.out
            subst eo66
            have p282 : 0 <= (x12_3 : Int) := oz
            have q282 : x12_3 < (x6_2.length : Int) := oz
            obtain ⟨ad282, e282, hx282_0⟩ := Kd.at_bool (Kd.R_reads' HO_6.out).2.2 x12_3 p282 q282
            (try rw [<- Nbq64.out] at hx282_0)
            cases e282
            replace p282 := eq_true p282
            replace q282 := eq_true q282
            go_wp2
            go_roundg k3
            case measure => have := HK1.out; have := HK2.out; have := HK3.out; omega
            case rel => exact ⟨(wrap64 (x12_3 + 1)), ez, H', ⟨by have := HK1.out; have := HK2.out; have := HK3.out; omega⟩, ⟨by refine rq ?_; exact HO_6.out⟩, ⟨(bz0 HB.out)⟩⟩
           ·replace c65 := Bool.eq_false_iff.mpr c65
            subst c65
            have H1 := hq H
            clear H
            have H := H1
            clear H1
            obtain rfl := Option.some.inj H
            obtain ⟨Ao67, co67, eo67⟩ := Kd.R_slice HO_6.out
            subst eo67
            have p282 : 0 <= (x12_3 : Int) := oz
            have q282 : x12_3 < (x6_2.length : Int) := oz
            obtain ⟨ad282, e282, hx282_0⟩ := Kd.at_bool (Kd.R_reads' HO_6.out).2.2 x12_3 p282 q282
            (try rw [<- Nbq64.out] at hx282_0)
            cases e282
            replace p282 := eq_true p282
            replace q282 := eq_true q282
            go_wp2
            go_ret
            exact ⟨gz, (bz0 HB.out)⟩
          ·rw [if_neg c61] at H
           have c61b0 := decide_eq_false c61
           clear c61
           obtain rfl := Option.some.inj H
           go_wp2
           go_ret
           exact ⟨gz, (bz0 HB.out)⟩
end Go.Proofs.YtlhofeikcaejpaaDoor.PFnSizes
