/- PFnExactUnifiedx8, of the words and walks that the law FnExactUnified needs; made by this session's program out of printed texts. -/

import Derived.Test.YtlhofeikcaejpaaDoorVEUnifiedPx0
import Derived.Test.YtlhofeikcaejpaaDoorVEUnifiedPx7
namespace Go.Proofs.YtlhofeikcaejpaaDoor.PFnExactUnified
open Go.RowKit Go.Proofs.YtlhofeikcaejpaaDoorW.PrintWords Go.Proofs.YtlhofeikcaejpaaDoorW.PrintLast Go.Proofs.YtlhofeikcaejpaaDoorW.PrintMore
attribute [local go_sem] max2_int min2_int max_two min_two max_three min_three max_four min_four
set_option linter.unusedVariables false
set_option linter.unusedSimpArgs false
mutual
def spec_TableOk.l0 : Nat -> List (S55) -> Int -> Option (Bool)
 | 0, _, _ => none
 | k + 1, x0, x3 => if x3 < (x0.length : Int) then (if 0 <= x3 then ((spec_l1In.f ((rd_T55 x0 x3).f0) 0 5).bind fun t184 => (if t184 = true then (if ((rd_T55 x0 x3).f0) = 0 then (if ((rd_T55 x0 x3).f1) < (-1) then (spec_TableOk.j1 k x0 x3 true) else (if ((rd_T55 x0 x3).f0) = 1 then (spec_TableOk.j1 k x0 x3 (((rd_T55 x0 x3).f1) != 0)) else (spec_TableOk.j1 k x0 x3 false))) else (if ((rd_T55 x0 x3).f0) = 1 then (spec_TableOk.j1 k x0 x3 (((rd_T55 x0 x3).f1) != 0)) else (spec_TableOk.j1 k x0 x3 false))) else (spec_TableOk.j1 k x0 x3 true))) else (none)) else (if 0 <= (x0.length : Int) then (if ((x0.length : Int) : Int).toNat <= 281474976710656 then (spec_TableOk.l2 k x0 (List.replicate ((x0.length : Int) : Int).toNat false) 0) else (none)) else (none))
def spec_TableOk.j1 : Nat -> List (S55) -> Int -> Bool -> Option (Bool)
 | 0, _, _, _ => none
 | k + 1, x0, x3, x60 => if x60 = true then (some false) else (if 0 <= x3 then (if x3 < (x0.length : Int) then (if ((rd_T55 x0 x3).f0) = 2 then (spec_TableOk.j2 k x0 x3 false) else (if ((rd_T55 x0 x3).f0) = 3 then (spec_TableOk.j2 k x0 x3 false) else (spec_TableOk.j2 k x0 x3 (((rd_T55 x0 x3).f2) != 0)))) else (none)) else (none))
def spec_TableOk.j2 : Nat -> List (S55) -> Int -> Bool -> Option (Bool)
 | 0, _, _, _ => none
 | k + 1, x0, x3, x82 => if x82 = true then (some false) else (if 0 <= x3 then (if x3 < (x0.length : Int) then ((spec_l8Kids.f k ((rd_T55 x0 x3).f0) ((rd_T55 x0 x3).f1) ((rd_T55 x0 x3).f2)).bind fun t195 => (spec_TableOk.l1 k x0 x3 t195 0)) else (none)) else (none))
def spec_TableOk.l1 : Nat -> List (S55) -> Int -> List Int -> Int -> Option (Bool)
 | 0, _, _, _, _ => none
 | k + 1, x0, x3, x4, x5 => if x5 < (x4.length : Int) then (if 0 <= x5 then ((spec_l1In.f (rd x4 x5) 0 (wrap64 ((x0.length : Int) - 1))).bind fun t199 => (if t199 = true then (spec_TableOk.l1 k x0 x3 x4 (wrap64 (x5 + 1))) else (some false))) else (none)) else (spec_TableOk.l0 k x0 (wrap64 (x3 + 1)))
def spec_TableOk.l2 : Nat -> List (S55) -> List Bool -> Int -> Option (Bool)
 | 0, _, _, _ => none
 | k + 1, x0, x6, x7 => if x7 < (x0.length : Int) then (spec_TableOk.l3 k x0 x6 x7 0) else (spec_TableOk.l5 k x0 x6 0)
def spec_TableOk.l3 : Nat -> List (S55) -> List Bool -> Int -> Int -> Option (Bool)
 | 0, _, _, _, _ => none
 | k + 1, x0, x6, x7, x8 => if x8 < (x0.length : Int) then (if 0 <= x8 then ((spec_l8Kids.f k ((rd_T55 x0 x8).f0) ((rd_T55 x0 x8).f1) ((rd_T55 x0 x8).f2)).bind fun t204 => (spec_TableOk.l4 k x0 x6 x7 x8 t204 true 0)) else (none)) else (spec_TableOk.l2 k x0 x6 (wrap64 (x7 + 1)))
def spec_TableOk.l4 : Nat -> List (S55) -> List Bool -> Int -> Int -> List Int -> Bool -> Int -> Option (Bool)
 | 0, _, _, _, _, _, _, _ => none
 | k + 1, x0, x6, x7, x8, x9, x10, x11 => if x11 < (x9.length : Int) then (if x10 = true then (if 0 <= x11 then (if 0 <= (rd x9 x11) then (if (rd x9 x11) < (x6.length : Int) then (spec_TableOk.l4 k x0 x6 x7 x8 x9 (rdOf false x6 (rd x9 x11)) (wrap64 (x11 + 1))) else (none)) else (none)) else (none)) else (spec_TableOk.l4 k x0 x6 x7 x8 x9 false (wrap64 (x11 + 1)))) else (if 0 <= x8 then (if x8 < (x6.length : Int) then (if rdOf false x6 x8 = true then (spec_TableOk.l3 k x0 (x6.set (x8 : Int).toNat true) x7 (wrap64 (x8 + 1))) else (spec_TableOk.l3 k x0 (x6.set (x8 : Int).toNat x10) x7 (wrap64 (x8 + 1)))) else (none)) else (none))
def spec_TableOk.l5 : Nat -> List (S55) -> List Bool -> Int -> Option (Bool)
 | 0, _, _, _ => none
 | k + 1, x0, x6, x12 => if x12 < (x0.length : Int) then (if 0 <= x12 then (if x12 < (x6.length : Int) then (if rdOf false x6 x12 = true then (spec_TableOk.l5 k x0 x6 (wrap64 (x12 + 1))) else (some false)) else (none)) else (none)) else (some true)
end
def spec_TableOk.f (k : Nat) (l0 : List (S55)) : Option (Bool) := if (l0.length : Int) > 40 then (some false) else (spec_TableOk.l0 k l0 0)
theorem spec_TableOk.mono_l : ∀ k, (∀ y0 y1, LeO (spec_TableOk.l0 k y0 y1) (spec_TableOk.l0 (k + 1) y0 y1)) /\ (∀ y0 y1 y2, LeO (spec_TableOk.j1 k y0 y1 y2) (spec_TableOk.j1 (k + 1) y0 y1 y2)) /\ (∀ y0 y1 y2, LeO (spec_TableOk.j2 k y0 y1 y2) (spec_TableOk.j2 (k + 1) y0 y1 y2)) /\ (∀ y0 y1 y2 y3, LeO (spec_TableOk.l1 k y0 y1 y2 y3) (spec_TableOk.l1 (k + 1) y0 y1 y2 y3)) /\ (∀ y0 y1 y2, LeO (spec_TableOk.l2 k y0 y1 y2) (spec_TableOk.l2 (k + 1) y0 y1 y2)) /\ (∀ y0 y1 y2 y3, LeO (spec_TableOk.l3 k y0 y1 y2 y3) (spec_TableOk.l3 (k + 1) y0 y1 y2 y3)) /\ (∀ y0 y1 y2 y3 y4 y5 y6, LeO (spec_TableOk.l4 k y0 y1 y2 y3 y4 y5 y6) (spec_TableOk.l4 (k + 1) y0 y1 y2 y3 y4 y5 y6)) /\ (∀ y0 y1 y2, LeO (spec_TableOk.l5 k y0 y1 y2) (spec_TableOk.l5 (k + 1) y0 y1 y2))
 | 0 => ⟨fun _ _ r h => by simp [spec_TableOk.l0] at h, fun _ _ _ r h => by simp [spec_TableOk.j1] at h, fun _ _ _ r h => by simp [spec_TableOk.j2] at h, fun _ _ _ _ r h => by simp [spec_TableOk.l1] at h, fun _ _ _ r h => by simp [spec_TableOk.l2] at h, fun _ _ _ _ r h => by simp [spec_TableOk.l3] at h, fun _ _ _ _ _ _ _ r h => by simp [spec_TableOk.l4] at h, fun _ _ _ r h => by simp [spec_TableOk.l5] at h⟩
 | k + 1 => by
  obtain ⟨ih0, ih1, ih2, ih3, ih4, ih5, ih6, ih7⟩ := spec_TableOk.mono_l k
  refine ⟨?_, ?_, ?_, ?_, ?_, ?_, ?_, ?_⟩
  ·intro y0 y1
   unfold spec_TableOk.l0
   with_reducible repeat' first | exact ih0 _ _ | exact ih1 _ _ _ | exact ih2 _ _ _ | exact ih3 _ _ _ _ | exact ih4 _ _ _ | exact ih5 _ _ _ _ | exact ih6 _ _ _ _ _ _ _ | exact ih7 _ _ _ | exact spec_l8Kids.mono _ _ _ _ | exact lrz _ | exact lnz _ | refine liz ?_ ?_ | refine lbz ?_ fun _ => ?_
  ·intro y0 y1 y2
   unfold spec_TableOk.j1
   with_reducible repeat' first | exact ih0 _ _ | exact ih1 _ _ _ | exact ih2 _ _ _ | exact ih3 _ _ _ _ | exact ih4 _ _ _ | exact ih5 _ _ _ _ | exact ih6 _ _ _ _ _ _ _ | exact ih7 _ _ _ | exact spec_l8Kids.mono _ _ _ _ | exact lrz _ | exact lnz _ | refine liz ?_ ?_ | refine lbz ?_ fun _ => ?_
  ·intro y0 y1 y2
   unfold spec_TableOk.j2
   with_reducible repeat' first | exact ih0 _ _ | exact ih1 _ _ _ | exact ih2 _ _ _ | exact ih3 _ _ _ _ | exact ih4 _ _ _ | exact ih5 _ _ _ _ | exact ih6 _ _ _ _ _ _ _ | exact ih7 _ _ _ | exact spec_l8Kids.mono _ _ _ _ | exact lrz _ | exact lnz _ | refine liz ?_ ?_ | refine lbz ?_ fun _ => ?_
  ·intro y0 y1 y2 y3
   unfold spec_TableOk.l1
   with_reducible repeat' first | exact ih0 _ _ | exact ih1 _ _ _ | exact ih2 _ _ _ | exact ih3 _ _ _ _ | exact ih4 _ _ _ | exact ih5 _ _ _ _ | exact ih6 _ _ _ _ _ _ _ | exact ih7 _ _ _ | exact spec_l8Kids.mono _ _ _ _ | exact lrz _ | exact lnz _ | refine liz ?_ ?_ | refine lbz ?_ fun _ => ?_
  ·intro y0 y1 y2
   unfold spec_TableOk.l2
   with_reducible repeat' first | exact ih0 _ _ | exact ih1 _ _ _ | exact ih2 _ _ _ | exact ih3 _ _ _ _ | exact ih4 _ _ _ | exact ih5 _ _ _ _ | exact ih6 _ _ _ _ _ _ _ | exact ih7 _ _ _ | exact spec_l8Kids.mono _ _ _ _ | exact lrz _ | exact lnz _ | refine liz ?_ ?_ | refine lbz ?_ fun _ => ?_
  ·intro y0 y1 y2 y3
   unfold spec_TableOk.l3
   with_reducible repeat' first | exact ih0 _ _ | exact ih1 _ _ _ | exact ih2 _ _ _ | exact ih3 _ _ _ _ | exact ih4 _ _ _ | exact ih5 _ _ _ _ | exact ih6 _ _ _ _ _ _ _ | exact ih7 _ _ _ | exact spec_l8Kids.mono _ _ _ _ | exact lrz _ | exact lnz _ | refine liz ?_ ?_ | refine lbz ?_ fun _ => ?_
  ·intro y0 y1 y2 y3 y4 y5 y6
   unfold spec_TableOk.l4
   with_reducible repeat' first | exact ih0 _ _ | exact ih1 _ _ _ | exact ih2 _ _ _ | exact ih3 _ _ _ _ | exact ih4 _ _ _ | exact ih5 _ _ _ _ | exact ih6 _ _ _ _ _ _ _ | exact ih7 _ _ _ | exact spec_l8Kids.mono _ _ _ _ | exact lrz _ | exact lnz _ | refine liz ?_ ?_ | refine lbz ?_ fun _ => ?_
  ·intro y0 y1 y2
   unfold spec_TableOk.l5
   with_reducible repeat' first | exact ih0 _ _ | exact ih1 _ _ _ | exact ih2 _ _ _ | exact ih3 _ _ _ _ | exact ih4 _ _ _ | exact ih5 _ _ _ _ | exact ih6 _ _ _ _ _ _ _ | exact ih7 _ _ _ | exact spec_l8Kids.mono _ _ _ _ | exact lrz _ | exact lnz _ | refine liz ?_ ?_ | refine lbz ?_ fun _ => ?_
theorem spec_TableOk.mono : ∀ a0 k, LeO (spec_TableOk.f k a0) (spec_TableOk.f (k + 1) a0) := by
 intro a0 k
 obtain ⟨ih0, ih1, ih2, ih3, ih4, ih5, ih6, ih7⟩ := spec_TableOk.mono_l k
 unfold spec_TableOk.f
 with_reducible repeat' first | exact ih0 _ _ | exact ih1 _ _ _ | exact ih2 _ _ _ | exact ih3 _ _ _ _ | exact ih4 _ _ _ | exact ih5 _ _ _ _ | exact ih6 _ _ _ _ _ _ _ | exact ih7 _ _ _ | exact spec_l8Kids.mono _ _ _ _ | exact lrz _ | exact lnz _ | refine liz ?_ ?_ | refine lbz ?_ fun _ => ?_
set_option maxHeartbeats 8000000 in
set_option maxRecDepth 100000 in
theorem spec_TableOk.calls (k : Nat) (A0 : Option Addr) (c0 : Nat) (l0 : List (S55)) (r : Bool) (w : World) (hr0 : Kd.C k55 w A0 l0.length l0) (hc0 : l0.length <= c0) (h : spec_TableOk.f k l0 = some r) :
  Calls Tryd.prog 24 #[.slice A0 l0.length c0] w fun e w' => e = .returned (.bool r) /\ Below w.heap.size w w' := by
 have hu55 := Tryd.underlying55
 have HR0 := Aside0.mk hr0
 have HC0 := Aside0.mk hc0
 clear hr0 hc0
 have HB := Aside0.mk (Below.refl w.heap.size w)
 have H : (if (l0.length : Int) > 40 then (some false) else (spec_TableOk.l0 k l0 0)) = some r := h
 clear h
 by_cases c2 : (l0.length : Int) > 40
 ·rw [if_pos c2] at H
  have c2b0 : decide (40 < (l0.length : Int)) = true := decide_eq_true c2
  have c2b1 : decide (40 < l0.length) = true := decide_eq_true (by omega)
  clear c2
  obtain rfl := Option.some.inj H
  go_enter Tryd.func24, Tryd.ntmps24
  go_wp2
  go_ret
  exact ⟨gz, (bz0 HB.out)⟩
 ·rw [if_neg c2] at H
  have c2b0 : decide (40 < (l0.length : Int)) = false := decide_eq_false c2
  have c2b1 : decide (40 < l0.length) = false := decide_eq_false (by omega)
  clear c2
  have H' := Aside0.mk H
  clear H
  go_enter Tryd.func24, Tryd.ntmps24
  go_wp2
  go_loopg [3] k (fun kq v3 w' => ∃ (x3_1 : Int), v3 = .int .i64 x3_1 /\ Aside0 (spec_TableOk.l0 kq l0 x3_1 = some r) /\ Aside0 (kq <= k) /\ Aside0 (Below w.heap.size w w'))
  case atStart => exact ⟨(0), ez, H', ⟨Nat.le_refl _⟩, ⟨(bz0 HB.out)⟩⟩
  case round =>
   clear H'
   try clear c2
   try clear c2b0
   try clear c2b1
   try clear p2
   obtain ⟨x3_1, rfl, HA, HK1, HB⟩ := hrel
   cases gk with
   | zero => exact absurd HA.out (by simp [spec_TableOk.l0])
   | succ k1 =>
    have H := HA.out
    clear HA
    simp only [spec_TableOk.l0] at H
    by_cases c3 : x3_1 < (l0.length : Int)
    ·rw [if_pos c3] at H
     have c3b0 := decide_eq_true c3
     clear c3
     have HC4 := Aside0.mk H
     clear H
     go_upto_region 6 with (fail)
     go_cut [60] (fun v60 wc => ∃ (kq : Nat) (x60_3 : Bool), v60 = .bool x60_3 /\ Aside0 (spec_TableOk.j1 kq l0 x3_1 x60_3 = some r) /\ Aside0 (kq <= k1) /\ Aside0 (Below w.heap.size w wc))
     case first =>
      have H := HC4.out
      clear HC4
      replace H := iz H
      obtain ⟨c5, H⟩ := H
      have c5b0 := decide_eq_true c5
      clear c5
      (first | rw [c5b0] | (simp only [i64_w, i32_w]; rw [c5b0]) | skip)
      replace H := bi H
      obtain ⟨t184, A60, H⟩ := H
      try dsimp only at H
      have A6 := Aside0.mk A60
      clear A60
      by_cases c7 : t184 = true
      ·subst c7
       have H1 := hp H
       clear H
       have H := H1
       clear H1
       by_cases c8 : ((rd_T55 l0 x3_1).f0) = 0
       ·rw [if_pos c8] at H
        have c8b0 : (((rd_T55 l0 x3_1).f0) == 0) = true := beq_iff_eq.mpr c8
        have c8b1 : (((rd_T55 l0 x3_1).f0) != 0) = false := bne_eq_false_iff_eq.mpr c8
        clear c8
        by_cases c9 : ((rd_T55 l0 x3_1).f1) < (-1)
        ·rw [if_pos c9] at H
         have c9b0 := decide_eq_true c9
         clear c9
         have H' := Aside0.mk H
         clear H
         have p183 : 0 <= (x3_1 : Int) := oz
         have q183 : x3_1 < (l0.length : Int) := oz
         obtain ⟨ad183, e183, hx183_0, hx183_1, hx183_2⟩ := at_T55 (Kd.C_below HR0.out HB.out) x3_1 p183 q183
         cases e183
         replace p183 := eq_true p183
         replace q183 := eq_true q183
         go_wp2_with (first | ((with_reducible refine gate_callee (f := 44) rfl ?_); refine goesL_ (some 27) rfl rfl Tryd.func44 (by kernel_rfl) rfl #[.int .i64 ((rd_T55 l0 x3_1).f0), .int .i64 0, .int .i64 5] rfl lz ?_; (with_reducible refine (spec_l1In.calls ((rd_T55 l0 x3_1).f0) 0 5 true _ A6.out).mono ?_); rintro e w' ⟨rfl, ⟨nd, rfl⟩⟩; refine ⟨_, rfl, ?_⟩; have p185 : 0 <= (x3_1 : Int) := oz; have q185 : x3_1 < (l0.length : Int) := oz; obtain ⟨ad185, e185, hx185_0, hx185_1, hx185_2⟩ := at_T55 HR0.out x3_1 p185 q185; obtain rfl : ad183 = ad185 := (by injection e185); replace hx185_0 := hz HB.out hx185_0; replace hx185_1 := hz HB.out hx185_1; replace hx185_2 := hz HB.out hx185_2; replace p185 := eq_true p185; replace q185 := eq_true q185; have p186 : 0 <= (x3_1 : Int) := oz; have q186 : x3_1 < (l0.length : Int) := oz; obtain ⟨ad186, e186, hx186_0, hx186_1, hx186_2⟩ := at_T55 HR0.out x3_1 p186 q186; obtain rfl : ad183 = ad186 := (by injection e186); replace hx186_0 := hz HB.out hx186_0; replace hx186_1 := hz HB.out hx186_1; replace hx186_2 := hz HB.out hx186_2; replace p186 := eq_true p186; replace q186 := eq_true q186))
         go_meet
         case rel => exact ⟨_, (true), ez, H', ⟨by have := HK1.out; first | omega | exact Nat.le_refl _⟩, ⟨(bz0 HB.out)⟩⟩
        ·rw [if_neg c9] at H
         have c9b0 := decide_eq_false c9
         clear c9
         by_cases c10 : ((rd_T55 l0 x3_1).f0) = 1
         ·rw [if_pos c10] at H
          have c10b0 : (((rd_T55 l0 x3_1).f0) == 1) = true := beq_iff_eq.mpr c10
          have c10b1 : (((rd_T55 l0 x3_1).f0) != 1) = false := bne_eq_false_iff_eq.mpr c10
          clear c10
          have H' := Aside0.mk H
          clear H
          have p183 : 0 <= (x3_1 : Int) := oz
          have q183 : x3_1 < (l0.length : Int) := oz
          obtain ⟨ad183, e183, hx183_0, hx183_1, hx183_2⟩ := at_T55 (Kd.C_below HR0.out HB.out) x3_1 p183 q183
          cases e183
          replace p183 := eq_true p183
          replace q183 := eq_true q183
          go_wp2_with (first | ((with_reducible refine gate_callee (f := 44) rfl ?_); refine goesL_ (some 27) rfl rfl Tryd.func44 (by kernel_rfl) rfl #[.int .i64 ((rd_T55 l0 x3_1).f0), .int .i64 0, .int .i64 5] rfl lz ?_; (with_reducible refine (spec_l1In.calls ((rd_T55 l0 x3_1).f0) 0 5 true _ A6.out).mono ?_); rintro e w' ⟨rfl, ⟨nd, rfl⟩⟩; refine ⟨_, rfl, ?_⟩; have p185 : 0 <= (x3_1 : Int) := oz; have q185 : x3_1 < (l0.length : Int) := oz; obtain ⟨ad185, e185, hx185_0, hx185_1, hx185_2⟩ := at_T55 HR0.out x3_1 p185 q185; obtain rfl : ad183 = ad185 := (by injection e185); replace hx185_0 := hz HB.out hx185_0; replace hx185_1 := hz HB.out hx185_1; replace hx185_2 := hz HB.out hx185_2; replace p185 := eq_true p185; replace q185 := eq_true q185; have p186 : 0 <= (x3_1 : Int) := oz; have q186 : x3_1 < (l0.length : Int) := oz; obtain ⟨ad186, e186, hx186_0, hx186_1, hx186_2⟩ := at_T55 HR0.out x3_1 p186 q186; obtain rfl : ad183 = ad186 := (by injection e186); replace hx186_0 := hz HB.out hx186_0; replace hx186_1 := hz HB.out hx186_1; replace hx186_2 := hz HB.out hx186_2; replace p186 := eq_true p186; replace q186 := eq_true q186; have p187 : 0 <= (x3_1 : Int) := oz; have q187 : x3_1 < (l0.length : Int) := oz; obtain ⟨ad187, e187, hx187_0, hx187_1, hx187_2⟩ := at_T55 HR0.out x3_1 p187 q187; obtain rfl : ad183 = ad187 := (by injection e187); replace hx187_0 := hz HB.out hx187_0; replace hx187_1 := hz HB.out hx187_1; replace hx187_2 := hz HB.out hx187_2; replace p187 := eq_true p187; replace q187 := eq_true q187; have p188 : 0 <= (x3_1 : Int) := oz; have q188 : x3_1 < (l0.length : Int) := oz; obtain ⟨ad188, e188, hx188_0, hx188_1, hx188_2⟩ := at_T55 HR0.out x3_1 p188 q188; obtain rfl : ad183 = ad188 := (by injection e188); replace hx188_0 := hz HB.out hx188_0; replace hx188_1 := hz HB.out hx188_1; replace hx188_2 := hz HB.out hx188_2; replace p188 := eq_true p188; replace q188 := eq_true q188))
          go_meet
          case rel => exact ⟨_, ((((rd_T55 l0 x3_1).f1) != 0)), ez, H', ⟨by have := HK1.out; first | omega | exact Nat.le_refl _⟩, ⟨(bz0 HB.out)⟩⟩
         ·rw [if_neg c10] at H
          have c10b0 : (((rd_T55 l0 x3_1).f0) == 1) = false := beq_eq_false_iff_ne.mpr c10
          have c10b1 : (((rd_T55 l0 x3_1).f0) != 1) = true := bne_iff_ne.mpr c10
          have H' := Aside0.mk H
          clear H
          have p183 : 0 <= (x3_1 : Int) := oz
          have q183 : x3_1 < (l0.length : Int) := oz
          obtain ⟨ad183, e183, hx183_0, hx183_1, hx183_2⟩ := at_T55 (Kd.C_below HR0.out HB.out) x3_1 p183 q183
          cases e183
          replace p183 := eq_true p183
          replace q183 := eq_true q183
          go_wp2_with (first | ((with_reducible refine gate_callee (f := 44) rfl ?_); refine goesL_ (some 27) rfl rfl Tryd.func44 (by kernel_rfl) rfl #[.int .i64 ((rd_T55 l0 x3_1).f0), .int .i64 0, .int .i64 5] rfl lz ?_; (with_reducible refine (spec_l1In.calls ((rd_T55 l0 x3_1).f0) 0 5 true _ A6.out).mono ?_); rintro e w' ⟨rfl, ⟨nd, rfl⟩⟩; refine ⟨_, rfl, ?_⟩; have p185 : 0 <= (x3_1 : Int) := oz; have q185 : x3_1 < (l0.length : Int) := oz; obtain ⟨ad185, e185, hx185_0, hx185_1, hx185_2⟩ := at_T55 HR0.out x3_1 p185 q185; obtain rfl : ad183 = ad185 := (by injection e185); replace hx185_0 := hz HB.out hx185_0; replace hx185_1 := hz HB.out hx185_1; replace hx185_2 := hz HB.out hx185_2; replace p185 := eq_true p185; replace q185 := eq_true q185; have p186 : 0 <= (x3_1 : Int) := oz; have q186 : x3_1 < (l0.length : Int) := oz; obtain ⟨ad186, e186, hx186_0, hx186_1, hx186_2⟩ := at_T55 HR0.out x3_1 p186 q186; obtain rfl : ad183 = ad186 := (by injection e186); replace hx186_0 := hz HB.out hx186_0; replace hx186_1 := hz HB.out hx186_1; replace hx186_2 := hz HB.out hx186_2; replace p186 := eq_true p186; replace q186 := eq_true q186; have p187 : 0 <= (x3_1 : Int) := oz; have q187 : x3_1 < (l0.length : Int) := oz; obtain ⟨ad187, e187, hx187_0, hx187_1, hx187_2⟩ := at_T55 HR0.out x3_1 p187 q187; obtain rfl : ad183 = ad187 := (by injection e187); replace hx187_0 := hz HB.out hx187_0; replace hx187_1 := hz HB.out hx187_1; replace hx187_2 := hz HB.out hx187_2; replace p187 := eq_true p187; replace q187 := eq_true q187))
          go_meet
          case rel => exact ⟨_, (false), ez, H', ⟨by have := HK1.out; first | omega | exact Nat.le_refl _⟩, ⟨(bz0 HB.out)⟩⟩
       ·rw [if_neg c8] at H
        have c8b0 : (((rd_T55 l0 x3_1).f0) == 0) = false := beq_eq_false_iff_ne.mpr c8
        have c8b1 : (((rd_T55 l0 x3_1).f0) != 0) = true := bne_iff_ne.mpr c8
        by_cases c11 : ((rd_T55 l0 x3_1).f0) = 1
        ·rw [if_pos c11] at H
         have c11b0 : (((rd_T55 l0 x3_1).f0) == 1) = true := beq_iff_eq.mpr c11
         have c11b1 : (((rd_T55 l0 x3_1).f0) != 1) = false := bne_eq_false_iff_eq.mpr c11
         clear c11
         have H' := Aside0.mk H
         clear H
         have p183 : 0 <= (x3_1 : Int) := oz
         have q183 : x3_1 < (l0.length : Int) := oz
         obtain ⟨ad183, e183, hx183_0, hx183_1, hx183_2⟩ := at_T55 (Kd.C_below HR0.out HB.out) x3_1 p183 q183
         cases e183
         replace p183 := eq_true p183
         replace q183 := eq_true q183
         go_wp2_with (first | ((with_reducible refine gate_callee (f := 44) rfl ?_); refine goesL_ (some 27) rfl rfl Tryd.func44 (by kernel_rfl) rfl #[.int .i64 ((rd_T55 l0 x3_1).f0), .int .i64 0, .int .i64 5] rfl lz ?_; (with_reducible refine (spec_l1In.calls ((rd_T55 l0 x3_1).f0) 0 5 true _ A6.out).mono ?_); rintro e w' ⟨rfl, ⟨nd, rfl⟩⟩; refine ⟨_, rfl, ?_⟩; have p185 : 0 <= (x3_1 : Int) := oz; have q185 : x3_1 < (l0.length : Int) := oz; obtain ⟨ad185, e185, hx185_0, hx185_1, hx185_2⟩ := at_T55 HR0.out x3_1 p185 q185; obtain rfl : ad183 = ad185 := (by injection e185); replace hx185_0 := hz HB.out hx185_0; replace hx185_1 := hz HB.out hx185_1; replace hx185_2 := hz HB.out hx185_2; replace p185 := eq_true p185; replace q185 := eq_true q185; have p189 : 0 <= (x3_1 : Int) := oz; have q189 : x3_1 < (l0.length : Int) := oz; obtain ⟨ad189, e189, hx189_0, hx189_1, hx189_2⟩ := at_T55 HR0.out x3_1 p189 q189; obtain rfl : ad183 = ad189 := (by injection e189); replace hx189_0 := hz HB.out hx189_0; replace hx189_1 := hz HB.out hx189_1; replace hx189_2 := hz HB.out hx189_2; replace p189 := eq_true p189; replace q189 := eq_true q189; have p190 : 0 <= (x3_1 : Int) := oz; have q190 : x3_1 < (l0.length : Int) := oz; obtain ⟨ad190, e190, hx190_0, hx190_1, hx190_2⟩ := at_T55 HR0.out x3_1 p190 q190; obtain rfl : ad183 = ad190 := (by injection e190); replace hx190_0 := hz HB.out hx190_0; replace hx190_1 := hz HB.out hx190_1; replace hx190_2 := hz HB.out hx190_2; replace p190 := eq_true p190; replace q190 := eq_true q190))
         go_meet
         case rel => exact ⟨_, ((((rd_T55 l0 x3_1).f1) != 0)), ez, H', ⟨by have := HK1.out; first | omega | exact Nat.le_refl _⟩, ⟨(bz0 HB.out)⟩⟩
        ·rw [if_neg c11] at H
         have c11b0 : (((rd_T55 l0 x3_1).f0) == 1) = false := beq_eq_false_iff_ne.mpr c11
         have c11b1 : (((rd_T55 l0 x3_1).f0) != 1) = true := bne_iff_ne.mpr c11
         have H' := Aside0.mk H
         clear H
         have p183 : 0 <= (x3_1 : Int) := oz
         have q183 : x3_1 < (l0.length : Int) := oz
         obtain ⟨ad183, e183, hx183_0, hx183_1, hx183_2⟩ := at_T55 (Kd.C_below HR0.out HB.out) x3_1 p183 q183
         cases e183
         replace p183 := eq_true p183
         replace q183 := eq_true q183
         go_wp2_with (first | ((with_reducible refine gate_callee (f := 44) rfl ?_); refine goesL_ (some 27) rfl rfl Tryd.func44 (by kernel_rfl) rfl #[.int .i64 ((rd_T55 l0 x3_1).f0), .int .i64 0, .int .i64 5] rfl lz ?_; (with_reducible refine (spec_l1In.calls ((rd_T55 l0 x3_1).f0) 0 5 true _ A6.out).mono ?_); rintro e w' ⟨rfl, ⟨nd, rfl⟩⟩; refine ⟨_, rfl, ?_⟩; have p185 : 0 <= (x3_1 : Int) := oz; have q185 : x3_1 < (l0.length : Int) := oz; obtain ⟨ad185, e185, hx185_0, hx185_1, hx185_2⟩ := at_T55 HR0.out x3_1 p185 q185; obtain rfl : ad183 = ad185 := (by injection e185); replace hx185_0 := hz HB.out hx185_0; replace hx185_1 := hz HB.out hx185_1; replace hx185_2 := hz HB.out hx185_2; replace p185 := eq_true p185; replace q185 := eq_true q185; have p189 : 0 <= (x3_1 : Int) := oz; have q189 : x3_1 < (l0.length : Int) := oz; obtain ⟨ad189, e189, hx189_0, hx189_1, hx189_2⟩ := at_T55 HR0.out x3_1 p189 q189; obtain rfl : ad183 = ad189 := (by injection e189); replace hx189_0 := hz HB.out hx189_0; replace hx189_1 := hz HB.out hx189_1; replace hx189_2 := hz HB.out hx189_2; replace p189 := eq_true p189; replace q189 := eq_true q189))
         go_meet
         case rel => exact ⟨_, (false), ez, H', ⟨by have := HK1.out; first | omega | exact Nat.le_refl _⟩, ⟨(bz0 HB.out)⟩⟩
      ·replace c7 := Bool.eq_false_iff.mpr c7
       subst c7
       have H1 := hq H
       clear H
       have H := H1
       clear H1
       have H' := Aside0.mk H
       clear H
       have p183 : 0 <= (x3_1 : Int) := oz
       have q183 : x3_1 < (l0.length : Int) := oz
       obtain ⟨ad183, e183, hx183_0, hx183_1, hx183_2⟩ := at_T55 (Kd.C_below HR0.out HB.out) x3_1 p183 q183
       cases e183
       replace p183 := eq_true p183
       replace q183 := eq_true q183
       go_wp2_with (first | ((with_reducible refine gate_callee (f := 44) rfl ?_); refine goesL_ (some 27) rfl rfl Tryd.func44 (by kernel_rfl) rfl #[.int .i64 ((rd_T55 l0 x3_1).f0), .int .i64 0, .int .i64 5] rfl lz ?_; (with_reducible refine (spec_l1In.calls ((rd_T55 l0 x3_1).f0) 0 5 false _ A6.out).mono ?_); rintro e w' ⟨rfl, ⟨nd, rfl⟩⟩; refine ⟨_, rfl, ?_⟩))
       go_meet
       case rel => exact ⟨_, (true), ez, H', ⟨by have := HK1.out; first | omega | exact Nat.le_refl _⟩, ⟨(bz0 HB.out)⟩⟩
     case rest =>
      clear HC4
      try clear c1
      try clear p1
      try clear q1
      try clear hx1
      try clear c2
      try clear c2b0
      try clear c2b1
      try clear p2
      try clear c3
      try clear c3b0
      try clear c4
      try clear c5
      try clear c5b0
      try clear c7
      try clear c8
      try clear c8b0
      try clear c8b1
      try clear c9
      try clear c9b0
      try clear c10
      try clear c10b0
      try clear c10b1
      try clear c11
      try clear c11b0
      try clear c11b1
      try clear hx183_0
      try clear hx183_1
      try clear hx183_2
      try clear hx185_0
      try clear hx185_1
      try clear hx185_2
      try clear hx186_0
      try clear hx186_1
      try clear hx186_2
      try clear hx187_0
      try clear hx187_1
      try clear hx187_2
      try clear hx188_0
      try clear hx188_1
      try clear hx188_2
      try clear hx189_0
      try clear hx189_1
      try clear hx189_2
      try clear hx190_0
      try clear hx190_1
      try clear hx190_2
      try clear p183
      try clear p185
      try clear p186
      try clear p187
      try clear p188
      try clear p189
      try clear p190
      try clear p2
      try clear q183
      try clear q185
      try clear q186
      try clear q187
      try clear q188
      try clear q189
      try clear q190
      obtain ⟨kq, x60_3, rfl, HA, HJ3, HB⟩ := hcut
      cases kq with
      | zero => exact absurd HA.out (by simp [spec_TableOk.j1])
      | succ kj3 =>
       have H := HA.out
       clear HA
       simp only [spec_TableOk.j1] at H
       by_cases c12 : x60_3 = true
       ·subst c12
        have H1 := hp H
        clear H
        have H := H1
        clear H1
        obtain rfl := Option.some.inj H
        go_wp2
        go_ret
        exact ⟨gz, (bz0 HB.out)⟩
       ·replace c12 := Bool.eq_false_iff.mpr c12
        subst c12
        have H1 := hq H
        clear H
        have H := H1
        clear H1
        have HC13 := Aside0.mk H
        clear H
        go_upto_region 8 with (fail)
        go_cut [82] (fun v82 wc => ∃ (kq : Nat) (x82_12 : Bool), v82 = .bool x82_12 /\ Aside0 (spec_TableOk.j2 kq l0 x3_1 x82_12 = some r) /\ Aside0 (kq <= kj3) /\ Aside0 (Below w.heap.size w wc))
        case first =>
         have H := HC13.out
         clear HC13
         replace H := iz H
         obtain ⟨c14, H⟩ := H
         have c14b0 := decide_eq_true c14
         clear c14
         (first | rw [c14b0] | (simp only [i64_w, i32_w]; rw [c14b0]) | skip)
         replace H := iz H
         obtain ⟨c15, H⟩ := H
         have c15b0 := decide_eq_true c15
         clear c15
         by_cases c16 : ((rd_T55 l0 x3_1).f0) = 2
         ·rw [if_pos c16] at H
          have c16b0 : (((rd_T55 l0 x3_1).f0) == 2) = true := beq_iff_eq.mpr c16
          have c16b1 : (((rd_T55 l0 x3_1).f0) != 2) = false := bne_eq_false_iff_eq.mpr c16
          clear c16
          have H' := Aside0.mk H
          clear H
          have p191 : 0 <= (x3_1 : Int) := oz
          have q191 : x3_1 < (l0.length : Int) := oz
          obtain ⟨ad191, e191, hx191_0, hx191_1, hx191_2⟩ := at_T55 (Kd.C_below HR0.out HB.out) x3_1 p191 q191
          cases e191
          replace p191 := eq_true p191
          replace q191 := eq_true q191
          go_wp2
          go_meet
          case rel => exact ⟨_, (false), ez, H', ⟨by have := HK1.out; have := HJ3.out; first | omega | exact Nat.le_refl _⟩, ⟨(bz0 HB.out)⟩⟩
         ·rw [if_neg c16] at H
          have c16b0 : (((rd_T55 l0 x3_1).f0) == 2) = false := beq_eq_false_iff_ne.mpr c16
          have c16b1 : (((rd_T55 l0 x3_1).f0) != 2) = true := bne_iff_ne.mpr c16
          by_cases c17 : ((rd_T55 l0 x3_1).f0) = 3
          ·rw [if_pos c17] at H
           have c17b0 : (((rd_T55 l0 x3_1).f0) == 3) = true := beq_iff_eq.mpr c17
           have c17b1 : (((rd_T55 l0 x3_1).f0) != 3) = false := bne_eq_false_iff_eq.mpr c17
           clear c17
           have H' := Aside0.mk H
           clear H
           have p191 : 0 <= (x3_1 : Int) := oz
           have q191 : x3_1 < (l0.length : Int) := oz
           obtain ⟨ad191, e191, hx191_0, hx191_1, hx191_2⟩ := at_T55 (Kd.C_below HR0.out HB.out) x3_1 p191 q191
           cases e191
           replace p191 := eq_true p191
           replace q191 := eq_true q191
           have p192 : 0 <= (x3_1 : Int) := oz
           have q192 : x3_1 < (l0.length : Int) := oz
           obtain ⟨ad192, e192, hx192_0, hx192_1, hx192_2⟩ := at_T55 (Kd.C_below HR0.out HB.out) x3_1 p192 q192
           obtain rfl : ad191 = ad192 := (by injection e192)
           replace p192 := eq_true p192
           replace q192 := eq_true q192
           go_wp2
           go_meet
           case rel => exact ⟨_, (false), ez, H', ⟨by have := HK1.out; have := HJ3.out; first | omega | exact Nat.le_refl _⟩, ⟨(bz0 HB.out)⟩⟩
          ·rw [if_neg c17] at H
           have c17b0 : (((rd_T55 l0 x3_1).f0) == 3) = false := beq_eq_false_iff_ne.mpr c17
           have c17b1 : (((rd_T55 l0 x3_1).f0) != 3) = true := bne_iff_ne.mpr c17
           have H' := Aside0.mk H
           clear H
           have p191 : 0 <= (x3_1 : Int) := oz
           have q191 : x3_1 < (l0.length : Int) := oz
           obtain ⟨ad191, e191, hx191_0, hx191_1, hx191_2⟩ := at_T55 (Kd.C_below HR0.out HB.out) x3_1 p191 q191
           cases e191
           replace p191 := eq_true p191
           replace q191 := eq_true q191
           have p192 : 0 <= (x3_1 : Int) := oz
           have q192 : x3_1 < (l0.length : Int) := oz
           obtain ⟨ad192, e192, hx192_0, hx192_1, hx192_2⟩ := at_T55 (Kd.C_below HR0.out HB.out) x3_1 p192 q192
           obtain rfl : ad191 = ad192 := (by injection e192)
           replace p192 := eq_true p192
           replace q192 := eq_true q192
           have p193 : 0 <= (x3_1 : Int) := oz
           have q193 : x3_1 < (l0.length : Int) := oz
           obtain ⟨ad193, e193, hx193_0, hx193_1, hx193_2⟩ := at_T55 (Kd.C_below HR0.out HB.out) x3_1 p193 q193
           obtain rfl : ad191 = ad193 := (by injection e193)
           replace p193 := eq_true p193
           replace q193 := eq_true q193
           go_wp2
           go_meet
           case rel => exact ⟨_, ((((rd_T55 l0 x3_1).f2) != 0)), ez, H', ⟨by have := HK1.out; have := HJ3.out; first | omega | exact Nat.le_refl _⟩, ⟨(bz0 HB.out)⟩⟩
        case rest =>
         clear HC13
         try clear c1
         try clear p1
         try clear q1
         try clear hx1
         try clear c2
         try clear c2b0
         try clear c2b1
         try clear p2
         try clear c3
         try clear c3b0
         try clear c4
         try clear c5
         try clear c5b0
         try clear c7
         try clear c8
         try clear c8b0
         try clear c8b1
         try clear c9
         try clear c9b0
         try clear c10
         try clear c10b0
         try clear c10b1
         try clear c11
         try clear c11b0
         try clear c11b1
         try clear c12
         try clear c14
         try clear c14b0
         try clear c15
         try clear c15b0
         try clear c16
         try clear c16b0
         try clear c16b1
         try clear c17
         try clear c17b0
         try clear c17b1
         try clear hx183_0
         try clear hx183_1
         try clear hx183_2
         try clear hx185_0
         try clear hx185_1
         try clear hx185_2
         try clear hx186_0
         try clear hx186_1
         try clear hx186_2
         try clear hx187_0
         try clear hx187_1
         try clear hx187_2
         try clear hx188_0
         try clear hx188_1
         try clear hx188_2
         try clear hx189_0
         try clear hx189_1
         try clear hx189_2
         try clear hx190_0
         try clear hx190_1
         try clear hx190_2
         try clear hx191_0
         try clear hx191_1
         try clear hx191_2
         try clear hx192_0
         try clear hx192_1
         try clear hx192_2
         try clear hx193_0
         try clear hx193_1
         try clear hx193_2
         try clear p1
         try clear p183
         try clear p185
         try clear p186
         try clear p187
         try clear p188
         try clear p189
         try clear p190
         try clear p191
         try clear p192
         try clear p193
         try clear p2
         try clear q1
         try clear q183
         try clear q185
         try clear q186
         try clear q187
         try clear q188
         try clear q189
         try clear q190
         try clear q191
         try clear q192
         try clear q193
         obtain ⟨kq, x82_12, rfl, HA, HJ12, HB⟩ := hcut
         cases kq with
         | zero => exact absurd HA.out (by simp [spec_TableOk.j2])
         | succ kj12 =>
          have H := HA.out
          clear HA
          simp only [spec_TableOk.j2] at H
          by_cases c18 : x82_12 = true
          ·subst c18
           have H1 := hp H
           clear H
           have H := H1
           clear H1
           obtain rfl := Option.some.inj H
           go_wp2
           go_ret
           exact ⟨gz, (bz0 HB.out)⟩
          ·replace c18 := Bool.eq_false_iff.mpr c18
           subst c18
           have H1 := hq H
           clear H
           have H := H1
           clear H1
           replace H := iz H
           obtain ⟨c19, H⟩ := H
           have c19b0 := decide_eq_true c19
           clear c19
           replace H := iz H
           obtain ⟨c20, H⟩ := H
           have c20b0 := decide_eq_true c20
           clear c20
           replace H := bi H
           obtain ⟨t195, A210, H⟩ := H
           try dsimp only at H
           have A21 := Aside0.mk A210
           clear A210
           have H' := Aside0.mk H
           clear H
           have p194 : 0 <= (x3_1 : Int) := oz
           have q194 : x3_1 < (l0.length : Int) := oz
           obtain ⟨ad194, e194, hx194_0, hx194_1, hx194_2⟩ := at_T55 (Kd.C_below HR0.out HB.out) x3_1 p194 q194
           cases e194
           replace p194 := eq_true p194
           replace q194 := eq_true q194
           go_wp2_with (first | ((with_reducible refine gate_callee (f := 56) rfl ?_); refine goesL_ (some 87) rfl rfl Tryd.func56 (by kernel_rfl) rfl #[.agg #[.int .i64 ((rd_T55 l0 x3_1).f0), .int .i64 ((rd_T55 l0 x3_1).f1), .int .i64 ((rd_T55 l0 x3_1).f2)]] rfl lz ?_; (with_reducible refine (spec_l8Kids.calls kj12 ((rd_T55 l0 x3_1).f0) ((rd_T55 l0 x3_1).f1) ((rd_T55 l0 x3_1).f2) t195 _ A21.out).mono ?_); rintro e w22 ⟨v196, rfl, ho0, hb⟩; refine ⟨_, rfl, ?_⟩; have HO197 := Aside0.mk (Kd.R_lower ho0 (below_size (bz0 HB.out))); replace HB := Aside0.mk (below_step (bz0 HB.out) hb); (try clear hb); (try clear ho0)))
           go_loopg [5] kj12 (fun kq v5 w' => ∃ (x5_4 : Int), v5 = .int .i64 x5_4 /\ Aside0 (spec_TableOk.l1 kq l0 x3_1 t195 x5_4 = some r) /\ Aside0 (kq <= kj12) /\ Aside0 (Kd.R (Kd.int .i64) 3 w' w.heap.size (fun _ => True) v196 t195) /\ Aside0 (Below w.heap.size w w'))
           case atStart => exact ⟨(0), ez, H', ⟨Nat.le_refl _⟩, ⟨by refine rq ?_; exact HO197.out⟩, ⟨(bz0 HB.out)⟩⟩
           case round =>
            clear H'
            try clear c1
            try clear p1
            try clear q1
            try clear hx1
            try clear c2
            try clear c2b0
            try clear c2b1
            try clear p2
            try clear c3
            try clear c3b0
            try clear c4
            try clear c5
            try clear c5b0
            try clear c7
            try clear c8
            try clear c8b0
            try clear c8b1
            try clear c9
            try clear c9b0
            try clear c10
            try clear c10b0
            try clear c10b1
            try clear c11
            try clear c11b0
            try clear c11b1
            try clear c12
            try clear c14
            try clear c14b0
            try clear c15
            try clear c15b0
            try clear c16
            try clear c16b0
            try clear c16b1
            try clear c17
            try clear c17b0
            try clear c17b1
            try clear c18
            try clear p18
            try clear q18
            try clear hx18
            try clear c19
            try clear c19b0
            try clear p19
            try clear q19
            try clear hx19
            try clear c20
            try clear c20b0
            try clear hx183_0
            try clear hx183_1
            try clear hx183_2
            try clear hx185_0
            try clear hx185_1
            try clear hx185_2
            try clear hx186_0
            try clear hx186_1
            try clear hx186_2
            try clear hx187_0
            try clear hx187_1
            try clear hx187_2
            try clear hx188_0
            try clear hx188_1
            try clear hx188_2
            try clear hx189_0
            try clear hx189_1
            try clear hx189_2
            try clear hx190_0
            try clear hx190_1
            try clear hx190_2
            try clear hx191_0
            try clear hx191_1
            try clear hx191_2
            try clear hx192_0
            try clear hx192_1
            try clear hx192_2
            try clear hx193_0
            try clear hx193_1
            try clear hx193_2
            try clear hx194_0
            try clear hx194_1
            try clear hx194_2
            try clear p1
            try clear p183
            try clear p185
            try clear p186
            try clear p187
            try clear p188
            try clear p189
            try clear p190
            try clear p191
            try clear p192
            try clear p193
            try clear p194
            try clear p2
            try clear q1
            try clear q183
            try clear q185
            try clear q186
            try clear q187
            try clear q188
            try clear q189
            try clear q190
            try clear q191
            try clear q192
            try clear q193
            try clear q194
            obtain ⟨x5_4, rfl, HA, HK4, HO_4, HB⟩ := hrel
            cases gk with
            | zero => exact absurd HA.out (by simp [spec_TableOk.l1])
            | succ k4 =>
             have H := HA.out
             clear HA
             simp only [spec_TableOk.l1] at H
             by_cases c23 : x5_4 < (t195.length : Int)
             ·rw [if_pos c23] at H
              have c23b0 := decide_eq_true c23
              clear c23
              replace H := iz H
              obtain ⟨c24, H⟩ := H
              have c24b0 := decide_eq_true c24
              clear c24
              replace H := bi H
              obtain ⟨t199, A250, H⟩ := H
              try dsimp only at H
              have A25 := Aside0.mk A250
              clear A250
              by_cases c26 : t199 = true
              ·subst c26
               have H1 := hp H
               clear H
               have H := H1
               clear H1
               have H' := Aside0.mk H
               clear H
               obtain ⟨Ao27, co27, eo27⟩ := Kd.R_slice HO_4.out
               subst eo27
               have p198 : 0 <= (x5_4 : Int) := oz
               have q198 : x5_4 < (t195.length : Int) := oz
               obtain ⟨ad198, e198, hx198_0⟩ := Kd.at_int (Kd.R_reads' HO_4.out).2.2 x5_4 p198 q198
               cases e198
               replace p198 := eq_true p198
               replace q198 := eq_true q198
               go_wp2_with (first | ((with_reducible refine gate_callee (f := 44) rfl ?_); refine goesL_ (some 101) rfl rfl Tryd.func44 (by kernel_rfl) rfl #[.int .i64 (rd t195 x5_4), .int .i64 0, .int .i64 (wrap64 ((l0.length : Int) - 1))] rfl lz ?_; (with_reducible refine (spec_l1In.calls (rd t195 x5_4) 0 (wrap64 ((l0.length : Int) - 1)) true _ A25.out).mono ?_); rintro e w' ⟨rfl, ⟨nd, rfl⟩⟩; refine ⟨_, rfl, ?_⟩))
               go_roundg k4
               case measure => have := HK1.out; have := HJ3.out; have := HJ12.out; have := HK4.out; omega
               case rel => exact ⟨(wrap64 (x5_4 + 1)), ez, H', ⟨by have := HK1.out; have := HJ3.out; have := HJ12.out; have := HK4.out; omega⟩, ⟨by refine rq ?_; exact HO_4.out⟩, ⟨(bz0 HB.out)⟩⟩
              ·replace c26 := Bool.eq_false_iff.mpr c26
               subst c26
               have H1 := hq H
               clear H
               have H := H1
               clear H1
               obtain rfl := Option.some.inj H
               obtain ⟨Ao28, co28, eo28⟩ := Kd.R_slice HO_4.out
               subst eo28
               have p198 : 0 <= (x5_4 : Int) := oz
               have q198 : x5_4 < (t195.length : Int) := oz
               obtain ⟨ad198, e198, hx198_0⟩ := Kd.at_int (Kd.R_reads' HO_4.out).2.2 x5_4 p198 q198
               cases e198
               replace p198 := eq_true p198
               replace q198 := eq_true q198
               go_wp2_with (first | ((with_reducible refine gate_callee (f := 44) rfl ?_); refine goesL_ (some 101) rfl rfl Tryd.func44 (by kernel_rfl) rfl #[.int .i64 (rd t195 x5_4), .int .i64 0, .int .i64 (wrap64 ((l0.length : Int) - 1))] rfl lz ?_; (with_reducible refine (spec_l1In.calls (rd t195 x5_4) 0 (wrap64 ((l0.length : Int) - 1)) false _ A25.out).mono ?_); rintro e w' ⟨rfl, ⟨nd, rfl⟩⟩; refine ⟨_, rfl, ?_⟩))
               go_ret
               exact ⟨gz, (bz0 HB.out)⟩
             ·rw [if_neg c23] at H
              have c23b0 := decide_eq_false c23
              clear c23
              have H' := Aside0.mk H
              clear H
              obtain ⟨Ao29, co29, eo29⟩ := Kd.R_slice HO_4.out
              subst eo29
              go_wp2
              go_roundg k4
              case measure => have := HK1.out; have := HJ3.out; have := HJ12.out; have := HK4.out; omega
              case rel => exact ⟨(wrap64 (x3_1 + 1)), ez, H', ⟨by have := HK1.out; have := HJ3.out; have := HJ12.out; have := HK4.out; omega⟩, ⟨(bz0 HB.out)⟩⟩
    ·rw [if_neg c3] at H
     have c3b0 := decide_eq_false c3
     clear c3
     replace H := iz H
     obtain ⟨c30, H⟩ := H
     have c30b0 := eq_true c30
     have c30b1 : decide (0 <= (l0.length : Int)) = true := decide_eq_true c30
     clear c30
     replace H := iz H
     obtain ⟨c31, H⟩ := H
     have c31b0 := eq_true c31
     have c31b1 : decide (((l0.length : Int) : Int).toNat <= 281474976710656) = true := decide_eq_true c31
     clear c31
     obtain ⟨y200, hy200⟩ : ∃ y_ : List Bool, y_ = (List.replicate ((l0.length : Int) : Int).toNat false) := ⟨_, rfl⟩
     replace H : (spec_TableOk.l2 k1 l0 y200 0) = some r := yz hy200 H
     have Ny200 := Aside0.mk hy200
     clear hy200
     have H' := Aside0.mk H
     clear H
     go_wp2_with (first | ((with_reducible refine gate_dst (N := 105) rfl ?_); refine Kd.R_make Kd.bool _ 4 rfl (N := 105) rfl 95 _ _ rfl (l0.length : Int) rfl rfl Tryd.underlying95 (.bool false) 1 info4 rfl (by decide) (by omega) false (ok := fun _ => True) (okp := fun _ => True) rfl (fun _ hk => hk) trivial (of_decide_eq_true az) (Nat.le_trans (Nat.mul_le_mul_right _ (of_decide_eq_true az : (l0.length : Int).toNat <= 281474976710656)) (by omega)) (Below.refl _ _) (Nat.le_refl _) ?_; intro v201 w32 ho33 hb hg_ hnew_; clear hg_ hnew_; (first | rw [<- Ny200.out] at ho33 | (simp only [Int.reduceToNat] at ho33; rw [<- Ny200.out] at ho33)); have HO202 := Aside0.mk (Kd.R_lower ho33 (below_size (bz0 HB.out))); replace HB := Aside0.mk (below_step (bz0 HB.out) hb); clear hb ho33))
     (try simp only [Act.put, sz1, sz2, sz3])
     go_loopg [7] k1 (fun kq v7 w' => ∃ (x6_2 : List Bool) (x7_2 : Int), v7 = .int .i64 x7_2 /\ Aside0 (spec_TableOk.l2 kq l0 x6_2 x7_2 = some r) /\ Aside0 (kq <= k1) /\ Aside0 (Kd.R Kd.bool 4 w' w.heap.size (fun _ => True) v201 x6_2) /\ Aside0 (Below w.heap.size w w'))
     case atStart => exact ⟨(y200), (0), ez, H', ⟨Nat.le_refl _⟩, ⟨by refine rq ?_; exact HO202.out⟩, ⟨(bz0 HB.out)⟩⟩
     case round =>
      clear H'
      try clear c1
      try clear p1
      try clear q1
      try clear hx1
      try clear c2
      try clear c2b0
      try clear c2b1
      try clear p2
      try clear c3
      try clear c3b0
      try clear c4
      try clear c5
      try clear c5b0
      try clear p6
      try clear c7
      try clear c8
      try clear c8b0
      try clear c8b1
      try clear c9
      try clear c9b0
      try clear c10
      try clear c10b0
      try clear c10b1
      try clear c11
      try clear c11b0
      try clear c11b1
      try clear c12
      try clear c14
      try clear c14b0
      try clear c15
      try clear c15b0
      try clear c16
      try clear c16b0
      try clear c16b1
      try clear c17
      try clear c17b0
      try clear c17b1
      try clear c18
      try clear p18
      try clear q18
      try clear hx18
      try clear c19
      try clear c19b0
      try clear p19
      try clear q19
      try clear hx19
      try clear c20
      try clear c20b0
      try clear c23
      try clear c23b0
      try clear c24
      try clear c24b0
      try clear c26
      try clear c30
      try clear c30b0
      try clear c30b1
      try clear c31
      try clear c31b0
      try clear c31b1
      try clear hx183_0
      try clear hx183_1
      try clear hx183_2
      try clear hx185_0
      try clear hx185_1
      try clear hx185_2
      try clear hx186_0
      try clear hx186_1
      try clear hx186_2
      try clear hx187_0
      try clear hx187_1
      try clear hx187_2
      try clear hx188_0
      try clear hx188_1
      try clear hx188_2
      try clear hx189_0
      try clear hx189_1
      try clear hx189_2
      try clear hx190_0
      try clear hx190_1
      try clear hx190_2
      try clear hx191_0
      try clear hx191_1
      try clear hx191_2
      try clear hx192_0
      try clear hx192_1
      try clear hx192_2
      try clear hx193_0
      try clear hx193_1
      try clear hx193_2
      try clear hx194_0
      try clear hx194_1
      try clear hx194_2
      try clear hx198_0
      try clear p1
      try clear p18
      try clear p183
      try clear p185
      try clear p186
      try clear p187
      try clear p188
      try clear p189
      try clear p19
      try clear p190
      try clear p191
      try clear p192
      try clear p193
      try clear p194
      try clear p198
      try clear p2
      try clear q1
      try clear q18
      try clear q183
      try clear q185
      try clear q186
      try clear q187
      try clear q188
      try clear q189
      try clear q19
      try clear q190
      try clear q191
      try clear q192
      try clear q193
      try clear q194
      try clear q198
      obtain ⟨x6_2, x7_2, rfl, HA, HK2, HO_6, HB⟩ := hrel
      cases gk with
      | zero => exact absurd HA.out (by simp [spec_TableOk.l2])
      | succ k2 =>
       have H := HA.out
       clear HA
       simp only [spec_TableOk.l2] at H
       by_cases c34 : x7_2 < (l0.length : Int)
       ·rw [if_pos c34] at H
        have c34b0 := decide_eq_true c34
        clear c34
        have H' := Aside0.mk H
        clear H
        go_wp2
        go_loopg [8] k2 (fun kq v8 w' => ∃ (x6_3 : List Bool) (x8_3 : Int), v8 = .int .i64 x8_3 /\ Aside0 (spec_TableOk.l3 kq l0 x6_3 x7_2 x8_3 = some r) /\ Aside0 (kq <= k2) /\ Aside0 (Kd.R Kd.bool 4 w' w.heap.size (fun _ => True) v201 x6_3) /\ Aside0 (Below w.heap.size w w'))
        case atStart => exact ⟨(x6_2), (0), ez, H', ⟨Nat.le_refl _⟩, ⟨by refine rq ?_; exact HO_6.out⟩, ⟨(bz0 HB.out)⟩⟩
        case round =>
         clear H'
         try clear c1
         try clear p1
         try clear q1
         try clear hx1
         try clear c2
         try clear c2b0
         try clear c2b1
         try clear p2
         try clear c3
         try clear c3b0
         try clear c4
         try clear c5
         try clear c5b0
         try clear p6
         try clear c7
         try clear c8
         try clear c8b0
         try clear c8b1
         try clear c9
         try clear c9b0
         try clear c10
         try clear c10b0
         try clear c10b1
         try clear c11
         try clear c11b0
         try clear c11b1
         try clear c12
         try clear c14
         try clear c14b0
         try clear c15
         try clear c15b0
         try clear c16
         try clear c16b0
         try clear c16b1
         try clear c17
         try clear c17b0
         try clear c17b1
         try clear c18
         try clear p18
         try clear q18
         try clear hx18
         try clear c19
         try clear c19b0
         try clear p19
         try clear q19
         try clear hx19
         try clear c20
         try clear c20b0
         try clear c23
         try clear c23b0
         try clear c24
         try clear c24b0
         try clear c26
         try clear c30
         try clear c30b0
         try clear c30b1
         try clear c31
         try clear c31b0
         try clear c31b1
         try clear c34
         try clear c34b0
         try clear hx183_0
         try clear hx183_1
         try clear hx183_2
         try clear hx185_0
         try clear hx185_1
         try clear hx185_2
         try clear hx186_0
         try clear hx186_1
         try clear hx186_2
         try clear hx187_0
         try clear hx187_1
         try clear hx187_2
         try clear hx188_0
         try clear hx188_1
         try clear hx188_2
         try clear hx189_0
         try clear hx189_1
         try clear hx189_2
         try clear hx190_0
         try clear hx190_1
         try clear hx190_2
         try clear hx191_0
         try clear hx191_1
         try clear hx191_2
         try clear hx192_0
         try clear hx192_1
         try clear hx192_2
         try clear hx193_0
         try clear hx193_1
         try clear hx193_2
         try clear hx194_0
         try clear hx194_1
         try clear hx194_2
         try clear hx198_0
         try clear p1
         try clear p18
         try clear p183
         try clear p185
         try clear p186
         try clear p187
         try clear p188
         try clear p189
         try clear p19
         try clear p190
         try clear p191
         try clear p192
         try clear p193
         try clear p194
         try clear p198
         try clear p2
         try clear p6
         try clear q1
         try clear q18
         try clear q183
         try clear q185
         try clear q186
         try clear q187
         try clear q188
         try clear q189
         try clear q19
         try clear q190
         try clear q191
         try clear q192
         try clear q193
         try clear q194
         try clear q198
         obtain ⟨x6_3, x8_3, rfl, HA, HK3, HO_6, HB⟩ := hrel
         cases gk with
         | zero => exact absurd HA.out (by simp [spec_TableOk.l3])
         | succ k3 =>
          have H := HA.out
          clear HA
          simp only [spec_TableOk.l3] at H
          by_cases c35 : x8_3 < (l0.length : Int)
          ·rw [if_pos c35] at H
           have c35b0 := decide_eq_true c35
           clear c35
           replace H := iz H
           obtain ⟨c36, H⟩ := H
           have c36b0 := decide_eq_true c36
           clear c36
           replace H := bi H
           obtain ⟨t204, A370, H⟩ := H
           try dsimp only at H
           have A37 := Aside0.mk A370
           clear A370
           have H' := Aside0.mk H
           clear H
           have p203 : 0 <= (x8_3 : Int) := oz
           have q203 : x8_3 < (l0.length : Int) := oz
           obtain ⟨ad203, e203, hx203_0, hx203_1, hx203_2⟩ := at_T55 (Kd.C_below HR0.out HB.out) x8_3 p203 q203
           cases e203
           replace p203 := eq_true p203
           replace q203 := eq_true q203
           go_wp2_with (first | ((with_reducible refine gate_callee (f := 56) rfl ?_); refine goesL_ (some 122) rfl rfl Tryd.func56 (by kernel_rfl) rfl #[.agg #[.int .i64 ((rd_T55 l0 x8_3).f0), .int .i64 ((rd_T55 l0 x8_3).f1), .int .i64 ((rd_T55 l0 x8_3).f2)]] rfl lz ?_; (with_reducible refine (spec_l8Kids.calls k3 ((rd_T55 l0 x8_3).f0) ((rd_T55 l0 x8_3).f1) ((rd_T55 l0 x8_3).f2) t204 _ A37.out).mono ?_); rintro e w38 ⟨v205, rfl, ho0, hb⟩; refine ⟨_, rfl, ?_⟩; replace HO_6 := qz HO_6 hb; have HO206 := Aside0.mk (Kd.R_lower ho0 (below_size (bz0 HB.out))); replace HB := Aside0.mk (below_step (bz0 HB.out) hb); (try clear hb); (try clear ho0)))
           go_loopg [10, 11] k3 (fun kq v10 v11 w' => ∃ (x10_4 : Bool) (x11_4 : Int), v10 = .bool x10_4 /\ v11 = .int .i64 x11_4 /\ Aside0 (spec_TableOk.l4 kq l0 x6_3 x7_2 x8_3 t204 x10_4 x11_4 = some r) /\ Aside0 (kq <= k3) /\ Aside0 (Kd.R Kd.bool 4 w' w.heap.size (fun _ => True) v201 x6_3) /\ Aside0 (Kd.R (Kd.int .i64) 3 w' w.heap.size (fun _ => True) v205 t204) /\ Aside0 (Below w.heap.size w w'))
           case atStart => exact ⟨(true), (0), ez, ez, H', ⟨Nat.le_refl _⟩, ⟨by refine rq ?_; exact HO_6.out⟩, ⟨by refine rq ?_; exact HO206.out⟩, ⟨(bz0 HB.out)⟩⟩
           case round =>
            clear H'
            try clear c1
            try clear p1
            try clear q1
            try clear hx1
            try clear c2
            try clear c2b0
            try clear c2b1
            try clear p2
            try clear q2
            try clear hx2
            try clear c3
            try clear c3b0
            try clear c4
            try clear c5
            try clear c5b0
            try clear p6
            try clear c7
            try clear c8
            try clear c8b0
            try clear c8b1
            try clear c9
            try clear c9b0
            try clear c10
            try clear c10b0
            try clear c10b1
            try clear c11
            try clear c11b0
            try clear c11b1
            try clear c12
            try clear c14
            try clear c14b0
            try clear c15
            try clear c15b0
            try clear c16
            try clear c16b0
            try clear c16b1
            try clear c17
            try clear c17b0
            try clear c17b1
            try clear c18
            try clear p18
            try clear q18
            try clear hx18
            try clear c19
            try clear c19b0
            try clear p19
            try clear q19
            try clear hx19
            try clear c20
            try clear c20b0
            try clear p20
            try clear q20
            try clear hx20
            try clear c23
            try clear c23b0
            try clear c24
            try clear c24b0
            try clear c26
            try clear c30
            try clear c30b0
            try clear c30b1
            try clear c31
            try clear c31b0
            try clear c31b1
            try clear c34
            try clear c34b0
            try clear c35
            try clear c35b0
            try clear c36
            try clear c36b0
            try clear hx183_0
            try clear hx183_1
            try clear hx183_2
            try clear hx185_0
            try clear hx185_1
            try clear hx185_2
            try clear hx186_0
            try clear hx186_1
            try clear hx186_2
            try clear hx187_0
            try clear hx187_1
            try clear hx187_2
            try clear hx188_0
            try clear hx188_1
            try clear hx188_2
            try clear hx189_0
            try clear hx189_1
            try clear hx189_2
            try clear hx190_0
            try clear hx190_1
            try clear hx190_2
            try clear hx191_0
            try clear hx191_1
            try clear hx191_2
            try clear hx192_0
            try clear hx192_1
            try clear hx192_2
            try clear hx193_0
            try clear hx193_1
            try clear hx193_2
            try clear hx194_0
            try clear hx194_1
            try clear hx194_2
            try clear hx198_0
            try clear hx203_0
            try clear hx203_1
            try clear hx203_2
            try clear p1
            try clear p18
            try clear p183
            try clear p185
            try clear p186
            try clear p187
            try clear p188
            try clear p189
            try clear p19
            try clear p190
            try clear p191
            try clear p192
            try clear p193
            try clear p194
            try clear p198
            try clear p2
            try clear p203
            try clear p6
            try clear q1
            try clear q18
            try clear q183
            try clear q185
            try clear q186
            try clear q187
            try clear q188
            try clear q189
            try clear q19
            try clear q190
            try clear q191
            try clear q192
            try clear q193
            try clear q194
            try clear q198
            try clear q203
            obtain ⟨x10_4, x11_4, rfl, rfl, HA, HK4, HO_6, HO_9, HB⟩ := hrel
            cases gk with
            | zero => exact absurd HA.out (by simp [spec_TableOk.l4])
            | succ k4 =>
             have H := HA.out
             clear HA
             simp only [spec_TableOk.l4] at H
             by_cases c39 : x11_4 < (t204.length : Int)
             ·rw [if_pos c39] at H
              have c39b0 := decide_eq_true c39
              clear c39
              by_cases c40 : x10_4 = true
              ·subst c40
               have H1 := hp H
               clear H
               have H := H1
               clear H1
               replace H := iz H
               obtain ⟨c41, H⟩ := H
               have c41b0 := decide_eq_true c41
               clear c41
               replace H := iz H
               obtain ⟨c42, H⟩ := H
               have c42b0 := decide_eq_true c42
               clear c42
               replace H := iz H
               obtain ⟨c43, H⟩ := H
               have c43b0 := decide_eq_true c43
               clear c43
               have H' := Aside0.mk H
               clear H
               obtain ⟨Ao44, co44, eo44⟩ := Kd.R_slice HO_9.out
               subst eo44
               have p207 : 0 <= (x11_4 : Int) := oz
               have q207 : x11_4 < (t204.length : Int) := oz
               obtain ⟨ad207, e207, hx207_0⟩ := Kd.at_int (Kd.R_reads' HO_9.out).2.2 x11_4 p207 q207
               cases e207
               replace p207 := eq_true p207
               replace q207 := eq_true q207
               obtain ⟨Ao45, co45, eo45⟩ := Kd.R_slice HO_6.out
               subst eo45
               have p208 : 0 <= ((rd t204 x11_4) : Int) := oz
               have q208 : (rd t204 x11_4) < (x6_3.length : Int) := oz
               obtain ⟨ad208, e208, hx208_0⟩ := Kd.at_bool (Kd.R_reads' HO_6.out).2.2 (rd t204 x11_4) p208 q208
               cases e208
               replace p208 := eq_true p208
               replace q208 := eq_true q208
               go_wp2
               go_roundg k4
               case measure => have := HK1.out; have := HK2.out; have := HK3.out; have := HK4.out; omega
               case rel => exact ⟨(rdOf false x6_3 (rd t204 x11_4)), (wrap64 (x11_4 + 1)), ez, ez, H', ⟨by have := HK1.out; have := HK2.out; have := HK3.out; have := HK4.out; omega⟩, ⟨by refine rq ?_; exact HO_6.out⟩, ⟨by refine rq ?_; exact HO_9.out⟩, ⟨(bz0 HB.out)⟩⟩
              ·replace c40 := Bool.eq_false_iff.mpr c40
               subst c40
               have H1 := hq H
               clear H
               have H := H1
               clear H1
               have H' := Aside0.mk H
               clear H
               obtain ⟨Ao46, co46, eo46⟩ := Kd.R_slice HO_9.out
               subst eo46
               go_wp2
               go_roundg k4
               case measure => have := HK1.out; have := HK2.out; have := HK3.out; have := HK4.out; omega
               case rel => exact ⟨(false), (wrap64 (x11_4 + 1)), ez, ez, H', ⟨by have := HK1.out; have := HK2.out; have := HK3.out; have := HK4.out; omega⟩, ⟨by refine rq ?_; exact HO_6.out⟩, ⟨by refine rq ?_; exact HO_9.out⟩, ⟨(bz0 HB.out)⟩⟩
             ·rw [if_neg c39] at H
              have c39b0 := decide_eq_false c39
              clear c39
              replace H := iz H
              obtain ⟨c47, H⟩ := H
              have c47b0 := decide_eq_true c47
              clear c47
              replace H := iz H
              obtain ⟨c48, H⟩ := H
              have c48b0 := decide_eq_true c48
              clear c48
              obtain ⟨bq49, hbq49⟩ : ∃ b_ : Bool, b_ = (rdOf false x6_3 x8_3) := ⟨_, rfl⟩
              replace H : (if bq49 = true then (spec_TableOk.l3 k4 l0 (x6_3.set (x8_3 : Int).toNat true) x7_2 (wrap64 (x8_3 + 1))) else (spec_TableOk.l3 k4 l0 (x6_3.set (x8_3 : Int).toNat x10_4) x7_2 (wrap64 (x8_3 + 1)))) = some r := by rw [<- hbq49] at H; exact H
              have Nbq49 := Aside0.mk hbq49
              clear hbq49
              by_cases c50 : bq49 = true
              ·subst c50
               have H1 := hp H
               clear H
               have H := H1
               clear H1
               obtain ⟨y210, hy210⟩ : ∃ y_ : List Bool, y_ = (x6_3.set (x8_3 : Int).toNat true) := ⟨_, rfl⟩
               replace H : (spec_TableOk.l3 k4 l0 y210 x7_2 (wrap64 (x8_3 + 1))) = some r := yz hy210 H
               have Ny210 := Aside0.mk hy210
               clear hy210
               have H' := Aside0.mk H
               clear H
               obtain ⟨Ao52, co52, eo52⟩ := Kd.R_slice HO_9.out
               subst eo52
               obtain ⟨Ao53, co53, eo53⟩ := Kd.R_slice HO_6.out
               subst eo53
               have p209 : 0 <= (x8_3 : Int) := oz
               have q209 : x8_3 < (x6_3.length : Int) := oz
               obtain ⟨ad209, e209, hx209_0⟩ := Kd.at_bool (Kd.R_reads' HO_6.out).2.2 x8_3 p209 q209
               (try rw [<- Nbq49.out] at hx209_0)
               cases e209
               replace p209 := eq_true p209
               replace q209 := eq_true q209
               have p51 : 0 <= (x8_3 : Int) := oz
               have q51 : (x8_3 : Int) < ((x6_3.length : Int) : Int) := oz
               obtain ⟨go51, co51, eo51, gb51, gl51, cl51, HG51⟩ := Kd.R_form HO_6.out (by omega)
               (first | cases eo51 | (injection eo51 with ea_ en_ ec_; (first | subst ea_ | (injection ea_ with ea_; subst ea_)); subst ec_; clear en_))
               have GB51 := Aside0.mk gb51
               have GG51 := Aside0.mk HG51
               clear gb51 gl51 HG51
               (first | simp only [add_plain] at hx209_0 | skip)
               obtain ⟨hx51_0, hf51_0⟩ := Kd.R_celln false HO_6.out (x8_3 : Int) p51 q51
               replace p51 := eq_true p51
               replace q51 := eq_true q51
               have HP54 := Kd.R_putg HO_6.out (x8_3 : Int) true
               go_wp2_with (first | ((with_reducible refine gate_store (t := 4) (p := 148) rfl ?_); refine store_event (t := 4) (p := 148) (v := ?vo_w55) (w1 := (wr.setCell ⟨go51, (x8_3 : Int).toNat, none⟩ (.bool true))) ?hg ?ho ?hn ?hr ?_; (case ho => rfl); (case hg => rfl); (case hn => rfl); (case hr => exact vz); intro w55 hw; have hg : wr.grownBy w55 (some go51) := (by rw [hw]; exact HP54.2); have hp_ : Kd.R Kd.bool 4 w55 w.heap.size (fun _ => True) (.slice (some ⟨go51, 0, none⟩) x6_3.length co53) y210 := (by rw [hw, Ny210.out]; exact HP54.1); clear HP54; replace HO_9 := Aside0.mk (Kd.R_over' (v := (.slice (some ⟨go51, 0, none⟩) x6_3.length co53)) (rz HO_9.out) (Kd.R_typed HO_6.out) (by decide) hg); replace HO_6 := Aside0.mk (hp_); replace HB := Aside0.mk ((by rw [hw]; exact below_set (HB.out) GB51.out : Below w.heap.size w w55)); clear hg hw hp_))
               go_roundg k4
               case measure => have := HK1.out; have := HK2.out; have := HK3.out; have := HK4.out; omega
               case rel => exact ⟨(y210), (wrap64 (x8_3 + 1)), ez, H', ⟨by have := HK1.out; have := HK2.out; have := HK3.out; have := HK4.out; omega⟩, ⟨by refine rq ?_; exact HO_6.out⟩, ⟨(bz0 HB.out)⟩⟩
              ·replace c50 := Bool.eq_false_iff.mpr c50
               subst c50
               have H1 := hq H
               clear H
               have H := H1
               clear H1
               obtain ⟨y211, hy211⟩ : ∃ y_ : List Bool, y_ = (x6_3.set (x8_3 : Int).toNat x10_4) := ⟨_, rfl⟩
               replace H : (spec_TableOk.l3 k4 l0 y211 x7_2 (wrap64 (x8_3 + 1))) = some r := yz hy211 H
               have Ny211 := Aside0.mk hy211
               clear hy211
               have H' := Aside0.mk H
               clear H
               obtain ⟨Ao57, co57, eo57⟩ := Kd.R_slice HO_9.out
               subst eo57
               obtain ⟨Ao58, co58, eo58⟩ := Kd.R_slice HO_6.out
               subst eo58
               have p209 : 0 <= (x8_3 : Int) := oz
               have q209 : x8_3 < (x6_3.length : Int) := oz
               obtain ⟨ad209, e209, hx209_0⟩ := Kd.at_bool (Kd.R_reads' HO_6.out).2.2 x8_3 p209 q209
               (try rw [<- Nbq49.out] at hx209_0)
               cases e209
               replace p209 := eq_true p209
               replace q209 := eq_true q209
               have p56 : 0 <= (x8_3 : Int) := oz
               have q56 : (x8_3 : Int) < ((x6_3.length : Int) : Int) := oz
               obtain ⟨go56, co56, eo56, gb56, gl56, cl56, HG56⟩ := Kd.R_form HO_6.out (by omega)
               (first | cases eo56 | (injection eo56 with ea_ en_ ec_; (first | subst ea_ | (injection ea_ with ea_; subst ea_)); subst ec_; clear en_))
               have GB56 := Aside0.mk gb56
               have GG56 := Aside0.mk HG56
               clear gb56 gl56 HG56
               (first | simp only [add_plain] at hx209_0 | skip)
               obtain ⟨hx56_0, hf56_0⟩ := Kd.R_celln false HO_6.out (x8_3 : Int) p56 q56
               replace p56 := eq_true p56
               replace q56 := eq_true q56
               have HP59 := Kd.R_putg HO_6.out (x8_3 : Int) x10_4
               go_wp2_with (first | ((with_reducible refine gate_store (t := 4) (p := 148) rfl ?_); refine store_event (t := 4) (p := 148) (v := ?vo_w60) (w1 := (wr.setCell ⟨go56, (x8_3 : Int).toNat, none⟩ (.bool x10_4))) ?hg ?ho ?hn ?hr ?_; (case ho => rfl); (case hg => rfl); (case hn => rfl); (case hr => exact vz); intro w60 hw; have hg : wr.grownBy w60 (some go56) := (by rw [hw]; exact HP59.2); have hp_ : Kd.R Kd.bool 4 w60 w.heap.size (fun _ => True) (.slice (some ⟨go56, 0, none⟩) x6_3.length co58) y211 := (by rw [hw, Ny211.out]; exact HP59.1); clear HP59; replace HO_9 := Aside0.mk (Kd.R_over' (v := (.slice (some ⟨go56, 0, none⟩) x6_3.length co58)) (rz HO_9.out) (Kd.R_typed HO_6.out) (by decide) hg); replace HO_6 := Aside0.mk (hp_); replace HB := Aside0.mk ((by rw [hw]; exact below_set (HB.out) GB56.out : Below w.heap.size w w60)); clear hg hw hp_))
               go_roundg k4
               case measure => have := HK1.out; have := HK2.out; have := HK3.out; have := HK4.out; omega
               case rel => exact ⟨(y211), (wrap64 (x8_3 + 1)), ez, H', ⟨by have := HK1.out; have := HK2.out; have := HK3.out; have := HK4.out; omega⟩, ⟨by refine rq ?_; exact HO_6.out⟩, ⟨(bz0 HB.out)⟩⟩
          ·rw [if_neg c35] at H
           have c35b0 := decide_eq_false c35
           clear c35
           have H' := Aside0.mk H
           clear H
           go_wp2
           go_roundg k3
           case measure => have := HK1.out; have := HK2.out; have := HK3.out; omega
           case rel => exact ⟨(x6_3), (wrap64 (x7_2 + 1)), ez, H', ⟨by have := HK1.out; have := HK2.out; have := HK3.out; omega⟩, ⟨by refine rq ?_; exact HO_6.out⟩, ⟨(bz0 HB.out)⟩⟩
       ·rw [if_neg c34] at H
        have c34b0 := decide_eq_false c34
        clear c34
        have H' := Aside0.mk H
        clear H
        go_wp2
        go_loopg [12] k2 (fun kq v12 w' => ∃ (x12_3 : Int), v12 = .int .i64 x12_3 /\ Aside0 (spec_TableOk.l5 kq l0 x6_2 x12_3 = some r) /\ Aside0 (kq <= k2) /\ Aside0 (Kd.R Kd.bool 4 w' w.heap.size (fun _ => True) v201 x6_2) /\ Aside0 (Below w.heap.size w w'))
        case atStart => exact ⟨(0), ez, H', ⟨Nat.le_refl _⟩, ⟨by refine rq ?_; exact HO_6.out⟩, ⟨(bz0 HB.out)⟩⟩
        case round =>
         clear H'
         try clear c1
         try clear p1
         try clear q1
         try clear hx1
         try clear c2
         try clear c2b0
         try clear c2b1
         try clear p2
         try clear q2
         try clear hx2
         try clear c3
         try clear c3b0
         try clear c4
         try clear q4
         try clear c5
         try clear c5b0
         try clear p5
         try clear q5
         try clear hx5
         try clear hf5
         try clear p6
         try clear c7
         try clear c8
         try clear c8b0
         try clear c8b1
         try clear c9
         try clear c9b0
         try clear c10
         try clear c10b0
         try clear c10b1
         try clear c11
         try clear c11b0
         try clear c11b1
         try clear c12
         try clear c14
         try clear c14b0
         try clear c15
         try clear c15b0
         try clear c16
         try clear c16b0
         try clear c16b1
         try clear c17
         try clear c17b0
         try clear c17b1
         try clear c18
         try clear p18
         try clear q18
         try clear hx18
         try clear c19
         try clear c19b0
         try clear p19
         try clear q19
         try clear hx19
         try clear c20
         try clear c20b0
         try clear p20
         try clear q20
         try clear hx20
         try clear c23
         try clear c23b0
         try clear c24
         try clear c24b0
         try clear c26
         try clear c30
         try clear c30b0
         try clear c30b1
         try clear c31
         try clear c31b0
         try clear c31b1
         try clear c34
         try clear c34b0
         try clear c35
         try clear c35b0
         try clear c36
         try clear c36b0
         try clear c39
         try clear c39b0
         try clear c40
         try clear c41
         try clear c41b0
         try clear c42
         try clear c42b0
         try clear c43
         try clear c43b0
         try clear c47
         try clear c47b0
         try clear c48
         try clear c48b0
         try clear q49
         try clear c50
         try clear p51
         try clear q51
         try clear hx51
         try clear hf51
         try clear c56
         try clear p56
         try clear q56
         try clear hx56
         try clear hf56
         try clear hx183_0
         try clear hx183_1
         try clear hx183_2
         try clear hx185_0
         try clear hx185_1
         try clear hx185_2
         try clear hx186_0
         try clear hx186_1
         try clear hx186_2
         try clear hx187_0
         try clear hx187_1
         try clear hx187_2
         try clear hx188_0
         try clear hx188_1
         try clear hx188_2
         try clear hx189_0
         try clear hx189_1
         try clear hx189_2
         try clear hx190_0
         try clear hx190_1
         try clear hx190_2
         try clear hx191_0
         try clear hx191_1
         try clear hx191_2
         try clear hx192_0
         try clear hx192_1
         try clear hx192_2
         try clear hx193_0
         try clear hx193_1
         try clear hx193_2
         try clear hx194_0
         try clear hx194_1
         try clear hx194_2
         try clear hx198_0
         try clear hx203_0
         try clear hx203_1
         try clear hx203_2
         try clear hx207_0
         try clear hx208_0
         try clear hx209_0
         try clear hx51_0
         try clear hx56_0
         try clear p1
         try clear p18
         try clear p183
         try clear p185
         try clear p186
         try clear p187
         try clear p188
         try clear p189
         try clear p19
         try clear p190
         try clear p191
         try clear p192
         try clear p193
         try clear p194
         try clear p198
         try clear p2
         try clear p20
         try clear p203
         try clear p207
         try clear p208
         try clear p209
         try clear p51
         try clear p56
         try clear p6
         try clear q1
         try clear q18
         try clear q183
         try clear q185
         try clear q186
         try clear q187
         try clear q188
         try clear q189
         try clear q19
         try clear q190
         try clear q191
         try clear q192
         try clear q193
         try clear q194
         try clear q198
         try clear q2
         try clear q20
         try clear q203
         try clear q207
         try clear q208
         try clear q209
         try clear q51
         try clear q56
         obtain ⟨x12_3, rfl, HA, HK3, HO_6, HB⟩ := hrel
         cases gk with
         | zero => exact absurd HA.out (by simp [spec_TableOk.l5])
         | succ k3 =>
          have H := HA.out
          clear HA
          simp only [spec_TableOk.l5] at H
          by_cases c61 : x12_3 < (l0.length : Int)
          ·rw [if_pos c61] at H
           have c61b0 := decide_eq_true c61
           clear c61
           replace H := iz H
           obtain ⟨c62, H⟩ := H
           have c62b0 := decide_eq_true c62
           clear c62
           replace H := iz H
           obtain ⟨c63, H⟩ := H
           have c63b0 := decide_eq_true c63
           clear c63
           obtain ⟨bq64, hbq64⟩ : ∃ b_ : Bool, b_ = (rdOf false x6_2 x12_3) := ⟨_, rfl⟩
           replace H : (if bq64 = true then (spec_TableOk.l5 k3 l0 x6_2 (wrap64 (x12_3 + 1))) else (some false)) = some r := by rw [<- hbq64] at H; exact H
           have Nbq64 := Aside0.mk hbq64
           clear hbq64
           by_cases c65 : bq64 = true
           ·subst c65
            have H1 := hp H
            clear H
            have H := H1
            clear H1
            have H' := Aside0.mk H
            clear H
            obtain ⟨Ao66, co66, eo66⟩ := Kd.R_slice HO_6.out
            subst eo66
            have p212 : 0 <= (x12_3 : Int) := oz
            have q212 : x12_3 < (x6_2.length : Int) := oz
            obtain ⟨ad212, e212, hx212_0⟩ := Kd.at_bool (Kd.R_reads' HO_6.out).2.2 x12_3 p212 q212
            (try rw [<- Nbq64.out] at hx212_0)
            cases e212
            replace p212 := eq_true p212
            replace q212 := eq_true q212
            go_wp2
            go_roundg k3
            case measure => have := HK1.out; have := HK2.out; have := HK3.out; omega
            case rel => exact ⟨(wrap64 (x12_3 + 1)), ez, H', ⟨by have := HK1.out; have := HK2.out; have := HK3.out; omega⟩, ⟨by refine rq ?_; exact HO_6.out⟩, ⟨(bz0 HB.out)⟩⟩
           ·replace c65 := Bool.eq_false_iff.mpr c65
            subst c65
            have H1 := hq H
            clear H
            have H := H1
            clear H1
            obtain rfl := Option.some.inj H
            obtain ⟨Ao67, co67, eo67⟩ := Kd.R_slice HO_6.out
            subst eo67
            have p212 : 0 <= (x12_3 : Int) := oz
            have q212 : x12_3 < (x6_2.length : Int) := oz
            obtain ⟨ad212, e212, hx212_0⟩ := Kd.at_bool (Kd.R_reads' HO_6.out).2.2 x12_3 p212 q212
            (try rw [<- Nbq64.out] at hx212_0)
            cases e212
            replace p212 := eq_true p212
            replace q212 := eq_true q212
            go_wp2
            go_ret
            exact ⟨gz, (bz0 HB.out)⟩
          ·rw [if_neg c61] at H
           have c61b0 := decide_eq_false c61
           clear c61
           obtain rfl := Option.some.inj H
           go_wp2
           go_ret
           exact ⟨gz, (bz0 HB.out)⟩
end Go.Proofs.YtlhofeikcaejpaaDoor.PFnExactUnified
