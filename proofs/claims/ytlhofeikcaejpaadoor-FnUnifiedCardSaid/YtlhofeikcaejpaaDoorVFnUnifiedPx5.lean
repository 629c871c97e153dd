/- PFnUnifiedx5, of the words and walks that the law FnUnified needs; made by this session's program out of printed texts. -/

import Derived.Test.YtlhofeikcaejpaaDoorVFnUnifiedPx0
import Derived.Test.YtlhofeikcaejpaaDoorVFnUnifiedPx3
import Derived.Test.YtlhofeikcaejpaaDoorVFnUnifiedPx4
namespace Go.Proofs.YtlhofeikcaejpaaDoor.PFnUnified
open Go.RowKit Go.Proofs.YtlhofeikcaejpaaDoorW.PrintWords Go.Proofs.YtlhofeikcaejpaaDoorW.PrintLast Go.Proofs.YtlhofeikcaejpaaDoorW.PrintMore
attribute [local go_sem] max2_int min2_int max_two min_two max_three min_three max_four min_four
set_option linter.unusedVariables false
set_option linter.unusedSimpArgs false
def spec_l8Find.l0 : Nat -> List (S55) -> Int -> Option (Int)
 | 0, _, _ => none
 | k + 1, x0, x1 => if 0 <= x1 then (if x1 < (x0.length : Int) then (if ((rd_T55 x0 x1).f0) = 0 then (if ((rd_T55 x0 x1).f1) ≥ 0 then (spec_l8Find.l0 k x0 ((rd_T55 x0 x1).f1)) else (some x1)) else (some x1)) else (none)) else (none)
def spec_l8Find.f (k : Nat) (l0 : List (S55)) (a1 : Int) : Option (Int) := spec_l8Find.l0 k l0 a1
theorem spec_l8Find.mono_l : ∀ k, (∀ y0 y1, LeO (spec_l8Find.l0 k y0 y1) (spec_l8Find.l0 (k + 1) y0 y1))
 | 0 => fun _ _ r h => by simp [spec_l8Find.l0] at h
 | k + 1 => by
  have ih0 := spec_l8Find.mono_l k
  ·intro y0 y1
   unfold spec_l8Find.l0
   with_reducible repeat' first | exact ih0 _ _ | exact lrz _ | exact lnz _ | refine liz ?_ ?_ | refine lbz ?_ fun _ => ?_
theorem spec_l8Find.mono : ∀ a0 a1 k, LeO (spec_l8Find.f k a0 a1) (spec_l8Find.f (k + 1) a0 a1) := by
 intro a0 a1 k
 have ih0 := spec_l8Find.mono_l k
 unfold spec_l8Find.f
 with_reducible repeat' first | exact ih0 _ _ | exact lrz _ | exact lnz _ | refine liz ?_ ?_ | refine lbz ?_ fun _ => ?_
set_option maxHeartbeats 8000000 in
set_option maxRecDepth 100000 in
theorem spec_l8Find.calls (k : Nat) (A0 : Option Addr) (c0 : Nat) (l0 : List (S55)) (a1 : Int) (r : Int) (w : World) (hr0 : Kd.C k55 w A0 l0.length l0) (hc0 : l0.length <= c0) (h : spec_l8Find.f k l0 a1 = some r) :
  Calls Tryd.prog 81 #[.slice A0 l0.length c0, .int .i64 a1] w fun e w' => e = .returned (.int .i64 r) /\ Drawn0 w w' := by
 have HR0 := Aside0.mk hr0
 have HC0 := Aside0.mk hc0
 clear hr0 hc0
 have H : (spec_l8Find.l0 k l0 a1) = some r := h
 clear h
 have H' := Aside0.mk H
 clear H
 go_enter Tryd.func81, Tryd.ntmps81
 go_wp2
 go_loopg [1] k (fun kq v1 w' => ∃ (x1_1 : Int), v1 = .int .i64 x1_1 /\ Aside0 (spec_l8Find.l0 kq l0 x1_1 = some r) /\ Aside0 (kq <= k) /\ Drawn0 w w')
 case atStart => exact ⟨(a1), ez, H', ⟨Nat.le_refl _⟩, dz⟩
 case round =>
  clear H'
  try clear p2
  obtain ⟨x1_1, rfl, HA, HK1, ⟨m1, rfl⟩⟩ := hrel
  cases gk with
  | zero => exact absurd HA.out (by simp [spec_l8Find.l0])
  | succ k1 =>
   have H := HA.out
   clear HA
   simp only [spec_l8Find.l0] at H
   replace H := iz H
   obtain ⟨c3, H⟩ := H
   have c3b0 := decide_eq_true c3
   clear c3
   replace H := iz H
   obtain ⟨c4, H⟩ := H
   have c4b0 := decide_eq_true c4
   clear c4
   by_cases c5 : ((rd_T55 l0 x1_1).f0) = 0
   ·rw [if_pos c5] at H
    have c5b0 : (((rd_T55 l0 x1_1).f0) == 0) = true := beq_iff_eq.mpr c5
    have c5b1 : (((rd_T55 l0 x1_1).f0) != 0) = false := bne_eq_false_iff_eq.mpr c5
    clear c5
    by_cases c6 : ((rd_T55 l0 x1_1).f1) ≥ 0
    ·rw [if_pos c6] at H
     have c6b0 : decide (0 <= ((rd_T55 l0 x1_1).f1)) = true := decide_eq_true c6
     clear c6
     have H' := Aside0.mk H
     clear H
     have p196 : 0 <= (x1_1 : Int) := oz
     have q196 : x1_1 < (l0.length : Int) := oz
     obtain ⟨ad196, e196, hx196_0, hx196_1, hx196_2⟩ := at_T55 HR0.out x1_1 p196 q196
     cases e196
     replace p196 := eq_true p196
     replace q196 := eq_true q196
     have p197 : 0 <= (x1_1 : Int) := oz
     have q197 : x1_1 < (l0.length : Int) := oz
     obtain ⟨ad197, e197, hx197_0, hx197_1, hx197_2⟩ := at_T55 HR0.out x1_1 p197 q197
     obtain rfl : ad196 = ad197 := (by injection e197)
     replace p197 := eq_true p197
     replace q197 := eq_true q197
     have p198 : 0 <= (x1_1 : Int) := oz
     have q198 : x1_1 < (l0.length : Int) := oz
     obtain ⟨ad198, e198, hx198_0, hx198_1, hx198_2⟩ := at_T55 HR0.out x1_1 p198 q198
     obtain rfl : ad196 = ad198 := (by injection e198)
     replace p198 := eq_true p198
     replace q198 := eq_true q198
     go_wp2
     go_roundg k1
     case measure => have := HK1.out; omega
     case rel => exact ⟨((rd_T55 l0 x1_1).f1), ez, H', ⟨by have := HK1.out; omega⟩, dz⟩
    ·rw [if_neg c6] at H
     have c6b0 : decide (0 <= ((rd_T55 l0 x1_1).f1)) = false := decide_eq_false c6
     clear c6
     obtain rfl := Option.some.inj H
     have p196 : 0 <= (x1_1 : Int) := oz
     have q196 : x1_1 < (l0.length : Int) := oz
     obtain ⟨ad196, e196, hx196_0, hx196_1, hx196_2⟩ := at_T55 HR0.out x1_1 p196 q196
     cases e196
     replace p196 := eq_true p196
     replace q196 := eq_true q196
     have p197 : 0 <= (x1_1 : Int) := oz
     have q197 : x1_1 < (l0.length : Int) := oz
     obtain ⟨ad197, e197, hx197_0, hx197_1, hx197_2⟩ := at_T55 HR0.out x1_1 p197 q197
     obtain rfl : ad196 = ad197 := (by injection e197)
     replace p197 := eq_true p197
     replace q197 := eq_true q197
     go_wp2
     go_ret
     exact ⟨e2z, dz⟩
   ·rw [if_neg c5] at H
    have c5b0 : (((rd_T55 l0 x1_1).f0) == 0) = false := beq_eq_false_iff_ne.mpr c5
    have c5b1 : (((rd_T55 l0 x1_1).f0) != 0) = true := bne_iff_ne.mpr c5
    obtain rfl := Option.some.inj H
    have p196 : 0 <= (x1_1 : Int) := oz
    have q196 : x1_1 < (l0.length : Int) := oz
    obtain ⟨ad196, e196, hx196_0, hx196_1, hx196_2⟩ := at_T55 HR0.out x1_1 p196 q196
    cases e196
    replace p196 := eq_true p196
    replace q196 := eq_true q196
    go_wp2
    go_ret
    exact ⟨e2z, dz⟩
mutual
def spec_l8Size.l0 : Nat -> List (S55) -> Int -> Int -> List Int -> Int -> Option (Int)
 | 0, _, _, _, _, _ => none
 | k + 1, x0, x2, x7, x8, x9 => if x9 < (x8.length : Int) then (if x7 <= x2 then (if 0 <= x9 then ((spec_l8Size.f k x0 (rd x8 x9) (wrap64 (x2 - x7))).bind fun t206 => (spec_l8Size.l0 k x0 x2 (wrap64 (x7 + t206)) x8 (wrap64 (x9 + 1)))) else (none)) else (some (mn x7 (wrap64 (x2 + 1))))) else (some (mn x7 (wrap64 (x2 + 1))))
def spec_l8Size.f : Nat -> List (S55) -> Int -> Int -> Option (Int)
 | 0, _, _, _ => none
 | k + 1, l0, a1, a2 => (spec_l8Find.f k l0 a1).bind fun t199 => (if 0 <= t199 then (if t199 < (l0.length : Int) then (if ((rd_T55 l0 t199).f0) = 0 then (some 1) else ((spec_l8Kids.f k ((rd_T55 l0 t199).f0) ((rd_T55 l0 t199).f1) ((rd_T55 l0 t199).f2)).bind fun t202 => (spec_l8Size.l0 k l0 a2 1 t202 0))) else (none)) else (none))
end
theorem spec_l8Size.mono_l : ∀ k, (∀ y0 y1 y2, LeO (spec_l8Size.f k y0 y1 y2) (spec_l8Size.f (k + 1) y0 y1 y2)) /\ (∀ y0 y1 y2 y3 y4, LeO (spec_l8Size.l0 k y0 y1 y2 y3 y4) (spec_l8Size.l0 (k + 1) y0 y1 y2 y3 y4))
 | 0 => ⟨fun _ _ _ r h => by simp [spec_l8Size.f] at h, fun _ _ _ _ _ r h => by simp [spec_l8Size.l0] at h⟩
 | k + 1 => by
  obtain ⟨ih0, ih1⟩ := spec_l8Size.mono_l k
  refine ⟨?_, ?_⟩
  ·intro y0 y1 y2
   unfold spec_l8Size.f
   with_reducible repeat' first | exact ih0 _ _ _ | exact ih1 _ _ _ _ _ | exact spec_l8Find.mono _ _ _ | exact spec_l8Kids.mono _ _ _ _ | exact lrz _ | exact lnz _ | refine liz ?_ ?_ | refine lbz ?_ fun _ => ?_
  ·intro y0 y1 y2 y3 y4
   unfold spec_l8Size.l0
   with_reducible repeat' first | exact ih0 _ _ _ | exact ih1 _ _ _ _ _ | exact spec_l8Find.mono _ _ _ | exact spec_l8Kids.mono _ _ _ _ | exact lrz _ | exact lnz _ | refine liz ?_ ?_ | refine lbz ?_ fun _ => ?_
theorem spec_l8Size.mono : ∀ a0 a1 a2 k, LeO (spec_l8Size.f k a0 a1 a2) (spec_l8Size.f (k + 1) a0 a1 a2) := by
 intro a0 a1 a2 k
 obtain ⟨ih0, ih1⟩ := spec_l8Size.mono_l k
 exact ih0 a0 a1 a2
set_option maxHeartbeats 8000000 in
set_option maxRecDepth 100000 in
theorem spec_l8Size.calls (k : Nat) : ∀ (A0 : Option Addr) (c0 : Nat) (l0 : List (S55)) (a1 : Int) (a2 : Int) (r : Int) (w : World) (hr0 : Kd.C k55 w A0 l0.length l0) (hc0 : l0.length <= c0) (h : spec_l8Size.f k l0 a1 a2 = some r),
  Calls Tryd.prog 54 #[.slice A0 l0.length c0, .int .i64 a1, .int .i64 a2] w fun e w' => e = .returned (.int .i64 r) /\ Below w.heap.size w w' := by
 induction k using Nat.strongRecOn with
 | _ k ih =>
 intro A0 c0 l0 a1 a2 r w hr0 hc0 h
 cases k with
 | zero => exact absurd h (by simp [spec_l8Size.f])
 | succ k =>
 simp only [spec_l8Size.f] at h
 have hu55 := Tryd.underlying55
 have HR0 := Aside0.mk hr0
 have HC0 := Aside0.mk hc0
 clear hr0 hc0
 have HB := Aside0.mk (Below.refl w.heap.size w)
 have H : ((spec_l8Find.f k l0 a1).bind fun t199 => (if 0 <= t199 then (if t199 < (l0.length : Int) then (if ((rd_T55 l0 t199).f0) = 0 then (some 1) else ((spec_l8Kids.f k ((rd_T55 l0 t199).f0) ((rd_T55 l0 t199).f1) ((rd_T55 l0 t199).f2)).bind fun t202 => (spec_l8Size.l0 k l0 a2 1 t202 0))) else (none)) else (none))) = some r := h
 clear h
 replace H := bi H
 obtain ⟨t199, A40, H⟩ := H
 try dsimp only at H
 have A4 := Aside0.mk A40
 clear A40
 replace H := iz H
 obtain ⟨c5, H⟩ := H
 have c5b0 := decide_eq_true c5
 clear c5
 replace H := iz H
 obtain ⟨c6, H⟩ := H
 have c6b0 := decide_eq_true c6
 clear c6
 by_cases c7 : ((rd_T55 l0 t199).f0) = 0
 ·rw [if_pos c7] at H
  have c7b0 : (((rd_T55 l0 t199).f0) == 0) = true := beq_iff_eq.mpr c7
  have c7b1 : (((rd_T55 l0 t199).f0) != 0) = false := bne_eq_false_iff_eq.mpr c7
  clear c7
  obtain rfl := Option.some.inj H
  go_enter Tryd.func54, Tryd.ntmps54
  go_wp2_with (first | ((with_reducible refine gate_callee (f := 81) rfl ?_); refine goesL_ (some 12) rfl rfl Tryd.func81 (by kernel_rfl) rfl #[.slice A0 l0.length c0, .int .i64 a1] rfl lz ?_; (with_reducible refine (spec_l8Find.calls k _ _ l0 a1 t199 _ ?side1 ?side2 A4.out).mono ?_); (case side1 => repeat (first | exact HR0.out | (with_reducible refine Kd.C_alloc ?_ _) | (with_reducible refine Kd.C_drewN ?_ _) | (with_reducible refine Kd.C_drew ?_))); (case side2 => exact HC0.out); rintro e w' ⟨rfl, ⟨nd, rfl⟩⟩; refine ⟨_, rfl, ?_⟩; have p200 : 0 <= (t199 : Int) := oz; have q200 : t199 < (l0.length : Int) := oz; obtain ⟨ad200, e200, hx200_0, hx200_1, hx200_2⟩ := at_T55 HR0.out t199 p200 q200; cases e200; replace p200 := eq_true p200; replace q200 := eq_true q200))
  go_ret
  exact ⟨gz, (bz0 HB.out)⟩
 ·rw [if_neg c7] at H
  have c7b0 : (((rd_T55 l0 t199).f0) == 0) = false := beq_eq_false_iff_ne.mpr c7
  have c7b1 : (((rd_T55 l0 t199).f0) != 0) = true := bne_iff_ne.mpr c7
  replace H := bi H
  obtain ⟨t202, A80, H⟩ := H
  try dsimp only at H
  have A8 := Aside0.mk A80
  clear A80
  have H' := Aside0.mk H
  clear H
  go_enter Tryd.func54, Tryd.ntmps54
  go_wp2_with (first | ((with_reducible refine gate_callee (f := 81) rfl ?_); refine goesL_ (some 12) rfl rfl Tryd.func81 (by kernel_rfl) rfl #[.slice A0 l0.length c0, .int .i64 a1] rfl lz ?_; (with_reducible refine (spec_l8Find.calls k _ _ l0 a1 t199 _ ?side1 ?side2 A4.out).mono ?_); (case side1 => repeat (first | exact HR0.out | (with_reducible refine Kd.C_alloc ?_ _) | (with_reducible refine Kd.C_drewN ?_ _) | (with_reducible refine Kd.C_drew ?_))); (case side2 => exact HC0.out); rintro e w' ⟨rfl, ⟨nd, rfl⟩⟩; refine ⟨_, rfl, ?_⟩; have p200 : 0 <= (t199 : Int) := oz; have q200 : t199 < (l0.length : Int) := oz; obtain ⟨ad200, e200, hx200_0, hx200_1, hx200_2⟩ := at_T55 HR0.out t199 p200 q200; cases e200; replace p200 := eq_true p200; replace q200 := eq_true q200; have p201 : 0 <= (t199 : Int) := oz; have q201 : t199 < (l0.length : Int) := oz; obtain ⟨ad201, e201, hx201_0, hx201_1, hx201_2⟩ := at_T55 HR0.out t199 p201 q201; obtain rfl : ad200 = ad201 := (by injection e201); replace p201 := eq_true p201; replace q201 := eq_true q201) | ((with_reducible refine gate_callee (f := 56) rfl ?_); refine goesL_ (some 24) rfl rfl Tryd.func56 (by kernel_rfl) rfl #[.agg #[.int .i64 ((rd_T55 l0 t199).f0), .int .i64 ((rd_T55 l0 t199).f1), .int .i64 ((rd_T55 l0 t199).f2)]] rfl lz ?_; (with_reducible refine (spec_l8Kids.calls k ((rd_T55 l0 t199).f0) ((rd_T55 l0 t199).f1) ((rd_T55 l0 t199).f2) t202 _ A8.out).mono ?_); rintro e w9 ⟨v203, rfl, ho0, hb⟩; refine ⟨_, rfl, ?_⟩; have HO204 := Aside0.mk (Kd.R_lower ho0 (below_size (bz0 HB.out))); replace HB := Aside0.mk (below_step (bz0 HB.out) hb); (try clear hb); (try clear ho0)))
  go_loopg [7, 9] k (fun kq v7 v9 w' => ∃ (x7_1 : Int) (x9_1 : Int), v7 = .int .i64 x7_1 /\ v9 = .int .i64 x9_1 /\ Aside0 (spec_l8Size.l0 kq l0 a2 x7_1 t202 x9_1 = some r) /\ Aside0 (kq <= k) /\ Aside0 (Kd.R (Kd.int .i64) 3 w' w.heap.size (fun _ => True) v203 t202) /\ Aside0 (Below w.heap.size w w'))
  case atStart => exact ⟨(1), (0), ez, ez, H', ⟨Nat.le_refl _⟩, ⟨by refine rq ?_; exact HO204.out⟩, ⟨(bz0 HB.out)⟩⟩
  case round =>
   clear H'
   try clear p2
   try clear q2
   try clear hx2
   try clear c5
   try clear c5b0
   try clear c6
   try clear c6b0
   try clear c7
   try clear c7b0
   try clear c7b1
   try clear c8
   try clear hx200_0
   try clear hx200_1
   try clear hx200_2
   try clear hx201_0
   try clear hx201_1
   try clear hx201_2
   try clear p200
   try clear p201
   try clear q200
   try clear q201
   obtain ⟨x7_1, x9_1, rfl, rfl, HA, HK1, HO_8, HB⟩ := hrel
   cases gk with
   | zero => exact absurd HA.out (by simp [spec_l8Size.l0])
   | succ k1 =>
    have H := HA.out
    clear HA
    simp only [spec_l8Size.l0] at H
    by_cases c10 : x9_1 < (t202.length : Int)
    ·rw [if_pos c10] at H
     have c10b0 := decide_eq_true c10
     clear c10
     by_cases c11 : x7_1 <= a2
     ·rw [if_pos c11] at H
      have c11b0 := decide_eq_true c11
      clear c11
      replace H := iz H
      obtain ⟨c12, H⟩ := H
      have c12b0 := decide_eq_true c12
      clear c12
      replace H := bi H
      obtain ⟨t206, A130, H⟩ := H
      try dsimp only at H
      have A13 := Aside0.mk A130
      clear A130
      have H' := Aside0.mk H
      clear H
      obtain ⟨Ao14, co14, eo14⟩ := Kd.R_slice HO_8.out
      subst eo14
      have p205 : 0 <= (x9_1 : Int) := oz
      have q205 : x9_1 < (t202.length : Int) := oz
      obtain ⟨ad205, e205, hx205_0⟩ := Kd.at_int (Kd.R_reads' HO_8.out).2.2 x9_1 p205 q205
      cases e205
      replace p205 := eq_true p205
      replace q205 := eq_true q205
      go_wp2_with (first | ((with_reducible refine gate_callee (f := 54) rfl ?_); refine goesL_ (some 45) rfl rfl Tryd.func54 (by kernel_rfl) rfl #[.slice (some ad200) l0.length c0, .int .i64 (rd t202 x9_1), .int .i64 (wrap64 (a2 - x7_1))] rfl lz ?_; (with_reducible refine (ih k1 (by have := HK1.out; omega) _ _ l0 (rd t202 x9_1) (wrap64 (a2 - x7_1)) t206 _ ?side1 ?side2 A13.out).mono ?_); (case side1 => exact cz (Kd.C_below HR0.out HB.out)); (case side2 => exact HC0.out); rintro e w15 ⟨rfl, hb⟩; refine ⟨_, rfl, ?_⟩; replace HO_8 := qz HO_8 hb; replace HB := Aside0.mk (below_step (bz0 HB.out) hb); (try clear hb); (try clear hi)))
      go_roundg k1
      case measure => have := HK1.out; omega
      case rel => exact ⟨(wrap64 (x7_1 + t206)), (wrap64 (x9_1 + 1)), ez, ez, H', ⟨by have := HK1.out; omega⟩, ⟨by refine rq ?_; exact HO_8.out⟩, ⟨(bz0 HB.out)⟩⟩
     ·rw [if_neg c11] at H
      have c11b0 := decide_eq_false c11
      clear c11
      obtain ⟨ji16, hji16⟩ : ∃ j_ : Int, (mn x7_1 (wrap64 (a2 + 1))) = j_ := ⟨_, rfl⟩
      replace H : (some ji16) = some r := by first | (rw [hji16] at H; exact H) | (simp only [hji16] at H ⊢; exact H)
      have hji16_ : (if (wrap64 (a2 + 1)) < x7_1 then (wrap64 (a2 + 1)) else x7_1) = ji16 := hji16
      obtain rfl := Option.some.inj H
      obtain ⟨Ao17, co17, eo17⟩ := Kd.R_slice HO_8.out
      subst eo17
      go_wp2
      go_ret
      exact ⟨by first | rfl | (simp [errW_none, errW_some] <;> rfl) | (simp only [<- hji16]; first | rfl | (simp [errW_none, errW_some] <;> rfl)) | (simp [*, errW_none, errW_some] <;> rfl), (bz0 HB.out)⟩
    ·rw [if_neg c10] at H
     have c10b0 := decide_eq_false c10
     clear c10
     obtain ⟨ji18, hji18⟩ : ∃ j_ : Int, (mn x7_1 (wrap64 (a2 + 1))) = j_ := ⟨_, rfl⟩
     replace H : (some ji18) = some r := by first | (rw [hji18] at H; exact H) | (simp only [hji18] at H ⊢; exact H)
     have hji18_ : (if (wrap64 (a2 + 1)) < x7_1 then (wrap64 (a2 + 1)) else x7_1) = ji18 := hji18
     obtain rfl := Option.some.inj H
     obtain ⟨Ao19, co19, eo19⟩ := Kd.R_slice HO_8.out
     subst eo19
     go_wp2
     go_ret
     exact ⟨by first | rfl | (simp [errW_none, errW_some] <;> rfl) | (simp only [<- hji18]; first | rfl | (simp [errW_none, errW_some] <;> rfl)) | (simp [*, errW_none, errW_some] <;> rfl), (bz0 HB.out)⟩
def spec_SizeOf.f (k : Nat) (l0 : List (S55)) (a1 : Int) : Option (Int) := (spec_TableOk.f k l0).bind fun t207 => (if t207 = true then ((spec_l1In.f a1 0 (wrap64 ((l0.length : Int) - 1))).bind fun t208 => (if t208 = true then ((spec_l8Size.f k l0 a1 60).bind fun t209 => (some t209)) else (some 0))) else (some 0))
theorem spec_SizeOf.mono : ∀ a0 a1 k, LeO (spec_SizeOf.f k a0 a1) (spec_SizeOf.f (k + 1) a0 a1) := by
 intro a0 a1 k
 unfold spec_SizeOf.f
 with_reducible repeat' first | exact spec_TableOk.mono _ _ | exact spec_l8Size.mono _ _ _ _ | exact lrz _ | exact lnz _ | refine liz ?_ ?_ | refine lbz ?_ fun _ => ?_
set_option maxHeartbeats 8000000 in
set_option maxRecDepth 100000 in
theorem spec_SizeOf.calls (k : Nat) (A0 : Option Addr) (c0 : Nat) (l0 : List (S55)) (a1 : Int) (r : Int) (w : World) (hr0 : Kd.C k55 w A0 l0.length l0) (hc0 : l0.length <= c0) (h : spec_SizeOf.f k l0 a1 = some r) :
  Calls Tryd.prog 22 #[.slice A0 l0.length c0, .int .i64 a1] w fun e w' => e = .returned (.int .i64 r) /\ Below w.heap.size w w' := by
 have HR0 := Aside0.mk hr0
 have HC0 := Aside0.mk hc0
 clear hr0 hc0
 have HB := Aside0.mk (Below.refl w.heap.size w)
 have H : ((spec_TableOk.f k l0).bind fun t207 => (if t207 = true then ((spec_l1In.f a1 0 (wrap64 ((l0.length : Int) - 1))).bind fun t208 => (if t208 = true then ((spec_l8Size.f k l0 a1 60).bind fun t209 => (some t209)) else (some 0))) else (some 0))) = some r := h
 clear h
 replace H := bi H
 obtain ⟨t207, A30, H⟩ := H
 try dsimp only at H
 have A3 := Aside0.mk A30
 clear A30
 by_cases c4 : t207 = true
 ·subst c4
  have H1 := hp H
  clear H
  have H := H1
  clear H1
  replace H := bi H
  obtain ⟨t208, A50, H⟩ := H
  try dsimp only at H
  have A5 := Aside0.mk A50
  clear A50
  by_cases c6 : t208 = true
  ·subst c6
   have H1 := hp H
   clear H
   have H := H1
   clear H1
   replace H := bi H
   obtain ⟨t209, A70, H⟩ := H
   try dsimp only at H
   have A7 := Aside0.mk A70
   clear A70
   obtain rfl := Option.some.inj H
   go_enter Tryd.func22, Tryd.ntmps22
   go_wp2_with (first | ((with_reducible refine gate_callee (f := 24) rfl ?_); refine goesL_ (some 6) rfl rfl Tryd.func24 (by kernel_rfl) rfl #[.slice A0 l0.length c0] rfl lz ?_; (with_reducible refine (spec_TableOk.calls k _ _ l0 true _ ?side1 ?side2 A3.out).mono ?_); (case side1 => repeat (first | exact HR0.out | (with_reducible refine Kd.C_alloc ?_ _) | (with_reducible refine Kd.C_drewN ?_ _) | (with_reducible refine Kd.C_drew ?_))); (case side2 => exact HC0.out); rintro e w8 ⟨rfl, hb⟩; refine ⟨_, rfl, ?_⟩; replace HB := Aside0.mk (below_step (bz0 HB.out) hb); (try clear hb); (try clear hi)) | (go_at_call 44; (with_reducible refine (spec_l1In.calls a1 0 (wrap64 ((l0.length : Int) - 1)) true _ A5.out).mono ?_); rintro e w' ⟨rfl, ⟨nd, rfl⟩⟩) | ((with_reducible refine gate_callee (f := 54) rfl ?_); refine goesL_ (some 18) rfl rfl Tryd.func54 (by kernel_rfl) rfl #[.slice A0 l0.length c0, .int .i64 a1, .int .i64 60] rfl lz ?_; (with_reducible refine (spec_l8Size.calls k _ _ l0 a1 60 t209 _ ?side1 ?side2 A7.out).mono ?_); (case side1 => exact cz (Kd.C_below HR0.out (bz0 HB.out))); (case side2 => exact HC0.out); rintro e w9 ⟨rfl, hb⟩; refine ⟨_, rfl, ?_⟩; replace HB := Aside0.mk (below_step (bz0 HB.out) hb); (try clear hb); (try clear hi)))
   go_ret
   exact ⟨gz, (bz0 HB.out)⟩
  ·replace c6 := Bool.eq_false_iff.mpr c6
   subst c6
   have H1 := hq H
   clear H
   have H := H1
   clear H1
   obtain rfl := Option.some.inj H
   go_enter Tryd.func22, Tryd.ntmps22
   go_wp2_with (first | ((with_reducible refine gate_callee (f := 24) rfl ?_); refine goesL_ (some 6) rfl rfl Tryd.func24 (by kernel_rfl) rfl #[.slice A0 l0.length c0] rfl lz ?_; (with_reducible refine (spec_TableOk.calls k _ _ l0 true _ ?side1 ?side2 A3.out).mono ?_); (case side1 => repeat (first | exact HR0.out | (with_reducible refine Kd.C_alloc ?_ _) | (with_reducible refine Kd.C_drewN ?_ _) | (with_reducible refine Kd.C_drew ?_))); (case side2 => exact HC0.out); rintro e w10 ⟨rfl, hb⟩; refine ⟨_, rfl, ?_⟩; replace HB := Aside0.mk (below_step (bz0 HB.out) hb); (try clear hb); (try clear hi)) | (go_at_call 44; (with_reducible refine (spec_l1In.calls a1 0 (wrap64 ((l0.length : Int) - 1)) false _ A5.out).mono ?_); rintro e w' ⟨rfl, ⟨nd, rfl⟩⟩))
   go_ret
   exact ⟨gz, (bz0 HB.out)⟩
 ·replace c4 := Bool.eq_false_iff.mpr c4
  subst c4
  have H1 := hq H
  clear H
  have H := H1
  clear H1
  obtain rfl := Option.some.inj H
  go_enter Tryd.func22, Tryd.ntmps22
  go_wp2_with (first | ((with_reducible refine gate_callee (f := 24) rfl ?_); refine goesL_ (some 6) rfl rfl Tryd.func24 (by kernel_rfl) rfl #[.slice A0 l0.length c0] rfl lz ?_; (with_reducible refine (spec_TableOk.calls k _ _ l0 false _ ?side1 ?side2 A3.out).mono ?_); (case side1 => repeat (first | exact HR0.out | (with_reducible refine Kd.C_alloc ?_ _) | (with_reducible refine Kd.C_drewN ?_ _) | (with_reducible refine Kd.C_drew ?_))); (case side2 => exact HC0.out); rintro e w11 ⟨rfl, hb⟩; refine ⟨_, rfl, ?_⟩; replace HB := Aside0.mk (below_step (bz0 HB.out) hb); (try clear hb); (try clear hi)))
  go_ret
  exact ⟨gz, (bz0 HB.out)⟩
def strconv_Itoa_49.f (a0 : Int) : Option (ByteArray) := if -9223372036854775808 <= a0 then (if a0 <= 9223372036854775807 then (some (⟨(Lib.itoa a0).toArray⟩ : ByteArray)) else (none)) else (none)
theorem strconv_Itoa_49.calls (a0 : Int) (r : ByteArray) (w : World) (h : strconv_Itoa_49.f a0 = some r) (hT_ : PW w) :
  Calls Tryd.prog 49 #[.int .i64 a0] w fun e w' => e = .returned (.string r) /\ Below w.heap.size w w' := by
 unfold strconv_Itoa_49.f at h
 split at h
 ·split at h
  ·rename_i h0 h1
   obtain rfl := Option.some.inj h
   exact (Tryd.strconv_Itoa a0 h0 h1 w hT_.tab).mono fun e w' ⟨h1, n, os, h2⟩ => ⟨h1, by rw [h2]; exact below_grow _ _ _⟩
  ·cases h
 ·cases h
def impl_Dec.f (a0 : Int) : Option (ByteArray) := (strconv_Itoa_49.f a0).bind fun t210 => (some t210)
set_option maxHeartbeats 8000000 in
set_option maxRecDepth 100000 in
theorem impl_Dec.calls (a0 : Int) (r : ByteArray) (w : World) (h : impl_Dec.f a0 = some r) (hT_ : PW w) :
  Calls Tryd.prog 18 #[.int .i64 a0] w fun e w' => e = .returned (.string r) /\ Below w.heap.size w w' := by
 have HB := Aside0.mk (Below.refl w.heap.size w)
 have H : ((strconv_Itoa_49.f a0).bind fun t210 => (some t210)) = some r := h
 clear h
 replace H := bi H
 obtain ⟨t210, A20, H⟩ := H
 try dsimp only at H
 have A2 := Aside0.mk A20
 clear A20
 obtain rfl := Option.some.inj H
 go_enter Tryd.func18, Tryd.ntmps18
 go_wp2_with (first | ((with_reducible refine gate_callee (f := 49) rfl ?_); refine goesL_ (some 4) rfl rfl Tryd.func49 (by kernel_rfl) rfl #[.int .i64 a0] rfl lz ?_; (with_reducible refine (strconv_Itoa_49.calls a0 t210 _ A2.out ?hT_).mono ?_); (case hT_ => exact PW.below hT_ (bz0 HB.out)); rintro e w3 ⟨rfl, hb⟩; refine ⟨_, rfl, ?_⟩; replace HB := Aside0.mk (below_step (bz0 HB.out) hb); (try clear hb); (try clear hi)))
 go_ret
 exact ⟨gz, (bz0 HB.out)⟩
end Go.Proofs.YtlhofeikcaejpaaDoor.PFnUnified
