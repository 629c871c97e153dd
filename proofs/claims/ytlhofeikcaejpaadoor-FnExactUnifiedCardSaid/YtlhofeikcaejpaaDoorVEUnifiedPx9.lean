/- PFnExactUnifiedx9, of the words and walks that the law FnExactUnified needs; made by this session's program out of printed texts. -/

import Derived.Test.YtlhofeikcaejpaaDoorVEUnifiedPx0
import Derived.Test.YtlhofeikcaejpaaDoorVEUnifiedPx7
import Derived.Test.YtlhofeikcaejpaaDoorVEUnifiedPx8
namespace Go.Proofs.YtlhofeikcaejpaaDoor.PFnExactUnified
open Go.RowKit Go.Proofs.YtlhofeikcaejpaaDoorW.PrintWords Go.Proofs.YtlhofeikcaejpaaDoorW.PrintLast Go.Proofs.YtlhofeikcaejpaaDoorW.PrintMore
attribute [local go_sem] max2_int min2_int max_two min_two max_three min_three max_four min_four
set_option linter.unusedVariables false
set_option linter.unusedSimpArgs false
def spec_l8Find.l0 : Nat -> List (S55) -> Int -> Option (Int)
 | 0, _, _ => none
 | k + 1, x0, x1 => if 0 <= x1 then (if x1 < (x0.length : Int) then (if ((rd_T55 x0 x1).f0) = 0 then (if ((rd_T55 x0 x1).f1) ≥ 0 then (spec_l8Find.l0 k x0 ((rd_T55 x0 x1).f1)) else (some x1)) else (some x1)) else (none)) else (none)
def spec_l8Find.f (k : Nat) (l0 : List (S55)) (a1 : Int) : Option (Int) := spec_l8Find.l0 k l0 a1
theorem spec_l8Find.mono_l : ∀ k, (∀ y0 y1, LeO (spec_l8Find.l0 k y0 y1) (spec_l8Find.l0 (k + 1) y0 y1))
 | 0 => fun _ _ r h => by simp [spec_l8Find.l0] at h
 | k + 1 => by
  have ih0 := spec_l8Find.mono_l k
  ·intro y0 y1
   unfold spec_l8Find.l0
   with_reducible repeat' first | exact ih0 _ _ | exact lrz _ | exact lnz _ | refine liz ?_ ?_ | refine lbz ?_ fun _ => ?_
theorem spec_l8Find.mono : ∀ a0 a1 k, LeO (spec_l8Find.f k a0 a1) (spec_l8Find.f (k + 1) a0 a1) := by
 intro a0 a1 k
 have ih0 := spec_l8Find.mono_l k
 unfold spec_l8Find.f
 with_reducible repeat' first | exact ih0 _ _ | exact lrz _ | exact lnz _ | refine liz ?_ ?_ | refine lbz ?_ fun _ => ?_
set_option maxHeartbeats 8000000 in
set_option maxRecDepth 100000 in
theorem spec_l8Find.calls (k : Nat) (A0 : Option Addr) (c0 : Nat) (l0 : List (S55)) (a1 : Int) (r : Int) (w : World) (hr0 : Kd.C k55 w A0 l0.length l0) (hc0 : l0.length <= c0) (h : spec_l8Find.f k l0 a1 = some r) :
  Calls Tryd.prog 81 #[.slice A0 l0.length c0, .int .i64 a1] w fun e w' => e = .returned (.int .i64 r) /\ Drawn0 w w' := by
 have HR0 := Aside0.mk hr0
 have HC0 := Aside0.mk hc0
 clear hr0 hc0
 have H : (spec_l8Find.l0 k l0 a1) = some r := h
 clear h
 have H' := Aside0.mk H
 clear H
 go_enter Tryd.func81, Tryd.ntmps81
 go_wp2
 go_loopg [1] k (fun kq v1 w' => ∃ (x1_1 : Int), v1 = .int .i64 x1_1 /\ Aside0 (spec_l8Find.l0 kq l0 x1_1 = some r) /\ Aside0 (kq <= k) /\ Drawn0 w w')
 case atStart => exact ⟨(a1), ez, H', ⟨Nat.le_refl _⟩, dz⟩
 case round =>
  clear H'
  try clear p2
  obtain ⟨x1_1, rfl, HA, HK1, ⟨m1, rfl⟩⟩ := hrel
  cases gk with
  | zero => exact absurd HA.out (by simp [spec_l8Find.l0])
  | succ k1 =>
   have H := HA.out
   clear HA
   simp only [spec_l8Find.l0] at H
   replace H := iz H
   obtain ⟨c3, H⟩ := H
   have c3b0 := decide_eq_true c3
   clear c3
   replace H := iz H
   obtain ⟨c4, H⟩ := H
   have c4b0 := decide_eq_true c4
   clear c4
   by_cases c5 : ((rd_T55 l0 x1_1).f0) = 0
   ·rw [if_pos c5] at H
    have c5b0 : (((rd_T55 l0 x1_1).f0) == 0) = true := beq_iff_eq.mpr c5
    have c5b1 : (((rd_T55 l0 x1_1).f0) != 0) = false := bne_eq_false_iff_eq.mpr c5
    clear c5
    by_cases c6 : ((rd_T55 l0 x1_1).f1) ≥ 0
    ·rw [if_pos c6] at H
     have c6b0 : decide (0 <= ((rd_T55 l0 x1_1).f1)) = true := decide_eq_true c6
     clear c6
     have H' := Aside0.mk H
     clear H
     have p213 : 0 <= (x1_1 : Int) := oz
     have q213 : x1_1 < (l0.length : Int) := oz
     obtain ⟨ad213, e213, hx213_0, hx213_1, hx213_2⟩ := at_T55 HR0.out x1_1 p213 q213
     cases e213
     replace p213 := eq_true p213
     replace q213 := eq_true q213
     have p214 : 0 <= (x1_1 : Int) := oz
     have q214 : x1_1 < (l0.length : Int) := oz
     obtain ⟨ad214, e214, hx214_0, hx214_1, hx214_2⟩ := at_T55 HR0.out x1_1 p214 q214
     obtain rfl : ad213 = ad214 := (by injection e214)
     replace p214 := eq_true p214
     replace q214 := eq_true q214
     have p215 : 0 <= (x1_1 : Int) := oz
     have q215 : x1_1 < (l0.length : Int) := oz
     obtain ⟨ad215, e215, hx215_0, hx215_1, hx215_2⟩ := at_T55 HR0.out x1_1 p215 q215
     obtain rfl : ad213 = ad215 := (by injection e215)
     replace p215 := eq_true p215
     replace q215 := eq_true q215
     go_wp2
     go_roundg k1
     case measure => have := HK1.out; omega
     case rel => exact ⟨((rd_T55 l0 x1_1).f1), ez, H', ⟨by have := HK1.out; omega⟩, dz⟩
    ·rw [if_neg c6] at H
     have c6b0 : decide (0 <= ((rd_T55 l0 x1_1).f1)) = false := decide_eq_false c6
     clear c6
     obtain rfl := Option.some.inj H
     have p213 : 0 <= (x1_1 : Int) := oz
     have q213 : x1_1 < (l0.length : Int) := oz
     obtain ⟨ad213, e213, hx213_0, hx213_1, hx213_2⟩ := at_T55 HR0.out x1_1 p213 q213
     cases e213
     replace p213 := eq_true p213
     replace q213 := eq_true q213
     have p214 : 0 <= (x1_1 : Int) := oz
     have q214 : x1_1 < (l0.length : Int) := oz
     obtain ⟨ad214, e214, hx214_0, hx214_1, hx214_2⟩ := at_T55 HR0.out x1_1 p214 q214
     obtain rfl : ad213 = ad214 := (by injection e214)
     replace p214 := eq_true p214
     replace q214 := eq_true q214
     go_wp2
     go_ret
     exact ⟨e2z, dz⟩
   ·rw [if_neg c5] at H
    have c5b0 : (((rd_T55 l0 x1_1).f0) == 0) = false := beq_eq_false_iff_ne.mpr c5
    have c5b1 : (((rd_T55 l0 x1_1).f0) != 0) = true := bne_iff_ne.mpr c5
    obtain rfl := Option.some.inj H
    have p213 : 0 <= (x1_1 : Int) := oz
    have q213 : x1_1 < (l0.length : Int) := oz
    obtain ⟨ad213, e213, hx213_0, hx213_1, hx213_2⟩ := at_T55 HR0.out x1_1 p213 q213
    cases e213
    replace p213 := eq_true p213
    replace q213 := eq_true q213
    go_wp2
    go_ret
    exact ⟨e2z, dz⟩
mutual
def spec_l8Size.l0 : Nat -> List (S55) -> Int -> Int -> List Int -> Int -> Option (Int)
 | 0, _, _, _, _, _ => none
 | k + 1, x0, x2, x7, x8, x9 => if x9 < (x8.length : Int) then (if x7 <= x2 then (if 0 <= x9 then ((spec_l8Size.f k x0 (rd x8 x9) (wrap64 (x2 - x7))).bind fun t223 => (spec_l8Size.l0 k x0 x2 (wrap64 (x7 + t223)) x8 (wrap64 (x9 + 1)))) else (none)) else (some (mn x7 (wrap64 (x2 + 1))))) else (some (mn x7 (wrap64 (x2 + 1))))
def spec_l8Size.f : Nat -> List (S55) -> Int -> Int -> Option (Int)
 | 0, _, _, _ => none
 | k + 1, l0, a1, a2 => (spec_l8Find.f k l0 a1).bind fun t216 => (if 0 <= t216 then (if t216 < (l0.length : Int) then (if ((rd_T55 l0 t216).f0) = 0 then (some 1) else ((spec_l8Kids.f k ((rd_T55 l0 t216).f0) ((rd_T55 l0 t216).f1) ((rd_T55 l0 t216).f2)).bind fun t219 => (spec_l8Size.l0 k l0 a2 1 t219 0))) else (none)) else (none))
end
theorem spec_l8Size.mono_l : ∀ k, (∀ y0 y1 y2, LeO (spec_l8Size.f k y0 y1 y2) (spec_l8Size.f (k + 1) y0 y1 y2)) /\ (∀ y0 y1 y2 y3 y4, LeO (spec_l8Size.l0 k y0 y1 y2 y3 y4) (spec_l8Size.l0 (k + 1) y0 y1 y2 y3 y4))
 | 0 => ⟨fun _ _ _ r h => by simp [spec_l8Size.f] at h, fun _ _ _ _ _ r h => by simp [spec_l8Size.l0] at h⟩
 | k + 1 => by
  obtain ⟨ih0, ih1⟩ := spec_l8Size.mono_l k
  refine ⟨?_, ?_⟩
  ·intro y0 y1 y2
   unfold spec_l8Size.f
   with_reducible repeat' first | exact ih0 _ _ _ | exact ih1 _ _ _ _ _ | exact spec_l8Find.mono _ _ _ | exact spec_l8Kids.mono _ _ _ _ | exact lrz _ | exact lnz _ | refine liz ?_ ?_ | refine lbz ?_ fun _ => ?_
  ·intro y0 y1 y2 y3 y4
   unfold spec_l8Size.l0
   with_reducible repeat' first | exact ih0 _ _ _ | exact ih1 _ _ _ _ _ | exact spec_l8Find.mono _ _ _ | exact spec_l8Kids.mono _ _ _ _ | exact lrz _ | exact lnz _ | refine liz ?_ ?_ | refine lbz ?_ fun _ => ?_
theorem spec_l8Size.mono : ∀ a0 a1 a2 k, LeO (spec_l8Size.f k a0 a1 a2) (spec_l8Size.f (k + 1) a0 a1 a2) := by
 intro a0 a1 a2 k
 obtain ⟨ih0, ih1⟩ := spec_l8Size.mono_l k
 exact ih0 a0 a1 a2
set_option maxHeartbeats 8000000 in
set_option maxRecDepth 100000 in
theorem spec_l8Size.calls (k : Nat) : ∀ (A0 : Option Addr) (c0 : Nat) (l0 : List (S55)) (a1 : Int) (a2 : Int) (r : Int) (w : World) (hr0 : Kd.C k55 w A0 l0.length l0) (hc0 : l0.length <= c0) (h : spec_l8Size.f k l0 a1 a2 = some r),
  Calls Tryd.prog 54 #[.slice A0 l0.length c0, .int .i64 a1, .int .i64 a2] w fun e w' => e = .returned (.int .i64 r) /\ Below w.heap.size w w' := by
 induction k using Nat.strongRecOn with
 | _ k ih =>
 intro A0 c0 l0 a1 a2 r w hr0 hc0 h
 cases k with
 | zero => exact absurd h (by simp [spec_l8Size.f])
 | succ k =>
 simp only [spec_l8Size.f] at h
 have hu55 := Tryd.underlying55
 have HR0 := Aside0.mk hr0
 have HC0 := Aside0.mk hc0
 clear hr0 hc0
 have HB := Aside0.mk (Below.refl w.heap.size w)
 have H : ((spec_l8Find.f k l0 a1).bind fun t216 => (if 0 <= t216 then (if t216 < (l0.length : Int) then (if ((rd_T55 l0 t216).f0) = 0 then (some 1) else ((spec_l8Kids.f k ((rd_T55 l0 t216).f0) ((rd_T55 l0 t216).f1) ((rd_T55 l0 t216).f2)).bind fun t219 => (spec_l8Size.l0 k l0 a2 1 t219 0))) else (none)) else (none))) = some r := h
 clear h
 replace H := bi H
 obtain ⟨t216, A40, H⟩ := H
 try dsimp only at H
 have A4 := Aside0.mk A40
 clear A40
 replace H := iz H
 obtain ⟨c5, H⟩ := H
 have c5b0 := decide_eq_true c5
 clear c5
 replace H := iz H
 obtain ⟨c6, H⟩ := H
 have c6b0 := decide_eq_true c6
 clear c6
 by_cases c7 : ((rd_T55 l0 t216).f0) = 0
 ·rw [if_pos c7] at H
  have c7b0 : (((rd_T55 l0 t216).f0) == 0) = true := beq_iff_eq.mpr c7
  have c7b1 : (((rd_T55 l0 t216).f0) != 0) = false := bne_eq_false_iff_eq.mpr c7
  clear c7
  obtain rfl := Option.some.inj H
  go_enter Tryd.func54, Tryd.ntmps54
  go_wp2_with (first | ((with_reducible refine gate_callee (f := 81) rfl ?_); refine goesL_ (some 12) rfl rfl Tryd.func81 (by kernel_rfl) rfl #[.slice A0 l0.length c0, .int .i64 a1] rfl lz ?_; (with_reducible refine (spec_l8Find.calls k _ _ l0 a1 t216 _ ?side1 ?side2 A4.out).mono ?_); (case side1 => repeat (first | exact HR0.out | (with_reducible refine Kd.C_alloc ?_ _) | (with_reducible refine Kd.C_drewN ?_ _) | (with_reducible refine Kd.C_drew ?_))); (case side2 => exact HC0.out); rintro e w' ⟨rfl, ⟨nd, rfl⟩⟩; refine ⟨_, rfl, ?_⟩; have p217 : 0 <= (t216 : Int) := oz; have q217 : t216 < (l0.length : Int) := oz; obtain ⟨ad217, e217, hx217_0, hx217_1, hx217_2⟩ := at_T55 HR0.out t216 p217 q217; cases e217; replace p217 := eq_true p217; replace q217 := eq_true q217))
  go_ret
  exact ⟨gz, (bz0 HB.out)⟩
 ·rw [if_neg c7] at H
  have c7b0 : (((rd_T55 l0 t216).f0) == 0) = false := beq_eq_false_iff_ne.mpr c7
  have c7b1 : (((rd_T55 l0 t216).f0) != 0) = true := bne_iff_ne.mpr c7
  replace H := bi H
  obtain ⟨t219, A80, H⟩ := H
  try dsimp only at H
  have A8 := Aside0.mk A80
  clear A80
  have H' := Aside0.mk H
  clear H
  go_enter Tryd.func54, Tryd.ntmps54
  go_wp2_with (first | ((with_reducible refine gate_callee (f := 81) rfl ?_); refine goesL_ (some 12) rfl rfl Tryd.func81 (by kernel_rfl) rfl #[.slice A0 l0.length c0, .int .i64 a1] rfl lz ?_; (with_reducible refine (spec_l8Find.calls k _ _ l0 a1 t216 _ ?side1 ?side2 A4.out).mono ?_); (case side1 => repeat (first | exact HR0.out | (with_reducible refine Kd.C_alloc ?_ _) | (with_reducible refine Kd.C_drewN ?_ _) | (with_reducible refine Kd.C_drew ?_))); (case side2 => exact HC0.out); rintro e w' ⟨rfl, ⟨nd, rfl⟩⟩; refine ⟨_, rfl, ?_⟩; have p217 : 0 <= (t216 : Int) := oz; have q217 : t216 < (l0.length : Int) := oz; obtain ⟨ad217, e217, hx217_0, hx217_1, hx217_2⟩ := at_T55 HR0.out t216 p217 q217; cases e217; replace p217 := eq_true p217; replace q217 := eq_true q217; have p218 : 0 <= (t216 : Int) := oz; have q218 : t216 < (l0.length : Int) := oz; obtain ⟨ad218, e218, hx218_0, hx218_1, hx218_2⟩ := at_T55 HR0.out t216 p218 q218; obtain rfl : ad217 = ad218 := (by injection e218); replace p218 := eq_true p218; replace q218 := eq_true q218) | ((with_reducible refine gate_callee (f := 56) rfl ?_); refine goesL_ (some 24) rfl rfl Tryd.func56 (by kernel_rfl) rfl #[.agg #[.int .i64 ((rd_T55 l0 t216).f0), .int .i64 ((rd_T55 l0 t216).f1), .int .i64 ((rd_T55 l0 t216).f2)]] rfl lz ?_; (with_reducible refine (spec_l8Kids.calls k ((rd_T55 l0 t216).f0) ((rd_T55 l0 t216).f1) ((rd_T55 l0 t216).f2) t219 _ A8.out).mono ?_); rintro e w9 ⟨v220, rfl, ho0, hb⟩; refine ⟨_, rfl, ?_⟩; have HO221 := Aside0.mk (Kd.R_lower ho0 (below_size (bz0 HB.out))); replace HB := Aside0.mk (below_step (bz0 HB.out) hb); (try clear hb); (try clear ho0)))
  go_loopg [7, 9] k (fun kq v7 v9 w' => ∃ (x7_1 : Int) (x9_1 : Int), v7 = .int .i64 x7_1 /\ v9 = .int .i64 x9_1 /\ Aside0 (spec_l8Size.l0 kq l0 a2 x7_1 t219 x9_1 = some r) /\ Aside0 (kq <= k) /\ Aside0 (Kd.R (Kd.int .i64) 3 w' w.heap.size (fun _ => True) v220 t219) /\ Aside0 (Below w.heap.size w w'))
  case atStart => exact ⟨(1), (0), ez, ez, H', ⟨Nat.le_refl _⟩, ⟨by refine rq ?_; exact HO221.out⟩, ⟨(bz0 HB.out)⟩⟩
  case round =>
   clear H'
   try clear p2
   try clear q2
   try clear hx2
   try clear c5
   try clear c5b0
   try clear c6
   try clear c6b0
   try clear c7
   try clear c7b0
   try clear c7b1
   try clear c8
   try clear hx217_0
   try clear hx217_1
   try clear hx217_2
   try clear hx218_0
   try clear hx218_1
   try clear hx218_2
   try clear p217
   try clear p218
   try clear q217
   try clear q218
   obtain ⟨x7_1, x9_1, rfl, rfl, HA, HK1, HO_8, HB⟩ := hrel
   cases gk with
   | zero => exact absurd HA.out (by simp [spec_l8Size.l0])
   | succ k1 =>
    have H := HA.out
    clear HA
    simp only [spec_l8Size.l0] at H
    by_cases c10 : x9_1 < (t219.length : Int)
    ·rw [if_pos c10] at H
     have c10b0 := decide_eq_true c10
     clear c10
     by_cases c11 : x7_1 <= a2
     ·rw [if_pos c11] at H
      have c11b0 := decide_eq_true c11
      clear c11
      replace H := iz H
      obtain ⟨c12, H⟩ := H
      have c12b0 := decide_eq_true c12
      clear c12
      replace H := bi H
      obtain ⟨t223, A130, H⟩ := H
      try dsimp only at H
      have A13 := Aside0.mk A130
      clear A130
      have H' := Aside0.mk H
      clear H
      obtain ⟨Ao14, co14, eo14⟩ := Kd.R_slice HO_8.out
      subst eo14
      have p222 : 0 <= (x9_1 : Int) := oz
      have q222 : x9_1 < (t219.length : Int) := oz
      obtain ⟨ad222, e222, hx222_0⟩ := Kd.at_int (Kd.R_reads' HO_8.out).2.2 x9_1 p222 q222
      cases e222
      replace p222 := eq_true p222
      replace q222 := eq_true q222
      go_wp2_with (first | ((with_reducible refine gate_callee (f := 54) rfl ?_); refine goesL_ (some 45) rfl rfl Tryd.func54 (by kernel_rfl) rfl #[.slice (some ad217) l0.length c0, .int .i64 (rd t219 x9_1), .int .i64 (wrap64 (a2 - x7_1))] rfl lz ?_; (with_reducible refine (ih k1 (by have := HK1.out; omega) _ _ l0 (rd t219 x9_1) (wrap64 (a2 - x7_1)) t223 _ ?side1 ?side2 A13.out).mono ?_); (case side1 => exact cz (Kd.C_below HR0.out HB.out)); (case side2 => exact HC0.out); rintro e w15 ⟨rfl, hb⟩; refine ⟨_, rfl, ?_⟩; replace HO_8 := qz HO_8 hb; replace HB := Aside0.mk (below_step (bz0 HB.out) hb); (try clear hb); (try clear hi)))
      go_roundg k1
      case measure => have := HK1.out; omega
      case rel => exact ⟨(wrap64 (x7_1 + t223)), (wrap64 (x9_1 + 1)), ez, ez, H', ⟨by have := HK1.out; omega⟩, ⟨by refine rq ?_; exact HO_8.out⟩, ⟨(bz0 HB.out)⟩⟩
     ·rw [if_neg c11] at H
      have c11b0 := decide_eq_false c11
      clear c11
      obtain ⟨ji16, hji16⟩ : ∃ j_ : Int, (mn x7_1 (wrap64 (a2 + 1))) = j_ := ⟨_, rfl⟩
      replace H : (some ji16) = some r := by first | (rw [hji16] at H; exact H) | (simp only [hji16] at H ⊢; exact H)
      have hji16_ : (if (wrap64 (a2 + 1)) < x7_1 then (wrap64 (a2 + 1)) else x7_1) = ji16 := hji16
      obtain rfl := Option.some.inj H
      obtain ⟨Ao17, co17, eo17⟩ := Kd.R_slice HO_8.out
      subst eo17
      go_wp2
      go_ret
      exact ⟨by first | rfl | (simp [errW_none, errW_some] <;> rfl) | (simp only [<- hji16]; first | rfl | (simp [errW_none, errW_some] <;> rfl)) | (simp [*, errW_none, errW_some] <;> rfl), (bz0 HB.out)⟩
    ·rw [if_neg c10] at H
     have c10b0 := decide_eq_false c10
     clear c10
     obtain ⟨ji18, hji18⟩ : ∃ j_ : Int, (mn x7_1 (wrap64 (a2 + 1))) = j_ := ⟨_, rfl⟩
     replace H : (some ji18) = some r := by first | (rw [hji18] at H; exact H) | (simp only [hji18] at H ⊢; exact H)
     have hji18_ : (if (wrap64 (a2 + 1)) < x7_1 then (wrap64 (a2 + 1)) else x7_1) = ji18 := hji18
     obtain rfl := Option.some.inj H
     obtain ⟨Ao19, co19, eo19⟩ := Kd.R_slice HO_8.out
     subst eo19
     go_wp2
     go_ret
     exact ⟨by first | rfl | (simp [errW_none, errW_some] <;> rfl) | (simp only [<- hji18]; first | rfl | (simp [errW_none, errW_some] <;> rfl)) | (simp [*, errW_none, errW_some] <;> rfl), (bz0 HB.out)⟩
def spec_SizeOf.f (k : Nat) (l0 : List (S55)) (a1 : Int) : Option (Int) := (spec_TableOk.f k l0).bind fun t224 => (if t224 = true then ((spec_l1In.f a1 0 (wrap64 ((l0.length : Int) - 1))).bind fun t225 => (if t225 = true then ((spec_l8Size.f k l0 a1 60).bind fun t226 => (some t226)) else (some 0))) else (some 0))
theorem spec_SizeOf.mono : ∀ a0 a1 k, LeO (spec_SizeOf.f k a0 a1) (spec_SizeOf.f (k + 1) a0 a1) := by
 intro a0 a1 k
 unfold spec_SizeOf.f
 with_reducible repeat' first | exact spec_TableOk.mono _ _ | exact spec_l8Size.mono _ _ _ _ | exact lrz _ | exact lnz _ | refine liz ?_ ?_ | refine lbz ?_ fun _ => ?_
set_option maxHeartbeats 8000000 in
set_option maxRecDepth 100000 in
theorem spec_SizeOf.calls (k : Nat) (A0 : Option Addr) (c0 : Nat) (l0 : List (S55)) (a1 : Int) (r : Int) (w : World) (hr0 : Kd.C k55 w A0 l0.length l0) (hc0 : l0.length <= c0) (h : spec_SizeOf.f k l0 a1 = some r) :
  Calls Tryd.prog 22 #[.slice A0 l0.length c0, .int .i64 a1] w fun e w' => e = .returned (.int .i64 r) /\ Below w.heap.size w w' := by
 have HR0 := Aside0.mk hr0
 have HC0 := Aside0.mk hc0
 clear hr0 hc0
 have HB := Aside0.mk (Below.refl w.heap.size w)
 have H : ((spec_TableOk.f k l0).bind fun t224 => (if t224 = true then ((spec_l1In.f a1 0 (wrap64 ((l0.length : Int) - 1))).bind fun t225 => (if t225 = true then ((spec_l8Size.f k l0 a1 60).bind fun t226 => (some t226)) else (some 0))) else (some 0))) = some r := h
 clear h
 replace H := bi H
 obtain ⟨t224, A30, H⟩ := H
 try dsimp only at H
 have A3 := Aside0.mk A30
 clear A30
 by_cases c4 : t224 = true
 ·subst c4
  have H1 := hp H
  clear H
  have H := H1
  clear H1
  replace H := bi H
  obtain ⟨t225, A50, H⟩ := H
  try dsimp only at H
  have A5 := Aside0.mk A50
  clear A50
  by_cases c6 : t225 = true
  ·subst c6
   have H1 := hp H
   clear H
   have H := H1
   clear H1
   replace H := bi H
   obtain ⟨t226, A70, H⟩ := H
   try dsimp only at H
   have A7 := Aside0.mk A70
   clear A70
   obtain rfl := Option.some.inj H
   go_enter Tryd.func22, Tryd.ntmps22
   go_wp2_with (first | ((with_reducible refine gate_callee (f := 24) rfl ?_); refine goesL_ (some 6) rfl rfl Tryd.func24 (by kernel_rfl) rfl #[.slice A0 l0.length c0] rfl lz ?_; (with_reducible refine (spec_TableOk.calls k _ _ l0 true _ ?side1 ?side2 A3.out).mono ?_); (case side1 => repeat (first | exact HR0.out | (with_reducible refine Kd.C_alloc ?_ _) | (with_reducible refine Kd.C_drewN ?_ _) | (with_reducible refine Kd.C_drew ?_))); (case side2 => exact HC0.out); rintro e w8 ⟨rfl, hb⟩; refine ⟨_, rfl, ?_⟩; replace HB := Aside0.mk (below_step (bz0 HB.out) hb); (try clear hb); (try clear hi)) | (go_at_call 44; (with_reducible refine (spec_l1In.calls a1 0 (wrap64 ((l0.length : Int) - 1)) true _ A5.out).mono ?_); rintro e w' ⟨rfl, ⟨nd, rfl⟩⟩) | ((with_reducible refine gate_callee (f := 54) rfl ?_); refine goesL_ (some 18) rfl rfl Tryd.func54 (by kernel_rfl) rfl #[.slice A0 l0.length c0, .int .i64 a1, .int .i64 60] rfl lz ?_; (with_reducible refine (spec_l8Size.calls k _ _ l0 a1 60 t226 _ ?side1 ?side2 A7.out).mono ?_); (case side1 => exact cz (Kd.C_below HR0.out (bz0 HB.out))); (case side2 => exact HC0.out); rintro e w9 ⟨rfl, hb⟩; refine ⟨_, rfl, ?_⟩; replace HB := Aside0.mk (below_step (bz0 HB.out) hb); (try clear hb); (try clear hi)))
   go_ret
   exact ⟨gz, (bz0 HB.out)⟩
  ·replace c6 := Bool.eq_false_iff.mpr c6
   subst c6
   have H1 := hq H
   clear H
   have H := H1
   clear H1
   obtain rfl := Option.some.inj H
   go_enter Tryd.func22, Tryd.ntmps22
   go_wp2_with (first | ((with_reducible refine gate_callee (f := 24) rfl ?_); refine goesL_ (some 6) rfl rfl Tryd.func24 (by kernel_rfl) rfl #[.slice A0 l0.length c0] rfl lz ?_; (with_reducible refine (spec_TableOk.calls k _ _ l0 true _ ?side1 ?side2 A3.out).mono ?_); (case side1 => repeat (first | exact HR0.out | (with_reducible refine Kd.C_alloc ?_ _) | (with_reducible refine Kd.C_drewN ?_ _) | (with_reducible refine Kd.C_drew ?_))); (case side2 => exact HC0.out); rintro e w10 ⟨rfl, hb⟩; refine ⟨_, rfl, ?_⟩; replace HB := Aside0.mk (below_step (bz0 HB.out) hb); (try clear hb); (try clear hi)) | (go_at_call 44; (with_reducible refine (spec_l1In.calls a1 0 (wrap64 ((l0.length : Int) - 1)) false _ A5.out).mono ?_); rintro e w' ⟨rfl, ⟨nd, rfl⟩⟩))
   go_ret
   exact ⟨gz, (bz0 HB.out)⟩
 ·replace c4 := Bool.eq_false_iff.mpr c4
  subst c4
  have H1 := hq H
  clear H
  have H := H1
  clear H1
  obtain rfl := Option.some.inj H
  go_enter Tryd.func22, Tryd.ntmps22
  go_wp2_with (first | ((with_reducible refine gate_callee (f := 24) rfl ?_); refine goesL_ (some 6) rfl rfl Tryd.func24 (by kernel_rfl) rfl #[.slice A0 l0.length c0] rfl lz ?_; (with_reducible refine (spec_TableOk.calls k _ _ l0 false _ ?side1 ?side2 A3.out).mono ?_); (case side1 => repeat (first | exact HR0.out | (with_reducible refine Kd.C_alloc ?_ _) | (with_reducible refine Kd.C_drewN ?_ _) | (with_reducible refine Kd.C_drew ?_))); (case side2 => exact HC0.out); rintro e w11 ⟨rfl, hb⟩; refine ⟨_, rfl, ?_⟩; replace HB := Aside0.mk (below_step (bz0 HB.out) hb); (try clear hb); (try clear hi)))
  go_ret
  exact ⟨gz, (bz0 HB.out)⟩
def spec_Dec.l0 : Nat -> Int -> ByteArray -> Bool -> Option (ByteArray)
 | 0, _, _, _ => none
 | k + 1, x0, x3, x4 => if x0 = 0 then (if x4 = true then (if 1 + x3.size <= 9223372036854775807 then (some ((⟨#[45]⟩ : ByteArray) ++ x3)) else (none)) else (some x3)) else (if (Int.tmod x0 10) < 0 then ((some (([(wrap64 (48 + (wrap64 (-(Int.tmod x0 10))))) % 256] : List Int) : List Int)).bind fun y227 => (if (strOfNums y227).size + x3.size <= 9223372036854775807 then (spec_Dec.l0 k (wrap64 (Int.tdiv x0 10)) ((strOfNums y227) ++ x3) x4) else (none))) else ((some (([(wrap64 (48 + (Int.tmod x0 10))) % 256] : List Int) : List Int)).bind fun y230 => (if (strOfNums y230).size + x3.size <= 9223372036854775807 then (spec_Dec.l0 k (wrap64 (Int.tdiv x0 10)) ((strOfNums y230) ++ x3) x4) else (none))))
def spec_Dec.f (k : Nat) (a0 : Int) : Option (ByteArray) := if a0 = 0 then (some (⟨#[48]⟩ : ByteArray)) else (spec_Dec.l0 k a0 (⟨#[]⟩ : ByteArray) (decide (a0 < 0)))
theorem spec_Dec.mono_l : ∀ k, (∀ y0 y1 y2, LeO (spec_Dec.l0 k y0 y1 y2) (spec_Dec.l0 (k + 1) y0 y1 y2))
 | 0 => fun _ _ _ r h => by simp [spec_Dec.l0] at h
 | k + 1 => by
  have ih0 := spec_Dec.mono_l k
  ·intro y0 y1 y2
   unfold spec_Dec.l0
   with_reducible repeat' first | exact ih0 _ _ _ | exact lrz _ | exact lnz _ | refine liz ?_ ?_ | refine lbz ?_ fun _ => ?_
theorem spec_Dec.mono : ∀ a0 k, LeO (spec_Dec.f k a0) (spec_Dec.f (k + 1) a0) := by
 intro a0 k
 have ih0 := spec_Dec.mono_l k
 unfold spec_Dec.f
 with_reducible repeat' first | exact ih0 _ _ _ | exact lrz _ | exact lnz _ | refine liz ?_ ?_ | refine lbz ?_ fun _ => ?_
set_option maxHeartbeats 8000000 in
set_option maxRecDepth 100000 in
theorem spec_Dec.calls (k : Nat) (a0 : Int) (r : ByteArray) (w : World) (h : spec_Dec.f k a0 = some r) :
  Calls Tryd.prog 83 #[.int .i64 a0] w fun e w' => e = .returned (.string r) /\ Below w.heap.size w w' := by
 have HB := Aside0.mk (Below.refl w.heap.size w)
 have H : (if a0 = 0 then (some (⟨#[48]⟩ : ByteArray)) else (spec_Dec.l0 k a0 (⟨#[]⟩ : ByteArray) (decide (a0 < 0)))) = some r := h
 clear h
 by_cases c2 : a0 = 0
 ·rw [if_pos c2] at H
  have c2b0 : (a0 == 0) = true := beq_iff_eq.mpr c2
  have c2b1 : (a0 != 0) = false := bne_eq_false_iff_eq.mpr c2
  clear c2
  obtain rfl := Option.some.inj H
  go_enter Tryd.func83, Tryd.ntmps83
  go_wp2
  go_ret
  exact ⟨gz, (bz0 HB.out)⟩
 ·rw [if_neg c2] at H
  have c2b0 : (a0 == 0) = false := beq_eq_false_iff_ne.mpr c2
  have c2b1 : (a0 != 0) = true := bne_iff_ne.mpr c2
  have H' := Aside0.mk H
  clear H
  go_enter Tryd.func83, Tryd.ntmps83
  go_wp2
  go_loopg [0, 3] k (fun kq v0 v3 w' => ∃ (x0_1 : Int) (x3_1 : ByteArray), v0 = .int .i64 x0_1 /\ v3 = .string x3_1 /\ Aside0 (spec_Dec.l0 kq x0_1 x3_1 (decide (a0 < 0)) = some r) /\ Aside0 (kq <= k) /\ Aside0 (Below w.heap.size w w'))
  case atStart => exact ⟨(a0), ((⟨#[]⟩ : ByteArray)), ez, ez, H', ⟨Nat.le_refl _⟩, ⟨(bz0 HB.out)⟩⟩
  case round =>
   clear H'
   try clear c2
   try clear c2b0
   try clear c2b1
   try clear p2
   obtain ⟨x0_1, x3_1, rfl, rfl, HA, HK1, HB⟩ := hrel
   cases gk with
   | zero => exact absurd HA.out (by simp [spec_Dec.l0])
   | succ k1 =>
    have H := HA.out
    clear HA
    simp only [spec_Dec.l0] at H
    by_cases c3 : x0_1 = 0
    ·rw [if_pos c3] at H
     have c3b0 : (x0_1 == 0) = true := beq_iff_eq.mpr c3
     have c3b1 : (x0_1 != 0) = false := bne_eq_false_iff_eq.mpr c3
     clear c3
     by_cases c4 : (decide (a0 < 0)) = true
     ·rw [if_pos c4] at H
      have c4b0 : (decide (a0 < 0)) = true := c4
      clear c4
      (try simp only [c4b0])
      replace H := iz H
      obtain ⟨c5, H⟩ := H
      have c5b0 := eq_true c5
      have c5b1 : decide (1 + x3_1.size <= 9223372036854775807) = true := decide_eq_true c5
      try have c5b2 : (9223372036854775807 < 1 + x3_1.size) = False := eq_false (Nat.not_lt.2 c5)
      obtain rfl := Option.some.inj H
      go_wp2
      go_ret
      exact ⟨gz, (bz0 HB.out)⟩
     ·rw [if_neg c4] at H
      have c4b0 : (decide (a0 < 0)) = false := by simpa using c4
      clear c4
      (try simp only [c4b0])
      obtain rfl := Option.some.inj H
      go_wp2
      go_ret
      exact ⟨gz, (bz0 HB.out)⟩
    ·rw [if_neg c3] at H
     have c3b0 : (x0_1 == 0) = false := beq_eq_false_iff_ne.mpr c3
     have c3b1 : (x0_1 != 0) = true := bne_iff_ne.mpr c3
     by_cases c6 : (Int.tmod x0_1 10) < 0
     ·rw [if_pos c6] at H
      have c6b0 := decide_eq_true c6
      clear c6
      obtain ⟨y227, hy227⟩ : ∃ y_ : List Int, y_ = (([(wrap64 (48 + (wrap64 (-(Int.tmod x0_1 10))))) % 256] : List Int)) := ⟨_, rfl⟩
      replace H : (if (strOfNums y227).size + x3_1.size <= 9223372036854775807 then (spec_Dec.l0 k1 (wrap64 (Int.tdiv x0_1 10)) ((strOfNums y227) ++ x3_1) (decide (a0 < 0))) else (none)) = some r := yz hy227 H
      have Ny227 := Aside0.mk hy227
      clear hy227
      replace H := iz H
      obtain ⟨c7, H⟩ := H
      have c7b0 := eq_true c7
      have c7b1 : decide ((strOfNums y227).size + x3_1.size <= 9223372036854775807) = true := decide_eq_true c7
      try have c7b2 : (9223372036854775807 < (strOfNums y227).size + x3_1.size) = False := eq_false (Nat.not_lt.2 c7)
      have H' := Aside0.mk H
      clear H
      go_wp2_with (first | ((with_reducible refine gate_dst (N := 21) rfl ?_); refine Kd.R_lit (Kd.int .u8) _ 5 ?hg (N := 21) ?hd (xs := ([(wrap64 (48 + (wrap64 (-(Int.tmod x0_1 10))))) % 256] : List Int)) (inner := [.int .u8 ((wrap64 (48 + (wrap64 (-(Int.tmod x0_1 10))))) % 256)]) (ok := fun _ => True) (okp := fun _ => True) ?hr ?hp (fun _ hk => hk) trivial (Below.refl _ _) (Nat.le_refl _) (by simp) ?_; (case hd => rfl); (case hg => rfl); (case hr => exact vz); (case hp => exact (Reps.one (show Kd.M (Kd.int .u8) _ _ _ ((wrap64 (48 + (wrap64 (-(Int.tmod x0_1 10))))) % 256) [.int .u8 ((wrap64 (48 + (wrap64 (-(Int.tmod x0_1 10))))) % 256)] from rfl) (Reps.none _ _))); intro v228 w8 ho9 hb hg_ hnew_; clear hg_ hnew_; (first | rw [<- Ny227.out] at ho9 | (simp only [Int.reduceToNat] at ho9; rw [<- Ny227.out] at ho9)); have HO229 := Aside0.mk (Kd.R_lower ho9 (below_size (bz0 HB.out))); replace HB := Aside0.mk (below_step (bz0 HB.out) hb); clear hb ho9; have hcv10 := own_string (P := Tryd.prog) Tryd.underlying22 Tryd.underlying5 Tryd.underlying9 (Kd.own_of_R HO229.out)))
      go_roundg k1
      case measure => have := HK1.out; omega
      case rel => exact ⟨(wrap64 (Int.tdiv x0_1 10)), ((strOfNums y227) ++ x3_1), ez, ez, H', ⟨by have := HK1.out; omega⟩, ⟨(bz0 HB.out)⟩⟩
     ·rw [if_neg c6] at H
      have c6b0 := decide_eq_false c6
      clear c6
      obtain ⟨y230, hy230⟩ : ∃ y_ : List Int, y_ = (([(wrap64 (48 + (Int.tmod x0_1 10))) % 256] : List Int)) := ⟨_, rfl⟩
      replace H : (if (strOfNums y230).size + x3_1.size <= 9223372036854775807 then (spec_Dec.l0 k1 (wrap64 (Int.tdiv x0_1 10)) ((strOfNums y230) ++ x3_1) (decide (a0 < 0))) else (none)) = some r := yz hy230 H
      have Ny230 := Aside0.mk hy230
      clear hy230
      replace H := iz H
      obtain ⟨c11, H⟩ := H
      have c11b0 := eq_true c11
      have c11b1 : decide ((strOfNums y230).size + x3_1.size <= 9223372036854775807) = true := decide_eq_true c11
      try have c11b2 : (9223372036854775807 < (strOfNums y230).size + x3_1.size) = False := eq_false (Nat.not_lt.2 c11)
      have H' := Aside0.mk H
      clear H
      go_wp2_with (first | ((with_reducible refine gate_dst (N := 21) rfl ?_); refine Kd.R_lit (Kd.int .u8) _ 5 ?hg (N := 21) ?hd (xs := ([(wrap64 (48 + (Int.tmod x0_1 10))) % 256] : List Int)) (inner := [.int .u8 ((wrap64 (48 + (Int.tmod x0_1 10))) % 256)]) (ok := fun _ => True) (okp := fun _ => True) ?hr ?hp (fun _ hk => hk) trivial (Below.refl _ _) (Nat.le_refl _) (by simp) ?_; (case hd => rfl); (case hg => rfl); (case hr => exact vz); (case hp => exact (Reps.one (show Kd.M (Kd.int .u8) _ _ _ ((wrap64 (48 + (Int.tmod x0_1 10))) % 256) [.int .u8 ((wrap64 (48 + (Int.tmod x0_1 10))) % 256)] from rfl) (Reps.none _ _))); intro v231 w12 ho13 hb hg_ hnew_; clear hg_ hnew_; (first | rw [<- Ny230.out] at ho13 | (simp only [Int.reduceToNat] at ho13; rw [<- Ny230.out] at ho13)); have HO232 := Aside0.mk (Kd.R_lower ho13 (below_size (bz0 HB.out))); replace HB := Aside0.mk (below_step (bz0 HB.out) hb); clear hb ho13; have hcv14 := own_string (P := Tryd.prog) Tryd.underlying22 Tryd.underlying5 Tryd.underlying9 (Kd.own_of_R HO232.out)))
      go_roundg k1
      case measure => have := HK1.out; omega
      case rel => exact ⟨(wrap64 (Int.tdiv x0_1 10)), ((strOfNums y230) ++ x3_1), ez, ez, H', ⟨by have := HK1.out; omega⟩, ⟨(bz0 HB.out)⟩⟩
end Go.Proofs.YtlhofeikcaejpaaDoor.PFnExactUnified
