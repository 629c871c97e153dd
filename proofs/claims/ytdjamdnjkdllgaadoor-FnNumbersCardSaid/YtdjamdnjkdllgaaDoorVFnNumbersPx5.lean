/- PFnNumbersx5, of the words and walks that the law FnNumbers needs; made by this session's program out of printed texts. -/

import Derived.Test.YtdjamdnjkdllgaaDoorVFnNumbersPx0
import Derived.Test.YtdjamdnjkdllgaaDoorVFnNumbersPx1
import Derived.Test.YtdjamdnjkdllgaaDoorVFnNumbersPx2
import Derived.Test.YtdjamdnjkdllgaaDoorVFnNumbersPx3
import Derived.Test.YtdjamdnjkdllgaaDoorVFnNumbersPx4
namespace Go.Proofs.YtdjamdnjkdllgaaDoor.PFnNumbers
open Go.RowKit Go.Proofs.YtdjamdnjkdllgaaDoorW.PrintWords Go.Proofs.YtdjamdnjkdllgaaDoorW.PrintLast Go.Proofs.YtdjamdnjkdllgaaDoorW.PrintMore
attribute [local go_sem] max2_int min2_int max_two min_two max_three min_three max_four min_four
set_option linter.unusedVariables false
set_option linter.unusedSimpArgs false
mutual
def laws_FnNumbers.j0 : Nat -> List Int -> Int -> ByteArray -> Bool -> Option (Bool)
 | 0, _, _, _, _ => none
 | k + 1, x0, x3, x4, x55 => if x55 = true then (some false) else ((impl_Fixed.f k x3 7).bind fun t265 => (if t265.size + x4.size <= 9223372036854775807 then ((impl_ReadFixed.f k (t265 ++ x4) 7).bind fun bt266 => (if t265.toList = ([] : List UInt8) then (if x3 < 0 then (laws_FnNumbers.j1 k x0 x3 x4 ((t265.toList == ([] : List UInt8)) != true)) else (laws_FnNumbers.j1 k x0 x3 x4 ((t265.toList == ([] : List UInt8)) != (decide (x3 ≥ 72057594037927936))))) else (if bt266.2 = true then (if bt266.1 = x3 then (if (t265.size : Int) = 7 then (if x3 < 0 then (laws_FnNumbers.j1 k x0 x3 x4 ((t265.toList == ([] : List UInt8)) != true)) else (laws_FnNumbers.j1 k x0 x3 x4 ((t265.toList == ([] : List UInt8)) != (decide (x3 ≥ 72057594037927936))))) else (laws_FnNumbers.j1 k x0 x3 x4 true)) else (laws_FnNumbers.j1 k x0 x3 x4 true)) else (laws_FnNumbers.j1 k x0 x3 x4 true)))) else (none)))
def laws_FnNumbers.j1 : Nat -> List Int -> Int -> ByteArray -> Bool -> Option (Bool)
 | 0, _, _, _, _ => none
 | k + 1, x0, x3, x4, x91 => if x91 = true then (some false) else ((impl_Dec.f x3).bind fun t268 => ((impl_ReadDec.f t268).bind fun bt269 => (if x3 > (-1000000000) then (if (bt269.2 != (decide (x3 < 1000000000))) = true then (laws_FnNumbers.j2 k x0 x4 true) else (if bt269.2 = true then (laws_FnNumbers.j2 k x0 x4 (bt269.1 != x3)) else (laws_FnNumbers.j2 k x0 x4 false))) else (if (bt269.2 != false) = true then (laws_FnNumbers.j2 k x0 x4 true) else (if bt269.2 = true then (laws_FnNumbers.j2 k x0 x4 (bt269.1 != x3)) else (laws_FnNumbers.j2 k x0 x4 false))))))
def laws_FnNumbers.j2 : Nat -> List Int -> ByteArray -> Bool -> Option (Bool)
 | 0, _, _, _ => none
 | k + 1, x0, x4, x113 => if x113 = true then (some false) else ((impl_Hex.f k x4).bind fun t271 => ((impl_Unhex.f k t271).bind fun bt272 => ((spec_DrawReadVar.f k x0).bind fun t274 => ((impl_ReadVar.f k t274).bind fun bt275 => (if bt272.2 = true then (if bt272.1.toList = x4.toList then (if bt275.2 = 0 then (some true) else (if bt275.2 > 0 then ((spec_DrawReadVar.f k x0).bind fun t277 => (if bt275.2 <= (t277.size : Int) then ((impl_Var.f k bt275.1).bind fun t278 => ((spec_DrawReadVar.f k x0).bind fun t279 => (if 0 <= bt275.2 then (if bt275.2 <= (t279.size : Int) then (some (t278.toList == (t279.extract 0 (bt275.2 : Int).toNat).toList)) else (none)) else (none)))) else (some false))) else (some false))) else (some false)) else (some false))))))
end
def laws_FnNumbers.f (k : Nat) (l0 : List Int) : Option (Bool) := (laws_big.f l0).bind fun t259 => (if t259 = true then (some true) else ((spec_DrawVar.f k l0).bind fun t260 => ((spec_DrawHex.f k l0).bind fun t261 => ((impl_Var.f k t260).bind fun t262 => (if t262.size + t261.size <= 9223372036854775807 then ((impl_ReadVar.f k (t262 ++ t261)).bind fun bt263 => (if t260 ≥ 0 then (if ((t262.toList != ([] : List UInt8)) != (decide (t260 <= 562949953421311))) = true then (laws_FnNumbers.j0 k l0 t260 t261 true) else (if t262.toList = ([] : List UInt8) then (laws_FnNumbers.j0 k l0 t260 t261 false) else (if bt263.1 = t260 then (laws_FnNumbers.j0 k l0 t260 t261 (bt263.2 != (t262.size : Int))) else (laws_FnNumbers.j0 k l0 t260 t261 true)))) else (if ((t262.toList != ([] : List UInt8)) != false) = true then (laws_FnNumbers.j0 k l0 t260 t261 true) else (if t262.toList = ([] : List UInt8) then (laws_FnNumbers.j0 k l0 t260 t261 false) else (if bt263.1 = t260 then (laws_FnNumbers.j0 k l0 t260 t261 (bt263.2 != (t262.size : Int))) else (laws_FnNumbers.j0 k l0 t260 t261 true)))))) else (none))))))
theorem laws_FnNumbers.mono_l : ∀ k, (∀ y0 y1 y2 y3, LeO (laws_FnNumbers.j0 k y0 y1 y2 y3) (laws_FnNumbers.j0 (k + 1) y0 y1 y2 y3)) /\ (∀ y0 y1 y2 y3, LeO (laws_FnNumbers.j1 k y0 y1 y2 y3) (laws_FnNumbers.j1 (k + 1) y0 y1 y2 y3)) /\ (∀ y0 y1 y2, LeO (laws_FnNumbers.j2 k y0 y1 y2) (laws_FnNumbers.j2 (k + 1) y0 y1 y2))
 | 0 => ⟨fun _ _ _ _ r h => by simp [laws_FnNumbers.j0] at h, fun _ _ _ _ r h => by simp [laws_FnNumbers.j1] at h, fun _ _ _ r h => by simp [laws_FnNumbers.j2] at h⟩
 | k + 1 => by
  obtain ⟨ih0, ih1, ih2⟩ := laws_FnNumbers.mono_l k
  refine ⟨?_, ?_, ?_⟩
  ·intro y0 y1 y2 y3
   unfold laws_FnNumbers.j0
   with_reducible repeat' first | exact ih0 _ _ _ _ | exact ih1 _ _ _ _ | exact ih2 _ _ _ | exact impl_Fixed.mono _ _ _ | exact impl_Hex.mono _ _ | exact impl_ReadFixed.mono _ _ _ | exact impl_ReadVar.mono _ _ | exact impl_Unhex.mono _ _ | exact impl_Var.mono _ _ | exact spec_DrawHex.mono _ _ | exact spec_DrawReadVar.mono _ _ | exact spec_DrawVar.mono _ _ | exact lrz _ | exact lnz _ | refine liz ?_ ?_ | refine lbz ?_ fun _ => ?_
  ·intro y0 y1 y2 y3
   unfold laws_FnNumbers.j1
   with_reducible repeat' first | exact ih0 _ _ _ _ | exact ih1 _ _ _ _ | exact ih2 _ _ _ | exact impl_Fixed.mono _ _ _ | exact impl_Hex.mono _ _ | exact impl_ReadFixed.mono _ _ _ | exact impl_ReadVar.mono _ _ | exact impl_Unhex.mono _ _ | exact impl_Var.mono _ _ | exact spec_DrawHex.mono _ _ | exact spec_DrawReadVar.mono _ _ | exact spec_DrawVar.mono _ _ | exact lrz _ | exact lnz _ | refine liz ?_ ?_ | refine lbz ?_ fun _ => ?_
  ·intro y0 y1 y2
   unfold laws_FnNumbers.j2
   with_reducible repeat' first | exact ih0 _ _ _ _ | exact ih1 _ _ _ _ | exact ih2 _ _ _ | exact impl_Fixed.mono _ _ _ | exact impl_Hex.mono _ _ | exact impl_ReadFixed.mono _ _ _ | exact impl_ReadVar.mono _ _ | exact impl_Unhex.mono _ _ | exact impl_Var.mono _ _ | exact spec_DrawHex.mono _ _ | exact spec_DrawReadVar.mono _ _ | exact spec_DrawVar.mono _ _ | exact lrz _ | exact lnz _ | refine liz ?_ ?_ | refine lbz ?_ fun _ => ?_
theorem laws_FnNumbers.mono : ∀ a0 k, LeO (laws_FnNumbers.f k a0) (laws_FnNumbers.f (k + 1) a0) := by
 intro a0 k
 obtain ⟨ih0, ih1, ih2⟩ := laws_FnNumbers.mono_l k
 unfold laws_FnNumbers.f
 with_reducible repeat' first | exact ih0 _ _ _ _ | exact ih1 _ _ _ _ | exact ih2 _ _ _ | exact impl_Fixed.mono _ _ _ | exact impl_Hex.mono _ _ | exact impl_ReadFixed.mono _ _ _ | exact impl_ReadVar.mono _ _ | exact impl_Unhex.mono _ _ | exact impl_Var.mono _ _ | exact spec_DrawHex.mono _ _ | exact spec_DrawReadVar.mono _ _ | exact spec_DrawVar.mono _ _ | exact lrz _ | exact lnz _ | refine liz ?_ ?_ | refine lbz ?_ fun _ => ?_
set_option maxHeartbeats 8000000 in
set_option maxRecDepth 100000 in
theorem laws_FnNumbers.calls (k : Nat) (A0 : Option Addr) (c0 : Nat) (l0 : List Int) (r : Bool) (w : World) (hr0 : Kd.C (Kd.int .u8) w A0 l0.length l0) (hc0 : l0.length <= c0) (h : laws_FnNumbers.f k l0 = some r) (hT_ : PW w) :
  Calls Tryd.prog 4 #[.slice A0 l0.length c0] w fun e w' => e = .returned (.bool r) /\ Below w.heap.size w w' := by
 have HR0 := Aside0.mk hr0
 have HC0 := Aside0.mk hc0
 clear hr0 hc0
 have HB := Aside0.mk (Below.refl w.heap.size w)
 have H : ((laws_big.f l0).bind fun t259 => (if t259 = true then (some true) else ((spec_DrawVar.f k l0).bind fun t260 => ((spec_DrawHex.f k l0).bind fun t261 => ((impl_Var.f k t260).bind fun t262 => (if t262.size + t261.size <= 9223372036854775807 then ((impl_ReadVar.f k (t262 ++ t261)).bind fun bt263 => (if t260 ≥ 0 then (if ((t262.toList != ([] : List UInt8)) != (decide (t260 <= 562949953421311))) = true then (laws_FnNumbers.j0 k l0 t260 t261 true) else (if t262.toList = ([] : List UInt8) then (laws_FnNumbers.j0 k l0 t260 t261 false) else (if bt263.1 = t260 then (laws_FnNumbers.j0 k l0 t260 t261 (bt263.2 != (t262.size : Int))) else (laws_FnNumbers.j0 k l0 t260 t261 true)))) else (if ((t262.toList != ([] : List UInt8)) != false) = true then (laws_FnNumbers.j0 k l0 t260 t261 true) else (if t262.toList = ([] : List UInt8) then (laws_FnNumbers.j0 k l0 t260 t261 false) else (if bt263.1 = t260 then (laws_FnNumbers.j0 k l0 t260 t261 (bt263.2 != (t262.size : Int))) else (laws_FnNumbers.j0 k l0 t260 t261 true)))))) else (none))))))) = some r := h
 clear h
 replace H := bi H
 obtain ⟨t259, A20, H⟩ := H
 try dsimp only at H
 have A2 := Aside0.mk A20
 clear A20
 by_cases c3 : t259 = true
 ·subst c3
  have H1 := hp H
  clear H
  have H := H1
  clear H1
  obtain rfl := Option.some.inj H
  go_enter Tryd.func4, Tryd.ntmps4
  go_wp2_with (first | ((with_reducible refine gate_callee (f := 9) rfl ?_); refine goesL_ (some 18) rfl rfl Tryd.func9 (by kernel_rfl) rfl #[.slice A0 l0.length c0] rfl lz ?_; (with_reducible refine (laws_big.calls _ _ l0 true _ ?side1 ?side2 A2.out).mono ?_); (case side1 => repeat (first | exact HR0.out | (with_reducible refine Kd.C_alloc ?_ _) | (with_reducible refine Kd.C_drewN ?_ _) | (with_reducible refine Kd.C_drew ?_))); (case side2 => exact HC0.out); rintro e w' ⟨rfl, ⟨nd, rfl⟩⟩; refine ⟨_, rfl, ?_⟩))
  go_ret
  exact ⟨gz, (bz0 HB.out)⟩
 ·replace c3 := Bool.eq_false_iff.mpr c3
  subst c3
  have H1 := hq H
  clear H
  have H := H1
  clear H1
  replace H := bi H
  obtain ⟨t260, A40, H⟩ := H
  try dsimp only at H
  have A4 := Aside0.mk A40
  clear A40
  replace H := bi H
  obtain ⟨t261, A50, H⟩ := H
  try dsimp only at H
  have A5 := Aside0.mk A50
  clear A50
  (try have et259_ : t259 = t261 := Option.some.inj (A2.out.symm.trans A5.out))
  (try have et260_ : t260 = t261 := Option.some.inj (A4.out.symm.trans A5.out))
  replace H := bi H
  obtain ⟨t262, A60, H⟩ := H
  try dsimp only at H
  have A6 := Aside0.mk A60
  clear A60
  replace H := iz H
  obtain ⟨c7, H⟩ := H
  have c7b0 := eq_true c7
  have c7b1 : decide (t262.size + t261.size <= 9223372036854775807) = true := decide_eq_true c7
  try have c7b2 : (9223372036854775807 < t262.size + t261.size) = False := eq_false (Nat.not_lt.2 c7)
  replace H := bi H
  obtain ⟨⟨t263, t264⟩, A80, H⟩ := H
  try dsimp only at H
  have A8 := Aside0.mk A80
  clear A80
  have HC9 := Aside0.mk H
  clear H
  go_enter Tryd.func4, Tryd.ntmps4
  go_upto_region 7 with (first | ((with_reducible refine gate_callee (f := 9) rfl ?_); refine goesL_ (some 18) rfl rfl Tryd.func9 (by kernel_rfl) rfl #[.slice A0 l0.length c0] rfl lz ?_; (with_reducible refine (laws_big.calls _ _ l0 false _ ?side1 ?side2 A2.out).mono ?_); (case side1 => repeat (first | exact HR0.out | (with_reducible refine Kd.C_alloc ?_ _) | (with_reducible refine Kd.C_drewN ?_ _) | (with_reducible refine Kd.C_drew ?_))); (case side2 => exact HC0.out); rintro e w' ⟨rfl, ⟨nd, rfl⟩⟩; refine ⟨_, rfl, ?_⟩) | ((with_reducible refine gate_callee (f := 10) rfl ?_); refine goesL_ (some 20) rfl rfl Tryd.func10 (by kernel_rfl) rfl #[.slice A0 l0.length c0] rfl lz ?_; (with_reducible refine (spec_DrawVar.calls k _ _ l0 t260 _ ?side1 ?side2 A4.out).mono ?_); (case side1 => repeat (first | exact HR0.out | (with_reducible refine Kd.C_alloc ?_ _) | (with_reducible refine Kd.C_drewN ?_ _) | (with_reducible refine Kd.C_drew ?_))); (case side2 => exact HC0.out); rintro e w10 ⟨rfl, hb⟩; refine ⟨_, rfl, ?_⟩; replace HB := Aside0.mk (below_step (bz0 HB.out) hb); (try clear hb); (try clear hi)) | ((with_reducible refine gate_callee (f := 11) rfl ?_); refine goesL_ (some 22) rfl rfl Tryd.func11 (by kernel_rfl) rfl #[.slice A0 l0.length c0] rfl lz ?_; (with_reducible refine (spec_DrawHex.calls k _ _ l0 t261 _ ?side1 ?side2 A5.out).mono ?_); (case side1 => exact cz (Kd.C_below HR0.out HB.out)); (case side2 => exact HC0.out); rintro e w11 ⟨rfl, hb⟩; refine ⟨_, rfl, ?_⟩; replace HB := Aside0.mk (below_step (bz0 HB.out) hb); (try clear hb); (try clear hi)) | ((with_reducible refine gate_callee (f := 12) rfl ?_); refine goesL_ (some 24) rfl rfl Tryd.func12 (by kernel_rfl) rfl #[.int .i64 t260] rfl lz ?_; (with_reducible refine (impl_Var.calls k t260 t262 _ A6.out).mono ?_); rintro e w12 ⟨rfl, hb⟩; refine ⟨_, rfl, ?_⟩; replace HB := Aside0.mk (below_step (bz0 HB.out) hb); (try clear hb); (try clear hi)) | ((with_reducible refine gate_callee (f := 13) rfl ?_); refine goesL_ (some 29) rfl rfl Tryd.func13 (by kernel_rfl) rfl #[.string (t262 ++ t261)] rfl lz ?_; (with_reducible refine (impl_ReadVar.calls k (t262 ++ t261) t263 t264 _ A8.out).mono ?_); rintro e w' ⟨rfl, ⟨nd, rfl⟩⟩; refine ⟨_, rfl, ?_⟩))
  (try simp only [Act.put, sz1, sz2, sz3])
  go_cut [55] (fun v55 wc => ∃ (kq : Nat) (x55_8 : Bool), v55 = .bool x55_8 /\ Aside0 (laws_FnNumbers.j0 kq l0 t260 t261 x55_8 = some r) /\ Aside0 (kq <= k) /\ Aside0 (Below w.heap.size w wc))
  case first =>
   have H := HC9.out
   clear HC9
   by_cases c13 : t260 ≥ 0
   ·rw [if_pos c13] at H
    have c13b0 : decide (0 <= t260) = true := decide_eq_true c13
    clear c13
    (first | rw [c13b0] | (simp only [i64_w, i32_w]; rw [c13b0]) | skip)
    by_cases c14 : ((t262.toList != ([] : List UInt8)) != (decide (t260 <= 562949953421311))) = true
    ·rw [if_pos c14] at H
     have c14b0 : ((t262.toList != ([] : List UInt8)) != (decide (t260 <= 562949953421311))) = true := c14
     rcases Bool.eq_false_or_eq_true (t262.toList == ([] : List UInt8)) with c14a | c14a
     ·(try (have c14d : (t262.toList != ([] : List UInt8)) = true := by simp only [bne, c14a]; rfl))
      (try (have c14d : (t262.toList != ([] : List UInt8)) = false := by simp only [bne, c14a]; rfl))
      (try (have c14v : (decide (t260 <= 562949953421311)) = true := by simpa [bne, c14a] using c14b0))
      (try (have c14v : (decide (t260 <= 562949953421311)) = false := by simpa [bne, c14a] using c14b0))
      (try (have c14b1 : decide ((t262.toList != ([] : List UInt8)) = (decide (t260 <= 562949953421311))) = false := by simpa using c14))
      (try (have c14b2 : ((t262.toList != ([] : List UInt8)) == (decide (t260 <= 562949953421311))) = false := by simpa using c14))
      (try (have c14b3 : ¬ ((t262.toList != ([] : List UInt8)) = (decide (t260 <= 562949953421311))) := by simpa using c14))
      clear c14
      have H' := Aside0.mk H
      clear H
      go_wp2
      go_meet
      case rel => exact ⟨_, (true), ez, H', ⟨by first | omega | exact Nat.le_refl _⟩, ⟨(bz0 HB.out)⟩⟩
     ·(try (have c14d : (t262.toList != ([] : List UInt8)) = true := by simp only [bne, c14a]; rfl))
      (try (have c14d : (t262.toList != ([] : List UInt8)) = false := by simp only [bne, c14a]; rfl))
      (try (have c14v : (decide (t260 <= 562949953421311)) = true := by simpa [bne, c14a] using c14b0))
      (try (have c14v : (decide (t260 <= 562949953421311)) = false := by simpa [bne, c14a] using c14b0))
      (try (have c14b1 : decide ((t262.toList != ([] : List UInt8)) = (decide (t260 <= 562949953421311))) = false := by simpa using c14))
      (try (have c14b2 : ((t262.toList != ([] : List UInt8)) == (decide (t260 <= 562949953421311))) = false := by simpa using c14))
      (try (have c14b3 : ¬ ((t262.toList != ([] : List UInt8)) = (decide (t260 <= 562949953421311))) := by simpa using c14))
      clear c14
      have H' := Aside0.mk H
      clear H
      go_wp2
      go_meet
      case rel => exact ⟨_, (true), ez, H', ⟨by first | omega | exact Nat.le_refl _⟩, ⟨(bz0 HB.out)⟩⟩
    ·rw [if_neg c14] at H
     have c14b0 : ((t262.toList != ([] : List UInt8)) != (decide (t260 <= 562949953421311))) = false := by simpa using c14
     (try (have c14b1 : decide ((t262.toList != ([] : List UInt8)) = (decide (t260 <= 562949953421311))) = true := by simpa using c14))
     (try (have c14b2 : ((t262.toList != ([] : List UInt8)) == (decide (t260 <= 562949953421311))) = true := by simpa using c14))
     clear c14
     by_cases c15 : t262.toList = ([] : List UInt8)
     ·rw [if_pos c15] at H
      have c15b0 : (t262.toList == ([] : List UInt8)) = true := beq_iff_eq.mpr c15
      have c15b1 : (t262.toList != ([] : List UInt8)) = false := bne_eq_false_iff_eq.mpr c15
      (try (have c14v : (decide (t260 <= 562949953421311)) = true := by simpa [c15b1] using c14b0))
      (try (have c14v : (decide (t260 <= 562949953421311)) = false := by simpa [c15b1] using c14b0))
      clear c15
      have H' := Aside0.mk H
      clear H
      go_wp2
      go_meet
      case rel => exact ⟨_, (false), ez, H', ⟨by first | omega | exact Nat.le_refl _⟩, ⟨(bz0 HB.out)⟩⟩
     ·rw [if_neg c15] at H
      have c15b0 : (t262.toList == ([] : List UInt8)) = false := beq_eq_false_iff_ne.mpr c15
      have c15b1 : (t262.toList != ([] : List UInt8)) = true := bne_iff_ne.mpr c15
      (try (have c14v : (decide (t260 <= 562949953421311)) = true := by simpa [c15b1] using c14b0))
      (try (have c14v : (decide (t260 <= 562949953421311)) = false := by simpa [c15b1] using c14b0))
      by_cases c16 : t263 = t260
      ·rw [if_pos c16] at H
       have c16b0 : (t263 == t260) = true := beq_iff_eq.mpr c16
       have c16b1 : (t263 != t260) = false := bne_eq_false_iff_eq.mpr c16
       (try (have c14v : (decide (t260 <= 562949953421311)) = true := by simpa [c16b1] using c14b0))
       (try (have c14v : (decide (t260 <= 562949953421311)) = false := by simpa [c16b1] using c14b0))
       clear c16
       have H' := Aside0.mk H
       clear H
       go_wp2
       go_meet
       case rel => exact ⟨_, ((t264 != (t262.size : Int))), ez, H', ⟨by first | omega | exact Nat.le_refl _⟩, ⟨(bz0 HB.out)⟩⟩
      ·rw [if_neg c16] at H
       have c16b0 : (t263 == t260) = false := beq_eq_false_iff_ne.mpr c16
       have c16b1 : (t263 != t260) = true := bne_iff_ne.mpr c16
       (try (have c14v : (decide (t260 <= 562949953421311)) = true := by simpa [c16b1] using c14b0))
       (try (have c14v : (decide (t260 <= 562949953421311)) = false := by simpa [c16b1] using c14b0))
       have H' := Aside0.mk H
       clear H
       go_wp2
       go_meet
       case rel => exact ⟨_, (true), ez, H', ⟨by first | omega | exact Nat.le_refl _⟩, ⟨(bz0 HB.out)⟩⟩
   ·rw [if_neg c13] at H
    have c13b0 : decide (0 <= t260) = false := decide_eq_false c13
    clear c13
    (first | rw [c13b0] | (simp only [i64_w, i32_w]; rw [c13b0]) | skip)
    by_cases c17 : ((t262.toList != ([] : List UInt8)) != false) = true
    ·rw [if_pos c17] at H
     have c17b0 : ((t262.toList != ([] : List UInt8)) != false) = true := c17
     (try (have c17w : (t262.toList != ([] : List UInt8)) = true := by simpa using c17b0))
     (try (have c17w : (t262.toList != ([] : List UInt8)) = false := by simpa using c17b0))
     (try (have c17x : (t262.toList == ([] : List UInt8)) = true := by simpa [bne] using c17w))
     (try (have c17x : (t262.toList == ([] : List UInt8)) = false := by simpa [bne] using c17w))
     (try (have c17b1 : decide ((t262.toList != ([] : List UInt8)) = false) = false := by simpa using c17))
     (try (have c17b2 : ((t262.toList != ([] : List UInt8)) == false) = false := by simpa using c17))
     (try (have c17b3 : ¬ ((t262.toList != ([] : List UInt8)) = false) := by simpa using c17))
     clear c17
     have H' := Aside0.mk H
     clear H
     go_wp2
     go_meet
     case rel => exact ⟨_, (true), ez, H', ⟨by first | omega | exact Nat.le_refl _⟩, ⟨(bz0 HB.out)⟩⟩
    ·rw [if_neg c17] at H
     have c17b0 : ((t262.toList != ([] : List UInt8)) != false) = false := by simpa using c17
     (try (have c17w : (t262.toList != ([] : List UInt8)) = true := by simpa using c17b0))
     (try (have c17w : (t262.toList != ([] : List UInt8)) = false := by simpa using c17b0))
     (try (have c17x : (t262.toList == ([] : List UInt8)) = true := by simpa [bne] using c17w))
     (try (have c17x : (t262.toList == ([] : List UInt8)) = false := by simpa [bne] using c17w))
     (try (have c17b1 : decide ((t262.toList != ([] : List UInt8)) = false) = true := by simpa using c17))
     (try (have c17b2 : ((t262.toList != ([] : List UInt8)) == false) = true := by simpa using c17))
     clear c17
     by_cases c18 : t262.toList = ([] : List UInt8)
     ·rw [if_pos c18] at H
      have c18b0 : (t262.toList == ([] : List UInt8)) = true := beq_iff_eq.mpr c18
      have c18b1 : (t262.toList != ([] : List UInt8)) = false := bne_eq_false_iff_eq.mpr c18
      clear c18
      have H' := Aside0.mk H
      clear H
      go_wp2
      go_meet
      case rel => exact ⟨_, (false), ez, H', ⟨by first | omega | exact Nat.le_refl _⟩, ⟨(bz0 HB.out)⟩⟩
     ·rw [if_neg c18] at H
      have c18b0 : (t262.toList == ([] : List UInt8)) = false := beq_eq_false_iff_ne.mpr c18
      exact absurd (c17x.symm.trans c18b0) (by decide)
  case rest =>
   clear HC9
   try clear c1
   try clear p2
   try clear c3
   try clear c4
   try clear c7
   try clear c7b0
   try clear c7b1
   try clear c7b2
   try clear c9
   try clear c10
   try clear c11
   try clear c12
   try clear c13
   try clear c13b0
   try clear c14
   try clear c14b0
   try clear c14b1
   try clear c14b2
   try clear c15
   try clear c15b0
   try clear c15b1
   try clear c16
   try clear c16b0
   try clear c16b1
   try clear c17
   try clear c17b0
   try clear c17b1
   try clear c17b2
   try clear c18
   try clear c18b0
   try clear c18b1
   try clear c19
   try clear c19b0
   try clear c19b1
   obtain ⟨kq, x55_8, rfl, HA, HJ8, HB⟩ := hcut
   cases kq with
   | zero => exact absurd HA.out (by simp [laws_FnNumbers.j0])
   | succ kj8 =>
    have H := HA.out
    clear HA
    simp only [laws_FnNumbers.j0] at H
    by_cases c20 : x55_8 = true
    ·subst c20
     have H1 := hp H
     clear H
     have H := H1
     clear H1
     obtain rfl := Option.some.inj H
     go_wp2
     go_ret
     exact ⟨gz, (bz0 HB.out)⟩
    ·replace c20 := Bool.eq_false_iff.mpr c20
     subst c20
     have H1 := hq H
     clear H
     have H := H1
     clear H1
     replace H := bi H
     obtain ⟨t265, A210, H⟩ := H
     try dsimp only at H
     have A21 := Aside0.mk A210
     clear A210
     replace H := iz H
     obtain ⟨c22, H⟩ := H
     have c22b0 := eq_true c22
     have c22b1 : decide (t265.size + t261.size <= 9223372036854775807) = true := decide_eq_true c22
     try have c22b2 : (9223372036854775807 < t265.size + t261.size) = False := eq_false (Nat.not_lt.2 c22)
     replace H := bi H
     obtain ⟨⟨t266, t267⟩, A230, H⟩ := H
     try dsimp only at H
     have A23 := Aside0.mk A230
     clear A230
     have HC24 := Aside0.mk H
     clear H
     go_upto_region 11 with (first | ((with_reducible refine gate_callee (f := 14) rfl ?_); refine goesL_ (some 57) rfl rfl Tryd.func14 (by kernel_rfl) rfl #[.int .i64 t260, .int .i64 7] rfl lz ?_; (with_reducible refine (impl_Fixed.calls kj8 t260 7 t265 _ A21.out).mono ?_); rintro e w25 ⟨rfl, hb⟩; refine ⟨_, rfl, ?_⟩; replace HB := Aside0.mk (below_step (bz0 HB.out) hb); (try clear hb); (try clear hi)) | ((with_reducible refine gate_callee (f := 15) rfl ?_); refine goesL_ (some 62) rfl rfl Tryd.func15 (by kernel_rfl) rfl #[.string (t265 ++ t261), .int .i64 7] rfl lz ?_; (with_reducible refine (impl_ReadFixed.calls kj8 (t265 ++ t261) 7 t266 t267 _ A23.out).mono ?_); rintro e w' ⟨rfl, ⟨nd, rfl⟩⟩; refine ⟨_, rfl, ?_⟩))
     (try simp only [Act.put, sz1, sz2, sz3])
     go_cut [91] (fun v91 wc => ∃ (kq : Nat) (x91_23 : Bool), v91 = .bool x91_23 /\ Aside0 (laws_FnNumbers.j1 kq l0 t260 t261 x91_23 = some r) /\ Aside0 (kq <= kj8) /\ Aside0 (Below w.heap.size w wc))
     case first =>
      have H := HC24.out
      clear HC24
      by_cases c26 : t265.toList = ([] : List UInt8)
      ·rw [if_pos c26] at H
       have c26b0 : (t265.toList == ([] : List UInt8)) = true := beq_iff_eq.mpr c26
       have c26b1 : (t265.toList != ([] : List UInt8)) = false := bne_eq_false_iff_eq.mpr c26
       clear c26
       (first | rw [c26b0] | (simp only [i64_w, i32_w]; rw [c26b0]) | skip)
       by_cases c27 : t260 < 0
       ·rw [if_pos c27] at H
        have c27b0 := decide_eq_true c27
        clear c27
        have H' := Aside0.mk H
        clear H
        go_wp2
        go_meet
        case rel => exact ⟨_, (((t265.toList == ([] : List UInt8)) != true)), ez, H', ⟨by have := HJ8.out; first | omega | exact Nat.le_refl _⟩, ⟨(bz0 HB.out)⟩⟩
       ·rw [if_neg c27] at H
        have c27b0 := decide_eq_false c27
        clear c27
        have H' := Aside0.mk H
        clear H
        go_wp2
        go_meet
        case rel => exact ⟨_, (((t265.toList == ([] : List UInt8)) != (decide (t260 ≥ 72057594037927936)))), ez, H', ⟨by have := HJ8.out; first | omega | exact Nat.le_refl _⟩, ⟨(bz0 HB.out)⟩⟩
      ·rw [if_neg c26] at H
       have c26b0 : (t265.toList == ([] : List UInt8)) = false := beq_eq_false_iff_ne.mpr c26
       have c26b1 : (t265.toList != ([] : List UInt8)) = true := bne_iff_ne.mpr c26
       (first | rw [c26b0] | (simp only [i64_w, i32_w]; rw [c26b0]) | skip)
       by_cases c28 : t267 = true
       ·subst c28
        have H1 := hp H
        clear H
        have H := H1
        clear H1
        by_cases c29 : t266 = t260
        ·rw [if_pos c29] at H
         have c29b0 : (t266 == t260) = true := beq_iff_eq.mpr c29
         have c29b1 : (t266 != t260) = false := bne_eq_false_iff_eq.mpr c29
         clear c29
         by_cases c30 : (t265.size : Int) = 7
         ·rw [if_pos c30] at H
          have c30b0 : ((t265.size : Int) == 7) = true := beq_iff_eq.mpr c30
          have c30b1 : ((t265.size : Int) != 7) = false := bne_eq_false_iff_eq.mpr c30
          clear c30
          by_cases c31 : t260 < 0
          ·rw [if_pos c31] at H
           have c31b0 := decide_eq_true c31
           clear c31
           have H' := Aside0.mk H
           clear H
           go_wp2
           go_meet
           case rel => exact ⟨_, (((t265.toList == ([] : List UInt8)) != true)), ez, H', ⟨by have := HJ8.out; first | omega | exact Nat.le_refl _⟩, ⟨(bz0 HB.out)⟩⟩
          ·rw [if_neg c31] at H
           have c31b0 := decide_eq_false c31
           clear c31
           have H' := Aside0.mk H
           clear H
           go_wp2
           go_meet
           case rel => exact ⟨_, (((t265.toList == ([] : List UInt8)) != (decide (t260 ≥ 72057594037927936)))), ez, H', ⟨by have := HJ8.out; first | omega | exact Nat.le_refl _⟩, ⟨(bz0 HB.out)⟩⟩
         ·rw [if_neg c30] at H
          have c30b0 : ((t265.size : Int) == 7) = false := beq_eq_false_iff_ne.mpr c30
          have c30b1 : ((t265.size : Int) != 7) = true := bne_iff_ne.mpr c30
          have H' := Aside0.mk H
          clear H
          go_wp2
          go_meet
          case rel => exact ⟨_, (true), ez, H', ⟨by have := HJ8.out; first | omega | exact Nat.le_refl _⟩, ⟨(bz0 HB.out)⟩⟩
        ·rw [if_neg c29] at H
         have c29b0 : (t266 == t260) = false := beq_eq_false_iff_ne.mpr c29
         have c29b1 : (t266 != t260) = true := bne_iff_ne.mpr c29
         have H' := Aside0.mk H
         clear H
         go_wp2
         go_meet
         case rel => exact ⟨_, (true), ez, H', ⟨by have := HJ8.out; first | omega | exact Nat.le_refl _⟩, ⟨(bz0 HB.out)⟩⟩
       ·replace c28 := Bool.eq_false_iff.mpr c28
        subst c28
        have H1 := hq H
        clear H
        have H := H1
        clear H1
        have H' := Aside0.mk H
        clear H
        go_wp2
        go_meet
        case rel => exact ⟨_, (true), ez, H', ⟨by have := HJ8.out; first | omega | exact Nat.le_refl _⟩, ⟨(bz0 HB.out)⟩⟩
     case rest =>
      clear HC24
      try clear c1
      try clear c2
      try clear p2
      try clear c3
      try clear c4
      try clear c7
      try clear c7b0
      try clear c7b1
      try clear c7b2
      try clear c9
      try clear c10
      try clear c11
      try clear c12
      try clear c13
      try clear c13b0
      try clear c14
      try clear c14b0
      try clear c14b1
      try clear c14b2
      try clear c15
      try clear c15b0
      try clear c15b1
      try clear c16
      try clear c16b0
      try clear c16b1
      try clear c17
      try clear c17b0
      try clear c17b1
      try clear c17b2
      try clear c18
      try clear c18b0
      try clear c18b1
      try clear c19
      try clear c19b0
      try clear c19b1
      try clear c20
      try clear c22
      try clear c22b0
      try clear c22b1
      try clear c22b2
      try clear c26
      try clear c26b0
      try clear c26b1
      try clear c27
      try clear c27b0
      try clear c28
      try clear c29
      try clear c29b0
      try clear c29b1
      try clear c30
      try clear c30b0
      try clear c30b1
      try clear c31
      try clear c31b0
      try clear p2
      obtain ⟨kq, x91_23, rfl, HA, HJ23, HB⟩ := hcut
      cases kq with
      | zero => exact absurd HA.out (by simp [laws_FnNumbers.j1])
      | succ kj23 =>
       have H := HA.out
       clear HA
       simp only [laws_FnNumbers.j1] at H
       by_cases c32 : x91_23 = true
       ·subst c32
        have H1 := hp H
        clear H
        have H := H1
        clear H1
        obtain rfl := Option.some.inj H
        go_wp2
        go_ret
        exact ⟨gz, (bz0 HB.out)⟩
       ·replace c32 := Bool.eq_false_iff.mpr c32
        subst c32
        have H1 := hq H
        clear H
        have H := H1
        clear H1
        replace H := bi H
        obtain ⟨t268, A330, H⟩ := H
        try dsimp only at H
        have A33 := Aside0.mk A330
        clear A330
        replace H := bi H
        obtain ⟨⟨t269, t270⟩, A340, H⟩ := H
        try dsimp only at H
        have A34 := Aside0.mk A340
        clear A340
        have HC35 := Aside0.mk H
        clear H
        go_upto_region 14 with (first | ((with_reducible refine gate_callee (f := 16) rfl ?_); refine goesL_ (some 94) rfl rfl Tryd.func16 (by kernel_rfl) rfl #[.int .i64 t260] rfl lz ?_; (with_reducible refine (impl_Dec.calls t260 t268 _ A33.out ?hT_).mono ?_); (case hT_ => exact PW.below hT_ (bz0 HB.out)); rintro e w36 ⟨rfl, hb⟩; refine ⟨_, rfl, ?_⟩; replace HB := Aside0.mk (below_step (bz0 HB.out) hb); (try clear hb); (try clear hi)) | ((with_reducible refine gate_callee (f := 8) rfl ?_); refine goesL_ (some 95) rfl rfl Tryd.func8 (by kernel_rfl) rfl #[.string t268] rfl lz ?_; (with_reducible refine (impl_ReadDec.calls t268 t269 t270 _ A34.out ?hT_).mono ?_); (case hT_ => exact PW.below hT_ (bz0 HB.out)); rintro e w37 ⟨rfl, hb⟩; refine ⟨_, rfl, ?_⟩; replace HB := Aside0.mk (below_step (bz0 HB.out) hb); (try clear hb); (try clear hi)))
        (try simp only [Act.put, sz1, sz2, sz3])
        go_cut [113] (fun v113 wc => ∃ (kq : Nat) (x113_34 : Bool), v113 = .bool x113_34 /\ Aside0 (laws_FnNumbers.j2 kq l0 t261 x113_34 = some r) /\ Aside0 (kq <= kj23) /\ Aside0 (Below w.heap.size w wc))
        case first =>
         have H := HC35.out
         clear HC35
         by_cases c38 : t260 > (-1000000000)
         ·rw [if_pos c38] at H
          have c38b0 : decide ((-1000000000) < t260) = true := decide_eq_true c38
          clear c38
          (first | rw [c38b0] | (simp only [i64_w, i32_w]; rw [c38b0]) | skip)
          by_cases c39 : (t270 != (decide (t260 < 1000000000))) = true
          ·rw [if_pos c39] at H
           have c39b0 : (t270 != (decide (t260 < 1000000000))) = true := c39
           cases t270
           ·(try (have c39v : (decide (t260 < 1000000000)) = true := by simpa using c39b0))
            (try (have c39v : (decide (t260 < 1000000000)) = false := by simpa using c39b0))
            (try (have c39b1 : decide (t270 = (decide (t260 < 1000000000))) = false := by simpa using c39))
            (try (have c39b2 : (t270 == (decide (t260 < 1000000000))) = false := by simpa using c39))
            (try (have c39b3 : ¬ (t270 = (decide (t260 < 1000000000))) := by simpa using c39))
            clear c39
            have H' := Aside0.mk H
            clear H
            go_wp2
            go_meet
            case rel => exact ⟨_, (true), ez, H', ⟨by have := HJ8.out; have := HJ23.out; first | omega | exact Nat.le_refl _⟩, ⟨(bz0 HB.out)⟩⟩
           ·(try (have c39v : (decide (t260 < 1000000000)) = true := by simpa using c39b0))
            (try (have c39v : (decide (t260 < 1000000000)) = false := by simpa using c39b0))
            (try (have c39b1 : decide (t270 = (decide (t260 < 1000000000))) = false := by simpa using c39))
            (try (have c39b2 : (t270 == (decide (t260 < 1000000000))) = false := by simpa using c39))
            (try (have c39b3 : ¬ (t270 = (decide (t260 < 1000000000))) := by simpa using c39))
            clear c39
            have H' := Aside0.mk H
            clear H
            go_wp2
            go_meet
            case rel => exact ⟨_, (true), ez, H', ⟨by have := HJ8.out; have := HJ23.out; first | omega | exact Nat.le_refl _⟩, ⟨(bz0 HB.out)⟩⟩
          ·rw [if_neg c39] at H
           have c39b0 : (t270 != (decide (t260 < 1000000000))) = false := by simpa using c39
           (try (have c39b1 : decide (t270 = (decide (t260 < 1000000000))) = true := by simpa using c39))
           (try (have c39b2 : (t270 == (decide (t260 < 1000000000))) = true := by simpa using c39))
           clear c39
           by_cases c40 : t270 = true
           ·subst c40
            (try (have c39v : (decide (t260 < 1000000000)) = true := by simpa using c39b0))
            (try (have c39v : (decide (t260 < 1000000000)) = false := by simpa using c39b0))
            have H1 := hp H
            clear H
            have H := H1
            clear H1
            have H' := Aside0.mk H
            clear H
            go_wp2
            go_meet
            case rel => exact ⟨_, ((t269 != t260)), ez, H', ⟨by have := HJ8.out; have := HJ23.out; first | omega | exact Nat.le_refl _⟩, ⟨(bz0 HB.out)⟩⟩
           ·replace c40 := Bool.eq_false_iff.mpr c40
            subst c40
            (try (have c39v : (decide (t260 < 1000000000)) = true := by simpa using c39b0))
            (try (have c39v : (decide (t260 < 1000000000)) = false := by simpa using c39b0))
            have H1 := hq H
            clear H
            have H := H1
            clear H1
            have H' := Aside0.mk H
            clear H
            go_wp2
            go_meet
            case rel => exact ⟨_, (false), ez, H', ⟨by have := HJ8.out; have := HJ23.out; first | omega | exact Nat.le_refl _⟩, ⟨(bz0 HB.out)⟩⟩
         ·rw [if_neg c38] at H
          have c38b0 : decide ((-1000000000) < t260) = false := decide_eq_false c38
          clear c38
          (first | rw [c38b0] | (simp only [i64_w, i32_w]; rw [c38b0]) | skip)
          by_cases c41 : (t270 != false) = true
          ·rw [if_pos c41] at H
           have c41b0 : (t270 != false) = true := c41
           (try (have c41w : t270 = true := by simpa using c41b0))
           (try (have c41w : t270 = false := by simpa using c41b0))
           (try (have c41b1 : decide (t270 = false) = false := by simpa using c41))
           (try (have c41b2 : (t270 == false) = false := by simpa using c41))
           (try (have c41b3 : ¬ (t270 = false) := by simpa using c41))
           clear c41
           have H' := Aside0.mk H
           clear H
           go_wp2
           go_meet
           case rel => exact ⟨_, (true), ez, H', ⟨by have := HJ8.out; have := HJ23.out; first | omega | exact Nat.le_refl _⟩, ⟨(bz0 HB.out)⟩⟩
          ·rw [if_neg c41] at H
           have c41b0 : (t270 != false) = false := by simpa using c41
           (try (have c41w : t270 = true := by simpa using c41b0))
           (try (have c41w : t270 = false := by simpa using c41b0))
           (try (have c41b1 : decide (t270 = false) = true := by simpa using c41))
           (try (have c41b2 : (t270 == false) = true := by simpa using c41))
           clear c41
           by_cases c42 : t270 = true
           ·exact absurd (c41w.symm.trans c42) (by decide)
           ·replace c42 := Bool.eq_false_iff.mpr c42
            subst c42
            have H1 := hq H
            clear H
            have H := H1
            clear H1
            have H' := Aside0.mk H
            clear H
            go_wp2
            go_meet
            case rel => exact ⟨_, (false), ez, H', ⟨by have := HJ8.out; have := HJ23.out; first | omega | exact Nat.le_refl _⟩, ⟨(bz0 HB.out)⟩⟩
        case rest =>
         clear HC35
         try clear c1
         try clear c2
         try clear p2
         try clear c3
         try clear c4
         try clear c7
         try clear c7b0
         try clear c7b1
         try clear c7b2
         try clear c8
         try clear c9
         try clear c10
         try clear c11
         try clear c12
         try clear c13
         try clear c13b0
         try clear c14
         try clear c14b0
         try clear c14b1
         try clear c14b2
         try clear c15
         try clear c15b0
         try clear c15b1
         try clear c16
         try clear c16b0
         try clear c16b1
         try clear c17
         try clear c17b0
         try clear c17b1
         try clear c17b2
         try clear c18
         try clear c18b0
         try clear c18b1
         try clear c19
         try clear c19b0
         try clear c19b1
         try clear c20
         try clear c22
         try clear c22b0
         try clear c22b1
         try clear c22b2
         try clear c26
         try clear c26b0
         try clear c26b1
         try clear c27
         try clear c27b0
         try clear c28
         try clear c29
         try clear c29b0
         try clear c29b1
         try clear c30
         try clear c30b0
         try clear c30b1
         try clear c31
         try clear c31b0
         try clear c32
         try clear c38
         try clear c38b0
         try clear c39
         try clear c39b0
         try clear c39b1
         try clear c39b2
         try clear c40
         try clear c41
         try clear c41b0
         try clear c41b1
         try clear c41b2
         try clear c42
         try clear p2
         obtain ⟨kq, x113_34, rfl, HA, HJ34, HB⟩ := hcut
         cases kq with
         | zero => exact absurd HA.out (by simp [laws_FnNumbers.j2])
         | succ kj34 =>
          have H := HA.out
          clear HA
          simp only [laws_FnNumbers.j2] at H
          by_cases c43 : x113_34 = true
          ·subst c43
           have H1 := hp H
           clear H
           have H := H1
           clear H1
           obtain rfl := Option.some.inj H
           go_wp2
           go_ret
           exact ⟨gz, (bz0 HB.out)⟩
          ·replace c43 := Bool.eq_false_iff.mpr c43
           subst c43
           have H1 := hq H
           clear H
           have H := H1
           clear H1
           replace H := bi H
           obtain ⟨t271, A440, H⟩ := H
           try dsimp only at H
           have A44 := Aside0.mk A440
           clear A440
           replace H := bi H
           obtain ⟨⟨t272, t273⟩, A450, H⟩ := H
           try dsimp only at H
           have A45 := Aside0.mk A450
           clear A450
           replace H := bi H
           obtain ⟨t274, A460, H⟩ := H
           try dsimp only at H
           have A46 := Aside0.mk A460
           clear A460
           (try have et259_ : t259 = t274 := Option.some.inj (A2.out.symm.trans A46.out))
           (try have et260_ : t260 = t274 := Option.some.inj (A4.out.symm.trans A46.out))
           (try have et261_ : t261 = t274 := Option.some.inj (A5.out.symm.trans A46.out))
           (try have et262_ : t262 = t274 := Option.some.inj (A6.out.symm.trans A46.out))
           (try have et265_ : t265 = t274 := Option.some.inj (A21.out.symm.trans A46.out))
           (try have et268_ : t268 = t274 := Option.some.inj (A33.out.symm.trans A46.out))
           (try have et271_ : t271 = t274 := Option.some.inj (A44.out.symm.trans A46.out))
           replace H := bi H
           obtain ⟨⟨t275, t276⟩, A470, H⟩ := H
           try dsimp only at H
           have A47 := Aside0.mk A470
           clear A470
           by_cases c48 : t273 = true
           ·subst c48
            have H1 := hp H
            clear H
            have H := H1
            clear H1
            by_cases c49 : t272.toList = t261.toList
            ·rw [if_pos c49] at H
             have c49b0 : (t272.toList == t261.toList) = true := beq_iff_eq.mpr c49
             have c49b1 : (t272.toList != t261.toList) = false := bne_eq_false_iff_eq.mpr c49
             clear c49
             by_cases c50 : t276 = 0
             ·rw [if_pos c50] at H
              have c50b0 : (t276 == 0) = true := beq_iff_eq.mpr c50
              have c50b1 : (t276 != 0) = false := bne_eq_false_iff_eq.mpr c50
              clear c50
              obtain rfl := Option.some.inj H
              go_wp2_with (first | ((with_reducible refine gate_callee (f := 18) rfl ?_); refine goesL_ (some 116) rfl rfl Tryd.func18 (by kernel_rfl) rfl #[.string t261] rfl lz ?_; (with_reducible refine (impl_Hex.calls kj34 t261 t271 _ A44.out).mono ?_); rintro e w51 ⟨rfl, hb⟩; refine ⟨_, rfl, ?_⟩; replace HB := Aside0.mk (below_step (bz0 HB.out) hb); (try clear hb); (try clear hi)) | ((with_reducible refine gate_callee (f := 17) rfl ?_); refine goesL_ (some 117) rfl rfl Tryd.func17 (by kernel_rfl) rfl #[.string t271] rfl lz ?_; (with_reducible refine (impl_Unhex.calls kj34 t271 t272 true _ A45.out).mono ?_); rintro e w52 ⟨rfl, hb⟩; refine ⟨_, rfl, ?_⟩; replace HB := Aside0.mk (below_step (bz0 HB.out) hb); (try clear hb); (try clear hi)) | ((with_reducible refine gate_callee (f := 19) rfl ?_); refine goesL_ (some 122) rfl rfl Tryd.func19 (by kernel_rfl) rfl #[.slice A0 l0.length c0] rfl lz ?_; (with_reducible refine (spec_DrawReadVar.calls kj34 _ _ l0 t274 _ ?side1 ?side2 A46.out).mono ?_); (case side1 => exact cz (Kd.C_below HR0.out HB.out)); (case side2 => exact HC0.out); rintro e w53 ⟨rfl, hb⟩; refine ⟨_, rfl, ?_⟩; replace HB := Aside0.mk (below_step (bz0 HB.out) hb); (try clear hb); (try clear hi)) | ((with_reducible refine gate_callee (f := 13) rfl ?_); refine goesL_ (some 123) rfl rfl Tryd.func13 (by kernel_rfl) rfl #[.string t274] rfl lz ?_; (with_reducible refine (impl_ReadVar.calls kj34 t274 t275 t276 _ A47.out).mono ?_); rintro e w' ⟨rfl, ⟨nd, rfl⟩⟩; refine ⟨_, rfl, ?_⟩))
              go_ret
              exact ⟨gz, (bz0 HB.out)⟩
             ·rw [if_neg c50] at H
              have c50b0 : (t276 == 0) = false := beq_eq_false_iff_ne.mpr c50
              have c50b1 : (t276 != 0) = true := bne_iff_ne.mpr c50
              by_cases c54 : t276 > 0
              ·rw [if_pos c54] at H
               have c54b0 : decide (0 < t276) = true := decide_eq_true c54
               clear c54
               replace H := bi H
               obtain ⟨t277, A550, H⟩ := H
               try dsimp only at H
               have A55 := Aside0.mk A550
               clear A550
               by_cases c56 : t276 <= (t277.size : Int)
               ·rw [if_pos c56] at H
                have c56b0 := decide_eq_true c56
                clear c56
                replace H := bi H
                obtain ⟨t278, A570, H⟩ := H
                try dsimp only at H
                have A57 := Aside0.mk A570
                clear A570
                replace H := bi H
                obtain ⟨t279, A580, H⟩ := H
                try dsimp only at H
                have A58 := Aside0.mk A580
                clear A580
                (try have et259_ : t259 = t279 := Option.some.inj (A2.out.symm.trans A58.out))
                (try have et260_ : t260 = t279 := Option.some.inj (A4.out.symm.trans A58.out))
                (try have et261_ : t261 = t279 := Option.some.inj (A5.out.symm.trans A58.out))
                (try have et262_ : t262 = t279 := Option.some.inj (A6.out.symm.trans A58.out))
                (try have et265_ : t265 = t279 := Option.some.inj (A21.out.symm.trans A58.out))
                (try have et268_ : t268 = t279 := Option.some.inj (A33.out.symm.trans A58.out))
                (try have et271_ : t271 = t279 := Option.some.inj (A44.out.symm.trans A58.out))
                (try have et274_ : t274 = t279 := Option.some.inj (A46.out.symm.trans A58.out))
                (try have et277_ : t277 = t279 := Option.some.inj (A55.out.symm.trans A58.out))
                (try have et278_ : t278 = t279 := Option.some.inj (A57.out.symm.trans A58.out))
                replace H := iz H
                obtain ⟨c59, H⟩ := H
                have c59b0 := eq_true c59
                have c59b1 : decide (0 <= t276) = true := decide_eq_true c59
                clear c59
                replace H := iz H
                obtain ⟨c60, H⟩ := H
                have c60b0 := eq_true c60
                have c60b1 : decide (t276 <= (t279.size : Int)) = true := decide_eq_true c60
                clear c60
                obtain rfl := Option.some.inj H
                go_wp2_with (first | ((with_reducible refine gate_callee (f := 18) rfl ?_); refine goesL_ (some 116) rfl rfl Tryd.func18 (by kernel_rfl) rfl #[.string t261] rfl lz ?_; (with_reducible refine (impl_Hex.calls kj34 t261 t271 _ A44.out).mono ?_); rintro e w61 ⟨rfl, hb⟩; refine ⟨_, rfl, ?_⟩; replace HB := Aside0.mk (below_step (bz0 HB.out) hb); (try clear hb); (try clear hi)) | ((with_reducible refine gate_callee (f := 17) rfl ?_); refine goesL_ (some 117) rfl rfl Tryd.func17 (by kernel_rfl) rfl #[.string t271] rfl lz ?_; (with_reducible refine (impl_Unhex.calls kj34 t271 t272 true _ A45.out).mono ?_); rintro e w62 ⟨rfl, hb⟩; refine ⟨_, rfl, ?_⟩; replace HB := Aside0.mk (below_step (bz0 HB.out) hb); (try clear hb); (try clear hi)) | ((with_reducible refine gate_callee (f := 19) rfl ?_); refine goesL_ (some 122) rfl rfl Tryd.func19 (by kernel_rfl) rfl #[.slice A0 l0.length c0] rfl lz ?_; (with_reducible refine (spec_DrawReadVar.calls kj34 _ _ l0 t274 _ ?side1 ?side2 A46.out).mono ?_); (case side1 => exact cz (Kd.C_below HR0.out HB.out)); (case side2 => exact HC0.out); rintro e w63 ⟨rfl, hb⟩; refine ⟨_, rfl, ?_⟩; replace HB := Aside0.mk (below_step (bz0 HB.out) hb); (try clear hb); (try clear hi)) | ((with_reducible refine gate_callee (f := 13) rfl ?_); refine goesL_ (some 123) rfl rfl Tryd.func13 (by kernel_rfl) rfl #[.string t274] rfl lz ?_; (with_reducible refine (impl_ReadVar.calls kj34 t274 t275 t276 _ A47.out).mono ?_); rintro e w' ⟨rfl, ⟨nd, rfl⟩⟩; refine ⟨_, rfl, ?_⟩) | (go_at_call 19; (with_reducible refine (spec_DrawReadVar.calls kj34 _ _ l0 t277 _ ?side1 ?side2 A55.out).mono ?_); (case side1 => exact cz (Kd.C_below HR0.out (bz0 HB.out))); (case side2 => exact HC0.out); rintro e w64 ⟨rfl, hb⟩; replace HB := Aside0.mk (below_step (bz0 HB.out) hb); (try clear hb); (try clear hi)) | (go_at_call 12; (with_reducible refine (impl_Var.calls kj34 t275 t278 _ A57.out).mono ?_); rintro e w65 ⟨rfl, hb⟩; replace HB := Aside0.mk (below_step (bz0 HB.out) hb); (try clear hb); (try clear hi)) | (go_at_call 19; (with_reducible refine (spec_DrawReadVar.calls kj34 _ _ l0 t279 _ ?side1 ?side2 A58.out).mono ?_); (case side1 => exact cz (Kd.C_below HR0.out HB.out)); (case side2 => exact HC0.out); rintro e w66 ⟨rfl, hb⟩; replace HB := Aside0.mk (below_step (bz0 HB.out) hb); (try clear hb); (try clear hi)))
                go_ret
                exact ⟨gz, (bz0 HB.out)⟩
               ·rw [if_neg c56] at H
                have c56b0 := decide_eq_false c56
                clear c56
                obtain rfl := Option.some.inj H
                go_wp2_with (first | ((with_reducible refine gate_callee (f := 18) rfl ?_); refine goesL_ (some 116) rfl rfl Tryd.func18 (by kernel_rfl) rfl #[.string t261] rfl lz ?_; (with_reducible refine (impl_Hex.calls kj34 t261 t271 _ A44.out).mono ?_); rintro e w67 ⟨rfl, hb⟩; refine ⟨_, rfl, ?_⟩; replace HB := Aside0.mk (below_step (bz0 HB.out) hb); (try clear hb); (try clear hi)) | ((with_reducible refine gate_callee (f := 17) rfl ?_); refine goesL_ (some 117) rfl rfl Tryd.func17 (by kernel_rfl) rfl #[.string t271] rfl lz ?_; (with_reducible refine (impl_Unhex.calls kj34 t271 t272 true _ A45.out).mono ?_); rintro e w68 ⟨rfl, hb⟩; refine ⟨_, rfl, ?_⟩; replace HB := Aside0.mk (below_step (bz0 HB.out) hb); (try clear hb); (try clear hi)) | ((with_reducible refine gate_callee (f := 19) rfl ?_); refine goesL_ (some 122) rfl rfl Tryd.func19 (by kernel_rfl) rfl #[.slice A0 l0.length c0] rfl lz ?_; (with_reducible refine (spec_DrawReadVar.calls kj34 _ _ l0 t274 _ ?side1 ?side2 A46.out).mono ?_); (case side1 => exact cz (Kd.C_below HR0.out HB.out)); (case side2 => exact HC0.out); rintro e w69 ⟨rfl, hb⟩; refine ⟨_, rfl, ?_⟩; replace HB := Aside0.mk (below_step (bz0 HB.out) hb); (try clear hb); (try clear hi)) | ((with_reducible refine gate_callee (f := 13) rfl ?_); refine goesL_ (some 123) rfl rfl Tryd.func13 (by kernel_rfl) rfl #[.string t274] rfl lz ?_; (with_reducible refine (impl_ReadVar.calls kj34 t274 t275 t276 _ A47.out).mono ?_); rintro e w' ⟨rfl, ⟨nd, rfl⟩⟩; refine ⟨_, rfl, ?_⟩) | (go_at_call 19; (with_reducible refine (spec_DrawReadVar.calls kj34 _ _ l0 t277 _ ?side1 ?side2 A55.out).mono ?_); (case side1 => exact cz (Kd.C_below HR0.out (bz0 HB.out))); (case side2 => exact HC0.out); rintro e w70 ⟨rfl, hb⟩; replace HB := Aside0.mk (below_step (bz0 HB.out) hb); (try clear hb); (try clear hi)))
                go_ret
                exact ⟨gz, (bz0 HB.out)⟩
              ·rw [if_neg c54] at H
               have c54b0 : decide (0 < t276) = false := decide_eq_false c54
               clear c54
               obtain rfl := Option.some.inj H
               go_wp2_with (first | ((with_reducible refine gate_callee (f := 18) rfl ?_); refine goesL_ (some 116) rfl rfl Tryd.func18 (by kernel_rfl) rfl #[.string t261] rfl lz ?_; (with_reducible refine (impl_Hex.calls kj34 t261 t271 _ A44.out).mono ?_); rintro e w71 ⟨rfl, hb⟩; refine ⟨_, rfl, ?_⟩; replace HB := Aside0.mk (below_step (bz0 HB.out) hb); (try clear hb); (try clear hi)) | ((with_reducible refine gate_callee (f := 17) rfl ?_); refine goesL_ (some 117) rfl rfl Tryd.func17 (by kernel_rfl) rfl #[.string t271] rfl lz ?_; (with_reducible refine (impl_Unhex.calls kj34 t271 t272 true _ A45.out).mono ?_); rintro e w72 ⟨rfl, hb⟩; refine ⟨_, rfl, ?_⟩; replace HB := Aside0.mk (below_step (bz0 HB.out) hb); (try clear hb); (try clear hi)) | ((with_reducible refine gate_callee (f := 19) rfl ?_); refine goesL_ (some 122) rfl rfl Tryd.func19 (by kernel_rfl) rfl #[.slice A0 l0.length c0] rfl lz ?_; (with_reducible refine (spec_DrawReadVar.calls kj34 _ _ l0 t274 _ ?side1 ?side2 A46.out).mono ?_); (case side1 => exact cz (Kd.C_below HR0.out HB.out)); (case side2 => exact HC0.out); rintro e w73 ⟨rfl, hb⟩; refine ⟨_, rfl, ?_⟩; replace HB := Aside0.mk (below_step (bz0 HB.out) hb); (try clear hb); (try clear hi)) | ((with_reducible refine gate_callee (f := 13) rfl ?_); refine goesL_ (some 123) rfl rfl Tryd.func13 (by kernel_rfl) rfl #[.string t274] rfl lz ?_; (with_reducible refine (impl_ReadVar.calls kj34 t274 t275 t276 _ A47.out).mono ?_); rintro e w' ⟨rfl, ⟨nd, rfl⟩⟩; refine ⟨_, rfl, ?_⟩))
               go_ret
               exact ⟨gz, (bz0 HB.out)⟩
            ·rw [if_neg c49] at H
             have c49b0 : (t272.toList == t261.toList) = false := beq_eq_false_iff_ne.mpr c49
             have c49b1 : (t272.toList != t261.toList) = true := bne_iff_ne.mpr c49
             obtain rfl := Option.some.inj H
             go_wp2_with (first | ((with_reducible refine gate_callee (f := 18) rfl ?_); refine goesL_ (some 116) rfl rfl Tryd.func18 (by kernel_rfl) rfl #[.string t261] rfl lz ?_; (with_reducible refine (impl_Hex.calls kj34 t261 t271 _ A44.out).mono ?_); rintro e w74 ⟨rfl, hb⟩; refine ⟨_, rfl, ?_⟩; replace HB := Aside0.mk (below_step (bz0 HB.out) hb); (try clear hb); (try clear hi)) | ((with_reducible refine gate_callee (f := 17) rfl ?_); refine goesL_ (some 117) rfl rfl Tryd.func17 (by kernel_rfl) rfl #[.string t271] rfl lz ?_; (with_reducible refine (impl_Unhex.calls kj34 t271 t272 true _ A45.out).mono ?_); rintro e w75 ⟨rfl, hb⟩; refine ⟨_, rfl, ?_⟩; replace HB := Aside0.mk (below_step (bz0 HB.out) hb); (try clear hb); (try clear hi)) | ((with_reducible refine gate_callee (f := 19) rfl ?_); refine goesL_ (some 122) rfl rfl Tryd.func19 (by kernel_rfl) rfl #[.slice A0 l0.length c0] rfl lz ?_; (with_reducible refine (spec_DrawReadVar.calls kj34 _ _ l0 t274 _ ?side1 ?side2 A46.out).mono ?_); (case side1 => exact cz (Kd.C_below HR0.out HB.out)); (case side2 => exact HC0.out); rintro e w76 ⟨rfl, hb⟩; refine ⟨_, rfl, ?_⟩; replace HB := Aside0.mk (below_step (bz0 HB.out) hb); (try clear hb); (try clear hi)) | ((with_reducible refine gate_callee (f := 13) rfl ?_); refine goesL_ (some 123) rfl rfl Tryd.func13 (by kernel_rfl) rfl #[.string t274] rfl lz ?_; (with_reducible refine (impl_ReadVar.calls kj34 t274 t275 t276 _ A47.out).mono ?_); rintro e w' ⟨rfl, ⟨nd, rfl⟩⟩; refine ⟨_, rfl, ?_⟩))
             go_ret
             exact ⟨gz, (bz0 HB.out)⟩
           ·replace c48 := Bool.eq_false_iff.mpr c48
            subst c48
            have H1 := hq H
            clear H
            have H := H1
            clear H1
            obtain rfl := Option.some.inj H
            go_wp2_with (first | ((with_reducible refine gate_callee (f := 18) rfl ?_); refine goesL_ (some 116) rfl rfl Tryd.func18 (by kernel_rfl) rfl #[.string t261] rfl lz ?_; (with_reducible refine (impl_Hex.calls kj34 t261 t271 _ A44.out).mono ?_); rintro e w77 ⟨rfl, hb⟩; refine ⟨_, rfl, ?_⟩; replace HB := Aside0.mk (below_step (bz0 HB.out) hb); (try clear hb); (try clear hi)) | ((with_reducible refine gate_callee (f := 17) rfl ?_); refine goesL_ (some 117) rfl rfl Tryd.func17 (by kernel_rfl) rfl #[.string t271] rfl lz ?_; (with_reducible refine (impl_Unhex.calls kj34 t271 t272 false _ A45.out).mono ?_); rintro e w78 ⟨rfl, hb⟩; refine ⟨_, rfl, ?_⟩; replace HB := Aside0.mk (below_step (bz0 HB.out) hb); (try clear hb); (try clear hi)) | ((with_reducible refine gate_callee (f := 19) rfl ?_); refine goesL_ (some 122) rfl rfl Tryd.func19 (by kernel_rfl) rfl #[.slice A0 l0.length c0] rfl lz ?_; (with_reducible refine (spec_DrawReadVar.calls kj34 _ _ l0 t274 _ ?side1 ?side2 A46.out).mono ?_); (case side1 => exact cz (Kd.C_below HR0.out HB.out)); (case side2 => exact HC0.out); rintro e w79 ⟨rfl, hb⟩; refine ⟨_, rfl, ?_⟩; replace HB := Aside0.mk (below_step (bz0 HB.out) hb); (try clear hb); (try clear hi)) | ((with_reducible refine gate_callee (f := 13) rfl ?_); refine goesL_ (some 123) rfl rfl Tryd.func13 (by kernel_rfl) rfl #[.string t274] rfl lz ?_; (with_reducible refine (impl_ReadVar.calls kj34 t274 t275 t276 _ A47.out).mono ?_); rintro e w' ⟨rfl, ⟨nd, rfl⟩⟩; refine ⟨_, rfl, ?_⟩))
            go_ret
            exact ⟨gz, (bz0 HB.out)⟩
def laws_FnNumbers.Pure : Prop := ∀ (l0 : List Int), l0.length <= maxLen -> l0.length * 1 <= 140737488351232 -> (∀ x ∈ l0, (Lit.int .u8 x).wf = true) -> ∃ k, laws_FnNumbers.f k l0 = some true
end Go.Proofs.YtdjamdnjkdllgaaDoor.PFnNumbers
