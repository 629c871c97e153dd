/- PFnSizesx8, of the words and walks that the law FnSizes needs; made by this session's program out of printed texts. -/

import Derived.Test.YtlhofeikcaejpaaDoorVFnSizesPx0
import Derived.Test.YtlhofeikcaejpaaDoorVFnSizesPx1
import Derived.Test.YtlhofeikcaejpaaDoorVFnSizesPx4
import Derived.Test.YtlhofeikcaejpaaDoorVFnSizesPx5
import Derived.Test.YtlhofeikcaejpaaDoorVFnSizesPx6
import Derived.Test.YtlhofeikcaejpaaDoorVFnSizesPx7
namespace Go.Proofs.YtlhofeikcaejpaaDoor.PFnSizes
open Go.RowKit Go.Proofs.YtlhofeikcaejpaaDoorW.PrintWords Go.Proofs.YtlhofeikcaejpaaDoorW.PrintLast Go.Proofs.YtlhofeikcaejpaaDoorW.PrintMore
attribute [local go_sem] max2_int min2_int max_two min_two max_three min_three max_four min_four
set_option linter.unusedVariables false
set_option linter.unusedSimpArgs false
mutual
def laws_FnSizes.j0 : Nat -> List (S55) -> Int -> Int -> Bool -> Option (Bool)
 | 0, _, _, _, _ => none
 | k + 1, x3, x4, x5, x35 => if x35 = true then (some false) else (if x5 = 0 then ((spec_TableOk.f k x3).bind fun t309 => (if t309 = true then (if x4 < 0 then (some true) else (some (decide (x4 ≥ (x3.length : Int))))) else (some true))) else (if 0 <= x4 then (if x4 < (x3.length : Int) then (if ((rd_T55 x3 x4).f0) = 0 then (if ((rd_T55 x3 x4).f1) ≥ 0 then ((impl_SizeOf.f k x3 ((rd_T55 x3 x4).f1)).bind fun t312 => (some (x5 == (mn t312 61)))) else (some (x5 == (mn 1 61)))) else (if ((rd_T55 x3 x4).f0) = 2 then (laws_FnSizes.j1 k x3 x5 1 ((rd_T55 x3 x4).f0) (((rd_T55 x3 x4).f0) == 2) ((rd_T55 x3 x4).f0) ((rd_T55 x3 x4).f1) ((rd_T55 x3 x4).f2)) else (laws_FnSizes.j1 k x3 x5 1 ((rd_T55 x3 x4).f0) (((rd_T55 x3 x4).f0) == 3) ((rd_T55 x3 x4).f0) ((rd_T55 x3 x4).f1) ((rd_T55 x3 x4).f2)))) else (none)) else (none)))
def laws_FnSizes.j1 : Nat -> List (S55) -> Int -> Int -> Int -> Bool -> Int -> Int -> Int -> Option (Bool)
 | 0, _, _, _, _, _, _, _, _ => none
 | k + 1, x3, x5, x7, x56, x66, x312000, x312001, x312002 => if x66 = true then ((impl_SizeOf.f k x3 x312001).bind fun t313 => ((impl_SizeOf.f k x3 x312002).bind fun t314 => (some (x5 == (mn (wrap64 ((wrap64 (1 + t313)) + t314)) 61))))) else (if x56 = 4 then ((impl_SizeOf.f k x3 x312001).bind fun t315 => (some (x5 == (mn (wrap64 (1 + t315)) 61)))) else (if x56 = 5 then ((impl_SizeOf.f k x3 x312001).bind fun t316 => (some (x5 == (mn (wrap64 (1 + t316)) 61)))) else (some (x5 == (mn x7 61)))))
end
def laws_FnSizes.f (k : Nat) (l0 : List Int) : Option (Bool) := (laws_big.f l0).bind fun t301 => (if t301 = true then (some true) else ((spec_DrawSizeOf.f k l0).bind fun bt302 => ((impl_SizeOf.f k bt302.1 bt302.2).bind fun t306 => ((spec_SizeOf.f k bt302.1 bt302.2).bind fun t307 => (if t306 = t307 then ((impl_ShowType.f k bt302.1 bt302.2).bind fun t308 => (if t306 ≥ 1 then (laws_FnSizes.j0 k bt302.1 bt302.2 t306 ((t308.toList != ([] : List UInt8)) != (decide (t306 <= 60)))) else (laws_FnSizes.j0 k bt302.1 bt302.2 t306 ((t308.toList != ([] : List UInt8)) != false)))) else (laws_FnSizes.j0 k bt302.1 bt302.2 t306 true))))))
theorem laws_FnSizes.mono_l : ∀ k, (∀ y0 y1 y2 y3, LeO (laws_FnSizes.j0 k y0 y1 y2 y3) (laws_FnSizes.j0 (k + 1) y0 y1 y2 y3)) /\ (∀ y0 y1 y2 y3 y4 y5 y6 y7, LeO (laws_FnSizes.j1 k y0 y1 y2 y3 y4 y5 y6 y7) (laws_FnSizes.j1 (k + 1) y0 y1 y2 y3 y4 y5 y6 y7))
 | 0 => ⟨fun _ _ _ _ r h => by simp [laws_FnSizes.j0] at h, fun _ _ _ _ _ _ _ _ r h => by simp [laws_FnSizes.j1] at h⟩
 | k + 1 => by
  obtain ⟨ih0, ih1⟩ := laws_FnSizes.mono_l k
  refine ⟨?_, ?_⟩
  ·intro y0 y1 y2 y3
   unfold laws_FnSizes.j0
   with_reducible repeat' first | exact ih0 _ _ _ _ | exact ih1 _ _ _ _ _ _ _ _ | exact impl_ShowType.mono _ _ _ | exact impl_SizeOf.mono _ _ _ | exact spec_DrawSizeOf.mono _ _ | exact spec_SizeOf.mono _ _ _ | exact spec_TableOk.mono _ _ | exact lrz _ | exact lnz _ | refine liz ?_ ?_ | refine lbz ?_ fun _ => ?_
  ·intro y0 y1 y2 y3 y4 y5 y6 y7
   unfold laws_FnSizes.j1
   with_reducible repeat' first | exact ih0 _ _ _ _ | exact ih1 _ _ _ _ _ _ _ _ | exact impl_ShowType.mono _ _ _ | exact impl_SizeOf.mono _ _ _ | exact spec_DrawSizeOf.mono _ _ | exact spec_SizeOf.mono _ _ _ | exact spec_TableOk.mono _ _ | exact lrz _ | exact lnz _ | refine liz ?_ ?_ | refine lbz ?_ fun _ => ?_
theorem laws_FnSizes.mono : ∀ a0 k, LeO (laws_FnSizes.f k a0) (laws_FnSizes.f (k + 1) a0) := by
 intro a0 k
 obtain ⟨ih0, ih1⟩ := laws_FnSizes.mono_l k
 unfold laws_FnSizes.f
 with_reducible repeat' first | exact ih0 _ _ _ _ | exact ih1 _ _ _ _ _ _ _ _ | exact impl_ShowType.mono _ _ _ | exact impl_SizeOf.mono _ _ _ | exact spec_DrawSizeOf.mono _ _ | exact spec_SizeOf.mono _ _ _ | exact spec_TableOk.mono _ _ | exact lrz _ | exact lnz _ | refine liz ?_ ?_ | refine lbz ?_ fun _ => ?_
def laws_FnSizes.T17 : Bool × List (List Nat × List Nat) := (true, [([], []), ([], []), ([1], [1]), ([0, 2], [0, 2]), ([3], [3]), ([], []), ([], []), ([6], [6]), ([5, 7, 3], [5, 7]), ([4, 8], [4, 8]), ([9, 8, 0, 1, 2, 3, 4, 5, 6, 7, 8, 9], [9])])
def laws_FnSizes.B17 : List Nat := [0, 0, 2, 7, 15, 0, 0, 64, 239, 511, 1023]
theorem laws_FnSizes.tab17 : rtab .any (opsOf Tryd.f4 17) = laws_FnSizes.T17 := by kernel_rfl
theorem laws_FnSizes.bits17 : waitsOk laws_FnSizes.T17.2 laws_FnSizes.B17 = true := by kernel_rfl
set_option maxHeartbeats 8000000 in
set_option maxRecDepth 100000 in
theorem laws_FnSizes.calls (k : Nat) (A0 : Option Addr) (c0 : Nat) (l0 : List Int) (r : Bool) (w : World) (hr0 : Kd.C (Kd.int .u8) w A0 l0.length l0) (hc0 : l0.length <= c0) (h : laws_FnSizes.f k l0 = some r) (hT_ : PW w) :
  Calls Tryd.prog 4 #[.slice A0 l0.length c0] w fun e w' => e = .returned (.bool r) /\ Below w.heap.size w w' := by
 have hu55 := Tryd.underlying55
 have HR0 := Aside0.mk hr0
 have HC0 := Aside0.mk hc0
 clear hr0 hc0
 have HB := Aside0.mk (Below.refl w.heap.size w)
 have H : ((laws_big.f l0).bind fun t301 => (if t301 = true then (some true) else ((spec_DrawSizeOf.f k l0).bind fun bt302 => ((impl_SizeOf.f k bt302.1 bt302.2).bind fun t306 => ((spec_SizeOf.f k bt302.1 bt302.2).bind fun t307 => (if t306 = t307 then ((impl_ShowType.f k bt302.1 bt302.2).bind fun t308 => (if t306 ≥ 1 then (laws_FnSizes.j0 k bt302.1 bt302.2 t306 ((t308.toList != ([] : List UInt8)) != (decide (t306 <= 60)))) else (laws_FnSizes.j0 k bt302.1 bt302.2 t306 ((t308.toList != ([] : List UInt8)) != false)))) else (laws_FnSizes.j0 k bt302.1 bt302.2 t306 true))))))) = some r := h
 clear h
 replace H := bi H
 obtain ⟨t301, A20, H⟩ := H
 try dsimp only at H
 have A2 := Aside0.mk A20
 clear A20
 by_cases c3 : t301 = true
 ·subst c3
  have H1 := hp H
  clear H
  have H := H1
  clear H1
  obtain rfl := Option.some.inj H
  go_enter Tryd.func4, Tryd.ntmps4
  go_wp2_with (first | ((with_reducible refine gate_callee (f := 9) rfl ?_); refine goesL_ (some 9) rfl rfl Tryd.func9 (by kernel_rfl) rfl #[.slice A0 l0.length c0] rfl lz ?_; (with_reducible refine (laws_big.calls _ _ l0 true _ ?side1 ?side2 A2.out).mono ?_); (case side1 => repeat (first | exact HR0.out | (with_reducible refine Kd.C_alloc ?_ _) | (with_reducible refine Kd.C_drewN ?_ _) | (with_reducible refine Kd.C_drew ?_))); (case side2 => exact HC0.out); rintro e w' ⟨rfl, ⟨nd, rfl⟩⟩; refine ⟨_, rfl, ?_⟩))
  go_ret
  exact ⟨gz, (bz0 HB.out)⟩
 ·replace c3 := Bool.eq_false_iff.mpr c3
  subst c3
  have H1 := hq H
  clear H
  have H := H1
  clear H1
  replace H := bi H
  obtain ⟨⟨t302, t303⟩, A40, H⟩ := H
  try dsimp only at H
  have A4 := Aside0.mk A40
  clear A40
  replace H := bi H
  obtain ⟨t306, A50, H⟩ := H
  try dsimp only at H
  have A5 := Aside0.mk A50
  clear A50
  have HC6 := Aside0.mk H
  clear H
  go_enter Tryd.func4, Tryd.ntmps4
  go_upto_region 5 with (first | ((with_reducible refine gate_callee (f := 9) rfl ?_); refine goesL_ (some 9) rfl rfl Tryd.func9 (by kernel_rfl) rfl #[.slice A0 l0.length c0] rfl lz ?_; (with_reducible refine (laws_big.calls _ _ l0 false _ ?side1 ?side2 A2.out).mono ?_); (case side1 => repeat (first | exact HR0.out | (with_reducible refine Kd.C_alloc ?_ _) | (with_reducible refine Kd.C_drewN ?_ _) | (with_reducible refine Kd.C_drew ?_))); (case side2 => exact HC0.out); rintro e w' ⟨rfl, ⟨nd, rfl⟩⟩; refine ⟨_, rfl, ?_⟩) | ((with_reducible refine gate_callee (f := 20) rfl ?_); refine goesL_ (some 12) rfl rfl Tryd.func20 (by kernel_rfl) rfl #[.slice A0 l0.length c0] rfl lz ?_; (with_reducible refine (spec_DrawSizeOf.calls k _ _ l0 t302 t303 _ ?side1 ?side2 A4.out).mono ?_); (case side1 => repeat (first | exact HR0.out | (with_reducible refine Kd.C_alloc ?_ _) | (with_reducible refine Kd.C_drewN ?_ _) | (with_reducible refine Kd.C_drew ?_))); (case side2 => exact HC0.out); rintro e w7 ⟨v304, rfl, ho0, hb⟩; refine ⟨_, rfl, ?_⟩; have HO305 := Aside0.mk (Kd.R_lower ho0 (below_size (bz0 HB.out))); replace HB := Aside0.mk (below_step (bz0 HB.out) hb); (try clear hb); (try clear ho0); obtain ⟨Ao8, co8, eo8⟩ := Kd.R_slice HO305.out; subst eo8) | ((with_reducible refine gate_callee (f := 21) rfl ?_); refine goesL_ (some 17) rfl rfl Tryd.func21 (by kernel_rfl) rfl #[.slice Ao8 t302.length co8, .int .i64 t303] rfl lz ?_; (with_reducible refine (impl_SizeOf.calls k _ _ t302 t303 t306 _ ?side1 ?side2 A5.out).mono ?_); (case side1 => exact cz (Kd.R_reads' HO305.out).2.2); (case side2 => exact (Kd.R_reads' HO305.out).2.1); rintro e w9 ⟨rfl, hb⟩; refine ⟨_, rfl, ?_⟩; replace HO305 := qz HO305 hb; replace HB := Aside0.mk (below_step (bz0 HB.out) hb); (try clear hb); (try clear hi)))
  (try simp only [Act.put, sz1, sz2, sz3])
  go_cut [35] (fun v35 wc => ∃ (kq : Nat) (x35_5 : Bool), v35 = .bool x35_5 /\ Aside0 (laws_FnSizes.j0 kq t302 t303 t306 x35_5 = some r) /\ Aside0 (kq <= k) /\ Aside0 (Kd.R k55 55 wc w.heap.size (fun _ => True) (.slice Ao8 t302.length co8) t302) /\ Aside0 (Below w.heap.size w wc))
  case first =>
   have H := HC6.out
   clear HC6
   replace H := bi H
   obtain ⟨t307, A100, H⟩ := H
   try dsimp only at H
   have A10 := Aside0.mk A100
   clear A100
   by_cases c11 : t306 = t307
   ·rw [if_pos c11] at H
    have c11b0 : (t306 == t307) = true := beq_iff_eq.mpr c11
    have c11b1 : (t306 != t307) = false := bne_eq_false_iff_eq.mpr c11
    clear c11
    (first | rw [c11b0] | (simp only [i64_w, i32_w]; rw [c11b0]) | skip)
    replace H := bi H
    obtain ⟨t308, A120, H⟩ := H
    try dsimp only at H
    have A12 := Aside0.mk A120
    clear A120
    by_cases c13 : t306 ≥ 1
    ·rw [if_pos c13] at H
     have c13b0 : decide (1 <= t306) = true := decide_eq_true c13
     clear c13
     have H' := Aside0.mk H
     clear H
     go_wp2_with (first | ((with_reducible refine gate_callee (f := 22) rfl ?_); refine goesL_ (some 21) rfl rfl Tryd.func22 (by kernel_rfl) rfl #[.slice Ao8 t302.length co8, .int .i64 t303] rfl lz ?_; (with_reducible refine (spec_SizeOf.calls k _ _ t302 t303 t307 _ ?side1 ?side2 A10.out).mono ?_); (case side1 => exact cz (Kd.R_reads' HO305.out).2.2); (case side2 => exact (Kd.R_reads' HO305.out).2.1); rintro e w14 ⟨rfl, hb⟩; refine ⟨_, rfl, ?_⟩; replace HO305 := qz HO305 hb; replace HB := Aside0.mk (below_step (bz0 HB.out) hb); (try clear hb); (try clear hi)) | (go_at_call 23; (with_reducible refine (impl_ShowType.calls k _ _ t302 t303 t308 _ ?side1 ?side2 A12.out ?hT_).mono ?_); (case hT_ => exact PW.below hT_ (bz0 HB.out)); (case side1 => exact cz (Kd.R_reads' HO305.out).2.2); (case side2 => exact (Kd.R_reads' HO305.out).2.1); rintro e w15 ⟨rfl, hb⟩; replace HO305 := qz HO305 hb; replace HB := Aside0.mk (below_step (bz0 HB.out) hb); (try clear hb); (try clear hi)))
     go_meet
     case rel => exact ⟨_, (((t308.toList != ([] : List UInt8)) != (decide (t306 <= 60)))), ez, H', ⟨by first | omega | exact Nat.le_refl _⟩, ⟨by refine rq ?_; exact HO305.out⟩, ⟨(bz0 HB.out)⟩⟩
    ·rw [if_neg c13] at H
     have c13b0 : decide (1 <= t306) = false := decide_eq_false c13
     clear c13
     have H' := Aside0.mk H
     clear H
     go_wp2_with (first | ((with_reducible refine gate_callee (f := 22) rfl ?_); refine goesL_ (some 21) rfl rfl Tryd.func22 (by kernel_rfl) rfl #[.slice Ao8 t302.length co8, .int .i64 t303] rfl lz ?_; (with_reducible refine (spec_SizeOf.calls k _ _ t302 t303 t307 _ ?side1 ?side2 A10.out).mono ?_); (case side1 => exact cz (Kd.R_reads' HO305.out).2.2); (case side2 => exact (Kd.R_reads' HO305.out).2.1); rintro e w16 ⟨rfl, hb⟩; refine ⟨_, rfl, ?_⟩; replace HO305 := qz HO305 hb; replace HB := Aside0.mk (below_step (bz0 HB.out) hb); (try clear hb); (try clear hi)) | (go_at_call 23; (with_reducible refine (impl_ShowType.calls k _ _ t302 t303 t308 _ ?side1 ?side2 A12.out ?hT_).mono ?_); (case hT_ => exact PW.below hT_ (bz0 HB.out)); (case side1 => exact cz (Kd.R_reads' HO305.out).2.2); (case side2 => exact (Kd.R_reads' HO305.out).2.1); rintro e w17 ⟨rfl, hb⟩; replace HO305 := qz HO305 hb; replace HB := Aside0.mk (below_step (bz0 HB.out) hb); (try clear hb); (try clear hi)))
     go_meet
     case rel => exact ⟨_, (((t308.toList != ([] : List UInt8)) != false)), ez, H', ⟨by first | omega | exact Nat.le_refl _⟩, ⟨by refine rq ?_; exact HO305.out⟩, ⟨(bz0 HB.out)⟩⟩
   ·rw [if_neg c11] at H
    have c11b0 : (t306 == t307) = false := beq_eq_false_iff_ne.mpr c11
    have c11b1 : (t306 != t307) = true := bne_iff_ne.mpr c11
    (first | rw [c11b0] | (simp only [i64_w, i32_w]; rw [c11b0]) | skip)
    have H' := Aside0.mk H
    clear H
    go_wp2_with (first | ((with_reducible refine gate_callee (f := 22) rfl ?_); refine goesL_ (some 21) rfl rfl Tryd.func22 (by kernel_rfl) rfl #[.slice Ao8 t302.length co8, .int .i64 t303] rfl lz ?_; (with_reducible refine (spec_SizeOf.calls k _ _ t302 t303 t307 _ ?side1 ?side2 A10.out).mono ?_); (case side1 => exact cz (Kd.R_reads' HO305.out).2.2); (case side2 => exact (Kd.R_reads' HO305.out).2.1); rintro e w18 ⟨rfl, hb⟩; refine ⟨_, rfl, ?_⟩; replace HO305 := qz HO305 hb; replace HB := Aside0.mk (below_step (bz0 HB.out) hb); (try clear hb); (try clear hi)))
    go_meet
    case rel => exact ⟨_, (true), ez, H', ⟨by first | omega | exact Nat.le_refl _⟩, ⟨by refine rq ?_; exact HO305.out⟩, ⟨(bz0 HB.out)⟩⟩
  case rest =>
   clear HC6
   try clear c1
   try clear c2
   try clear p2
   try clear c3
   try clear c4
   try clear c9
   try clear c11
   try clear c11b0
   try clear c11b1
   try clear c13
   try clear c13b0
   obtain ⟨kq, x35_5, rfl, HA, HJ5, HO_3, HB⟩ := hcut
   cases kq with
   | zero => exact absurd HA.out (by simp [laws_FnSizes.j0])
   | succ kj5 =>
    have H := HA.out
    clear HA
    simp only [laws_FnSizes.j0] at H
    by_cases c19 : x35_5 = true
    ·subst c19
     have H1 := hp H
     clear H
     have H := H1
     clear H1
     obtain rfl := Option.some.inj H
     go_wp2
     go_ret
     exact ⟨gz, (bz0 HB.out)⟩
    ·replace c19 := Bool.eq_false_iff.mpr c19
     subst c19
     have H1 := hq H
     clear H
     have H := H1
     clear H1
     by_cases c20 : t306 = 0
     ·rw [if_pos c20] at H
      have c20b0 : (t306 == 0) = true := beq_iff_eq.mpr c20
      have c20b1 : (t306 != 0) = false := bne_eq_false_iff_eq.mpr c20
      clear c20
      replace H := bi H
      obtain ⟨t309, A210, H⟩ := H
      try dsimp only at H
      have A21 := Aside0.mk A210
      clear A210
      by_cases c22 : t309 = true
      ·subst c22
       have H1 := hp H
       clear H
       have H := H1
       clear H1
       by_cases c23 : t303 < 0
       ·rw [if_pos c23] at H
        have c23b0 := decide_eq_true c23
        clear c23
        obtain rfl := Option.some.inj H
        go_wp2_with (first | ((with_reducible refine gate_callee (f := 24) rfl ?_); refine goesL_ (some 39) rfl rfl Tryd.func24 (by kernel_rfl) rfl #[.slice Ao8 t302.length co8] rfl lz ?_; (with_reducible refine (spec_TableOk.calls kj5 _ _ t302 true _ ?side1 ?side2 A21.out).mono ?_); (case side1 => exact cz (Kd.R_reads' HO_3.out).2.2); (case side2 => exact (Kd.R_reads' HO_3.out).2.1); rintro e w24 ⟨rfl, hb⟩; refine ⟨_, rfl, ?_⟩; replace HO_3 := qz HO_3 hb; replace HB := Aside0.mk (below_step (bz0 HB.out) hb); (try clear hb); (try clear hi)))
        go_ret
        exact ⟨gz, (bz0 HB.out)⟩
       ·rw [if_neg c23] at H
        have c23b0 := decide_eq_false c23
        clear c23
        obtain rfl := Option.some.inj H
        go_wp2_with (first | ((with_reducible refine gate_callee (f := 24) rfl ?_); refine goesL_ (some 39) rfl rfl Tryd.func24 (by kernel_rfl) rfl #[.slice Ao8 t302.length co8] rfl lz ?_; (with_reducible refine (spec_TableOk.calls kj5 _ _ t302 true _ ?side1 ?side2 A21.out).mono ?_); (case side1 => exact cz (Kd.R_reads' HO_3.out).2.2); (case side2 => exact (Kd.R_reads' HO_3.out).2.1); rintro e w25 ⟨rfl, hb⟩; refine ⟨_, rfl, ?_⟩; replace HO_3 := qz HO_3 hb; replace HB := Aside0.mk (below_step (bz0 HB.out) hb); (try clear hb); (try clear hi)))
        go_ret
        exact ⟨gz, (bz0 HB.out)⟩
      ·replace c22 := Bool.eq_false_iff.mpr c22
       subst c22
       have H1 := hq H
       clear H
       have H := H1
       clear H1
       obtain rfl := Option.some.inj H
       go_wp2_with (first | ((with_reducible refine gate_callee (f := 24) rfl ?_); refine goesL_ (some 39) rfl rfl Tryd.func24 (by kernel_rfl) rfl #[.slice Ao8 t302.length co8] rfl lz ?_; (with_reducible refine (spec_TableOk.calls kj5 _ _ t302 false _ ?side1 ?side2 A21.out).mono ?_); (case side1 => exact cz (Kd.R_reads' HO_3.out).2.2); (case side2 => exact (Kd.R_reads' HO_3.out).2.1); rintro e w26 ⟨rfl, hb⟩; refine ⟨_, rfl, ?_⟩; replace HO_3 := qz HO_3 hb; replace HB := Aside0.mk (below_step (bz0 HB.out) hb); (try clear hb); (try clear hi)))
       go_ret
       exact ⟨gz, (bz0 HB.out)⟩
     ·rw [if_neg c20] at H
      have c20b0 : (t306 == 0) = false := beq_eq_false_iff_ne.mpr c20
      have c20b1 : (t306 != 0) = true := bne_iff_ne.mpr c20
      replace H := iz H
      obtain ⟨c27, H⟩ := H
      have c27b0 := decide_eq_true c27
      clear c27
      replace H := iz H
      obtain ⟨c28, H⟩ := H
      have c28b0 := decide_eq_true c28
      clear c28
      by_cases c29 : ((rd_T55 t302 t303).f0) = 0
      ·rw [if_pos c29] at H
       have c29b0 : (((rd_T55 t302 t303).f0) == 0) = true := beq_iff_eq.mpr c29
       have c29b1 : (((rd_T55 t302 t303).f0) != 0) = false := bne_eq_false_iff_eq.mpr c29
       clear c29
       by_cases c30 : ((rd_T55 t302 t303).f1) ≥ 0
       ·rw [if_pos c30] at H
        have c30b0 : decide (0 <= ((rd_T55 t302 t303).f1)) = true := decide_eq_true c30
        clear c30
        replace H := bi H
        obtain ⟨t312, A310, H⟩ := H
        try dsimp only at H
        have A31 := Aside0.mk A310
        clear A310
        obtain ⟨ji32, hji32⟩ : ∃ j_ : Int, (mn t312 61) = j_ := ⟨_, rfl⟩
        replace H : (some (t306 == (ji32))) = some r := by first | (rw [hji32] at H; exact H) | (simp only [hji32] at H ⊢; exact H)
        (try rw [hji32] at A31)
        (try (have hji32h : ji32 <= 61 := by (rw [<- hji32]; unfold mn; (repeat' split) <;> omega)))
        (try (have hji32g : ji32 <= 64 := by omega))
        have hji32_ : (if 61 < t312 then 61 else t312) = ji32 := hji32
        obtain rfl := Option.some.inj H
        have p310 : 0 <= (t303 : Int) := oz
        have q310 : t303 < (t302.length : Int) := oz
        obtain ⟨ad310, e310, hx310_0, hx310_1, hx310_2⟩ := at_T55 (Kd.R_reads' HO_3.out).2.2 t303 p310 q310
        cases e310
        replace p310 := eq_true p310
        replace q310 := eq_true q310
        go_wp2_with (first | ((with_reducible refine gate_dst (N := 6) rfl ?_); (try (refine gate_guard (by rfl) ?_; dsimp only)); refine box_event ?hg (N := 6) ?hd (cs := #[.int .i64 0, .int .i64 0, .int .i64 0]) (t := 55) ?hr ?_; (case hd => rfl); (case hg => rfl); (case hr => exact vz); intro gb311 hg w33 hbox hb; replace HO_3 := Aside0.mk (Kd.R_below (Kd.R_elderB (rz HO_3.out) gb311 (Nat.le_of_eq hg.symm)) hb); have BK311 := Aside0.mk (hbox); have GW311 := Aside0.mk ((by rw [hg]; exact (below_size (bz0 HB.out)) : w.heap.size <= gb311)); have GE311 := GW311; replace HB := Aside0.mk (below_step (bz0 HB.out) hb); clear hb hbox hg; obtain ⟨hcz34_0, hcz34_1, hcz34_2⟩ := cz3 BK311.out; obtain ⟨hfz34_0, hfz34_1, hfz34_2⟩ := fz3 BK311.out) | ((with_reducible refine gate_callee (f := 21) rfl ?_); refine goesL_ (some 65) rfl rfl Tryd.func21 (by kernel_rfl) rfl #[.slice (some ad310) t302.length co8, .int .i64 ((rd_T55 t302 t303).f1)] rfl lz ?_; (with_reducible refine (impl_SizeOf.calls kj5 _ _ t302 ((rd_T55 t302 t303).f1) t312 _ ?side1 ?side2 A31.out).mono ?_); (case side1 => refine (Kd.R_reads' (e := 55) (base := w.heap.size) (ok := fun k_ => (True /\ k_ ≠ gb311)) (n := t302.length) (c := co8) ?_).2.2; exact (by refine rq ?_; exact (Kd.R_mono (Kd.R_far (p := ⟨gb311, 2, none⟩) (Kd.R_far (p := ⟨gb311, 1, none⟩) (Kd.R_far (p := ⟨gb311, 0, none⟩) (Kd.R_mono HO_3.out (fun k_ hk => (⟨hk, hk.2⟩ : _ /\ k_ ≠ gb311))) (fun _ hk => hk.2) (.int .i64 ((rd_T55 t302 t303).f0))) (fun _ hk => hk.2) (.int .i64 ((rd_T55 t302 t303).f1))) (fun _ hk => hk.2) (.int .i64 ((rd_T55 t302 t303).f2))) (fun _ h_ => h_.1)))); (case side2 => exact (Kd.R_reads' HO_3.out).2.1); rintro e w35 ⟨rfl, hb⟩; refine ⟨_, rfl, ?_⟩; replace HO_3 := Aside0.mk (Kd.R_below (by refine rq ?_; exact (Kd.R_mono (Kd.R_far (p := ⟨gb311, 2, none⟩) (Kd.R_far (p := ⟨gb311, 1, none⟩) (Kd.R_far (p := ⟨gb311, 0, none⟩) (Kd.R_mono HO_3.out (fun k_ hk => (⟨hk, hk.2⟩ : _ /\ k_ ≠ gb311))) (fun _ hk => hk.2) (.int .i64 ((rd_T55 t302 t303).f0))) (fun _ hk => hk.2) (.int .i64 ((rd_T55 t302 t303).f1))) (fun _ hk => hk.2) (.int .i64 ((rd_T55 t302 t303).f2))) (fun _ h_ => h_.1))) hb); replace BK311 := Aside0.mk (blk_below (g := gb311) (o := .cells #[.int .i64 ((rd_T55 t302 t303).f0), .int .i64 ((rd_T55 t302 t303).f1), .int .i64 ((rd_T55 t302 t303).f2)] 55 (0, 0)) (by refine kq ?_; refine blk_put (cs := #[.int .i64 ((rd_T55 t302 t303).f0), .int .i64 ((rd_T55 t302 t303).f1), .int .i64 0]) ?_ 2 _ rfl; refine kq ?_; refine blk_put (cs := #[.int .i64 ((rd_T55 t302 t303).f0), .int .i64 0, .int .i64 0]) ?_ 1 _ rfl; refine kq ?_; refine blk_put (cs := #[.int .i64 0, .int .i64 0, .int .i64 0]) ?_ 0 _ rfl; refine kq ?_; exact BK311.out) hb); replace HB := Aside0.mk (below_step (bz1 HB.out GE311.out) hb); (try clear hb); (try clear hk); (try clear hi)))
        go_ret
        exact ⟨by first | rfl | (simp [errW_none, errW_some] <;> rfl) | (simp only [<- hji32]; first | rfl | (simp [errW_none, errW_some] <;> rfl)) | (simp [*, errW_none, errW_some] <;> rfl), (bz1 HB.out GE311.out)⟩
       ·rw [if_neg c30] at H
        have c30b0 : decide (0 <= ((rd_T55 t302 t303).f1)) = false := decide_eq_false c30
        clear c30
        obtain ⟨ji36, hji36⟩ : ∃ j_ : Int, (mn 1 61) = j_ := ⟨_, rfl⟩
        replace H : (some (t306 == (ji36))) = some r := by first | (rw [hji36] at H; exact H) | (simp only [hji36] at H ⊢; exact H)
        (try (have hji36h : ji36 <= 1 := by (rw [<- hji36]; unfold mn; (repeat' split) <;> omega)))
        (try (have hji36g : ji36 <= 64 := by omega))
        (try (have hji36l : 1 <= ji36 := by (rw [<- hji36]; unfold mn; (repeat' split) <;> omega)))
        (try (have hji36m : 0 <= ji36 := by omega))
        have hji36_ : (if 61 < 1 then 61 else 1) = ji36 := hji36
        obtain rfl := Option.some.inj H
        have p310 : 0 <= (t303 : Int) := oz
        have q310 : t303 < (t302.length : Int) := oz
        obtain ⟨ad310, e310, hx310_0, hx310_1, hx310_2⟩ := at_T55 (Kd.R_reads' HO_3.out).2.2 t303 p310 q310
        cases e310
        replace p310 := eq_true p310
        replace q310 := eq_true q310
        go_wp2_with (first | ((with_reducible refine gate_dst (N := 6) rfl ?_); (try (refine gate_guard (by rfl) ?_; dsimp only)); refine box_event ?hg (N := 6) ?hd (cs := #[.int .i64 0, .int .i64 0, .int .i64 0]) (t := 55) ?hr ?_; (case hd => rfl); (case hg => rfl); (case hr => exact vz); intro gb311 hg w37 hbox hb; replace HO_3 := Aside0.mk (Kd.R_below (Kd.R_elderB (rz HO_3.out) gb311 (Nat.le_of_eq hg.symm)) hb); have BK311 := Aside0.mk (hbox); have GW311 := Aside0.mk ((by rw [hg]; exact (below_size (bz0 HB.out)) : w.heap.size <= gb311)); have GE311 := GW311; replace HB := Aside0.mk (below_step (bz0 HB.out) hb); clear hb hbox hg; obtain ⟨hcz38_0, hcz38_1, hcz38_2⟩ := cz3 BK311.out; obtain ⟨hfz38_0, hfz38_1, hfz38_2⟩ := fz3 BK311.out))
        go_ret
        exact ⟨by first | rfl | (simp [errW_none, errW_some] <;> rfl) | (simp only [<- hji36]; first | rfl | (simp [errW_none, errW_some] <;> rfl)) | (simp [*, errW_none, errW_some] <;> rfl), (bz1 HB.out GE311.out)⟩
      ·rw [if_neg c29] at H
       have c29b0 : (((rd_T55 t302 t303).f0) == 0) = false := beq_eq_false_iff_ne.mpr c29
       have c29b1 : (((rd_T55 t302 t303).f0) != 0) = true := bne_iff_ne.mpr c29
       have HC39 := Aside0.mk H
       clear H
       have p310 : 0 <= (t303 : Int) := oz
       have q310 : t303 < (t302.length : Int) := oz
       obtain ⟨ad310, e310, hx310_0, hx310_1, hx310_2⟩ := at_T55 (Kd.R_reads' HO_3.out).2.2 t303 p310 q310
       cases e310
       replace p310 := eq_true p310
       replace q310 := eq_true q310
       go_upto_if 66 with (first | ((with_reducible refine gate_dst (N := 6) rfl ?_); (try (refine gate_guard (by rfl) ?_; dsimp only)); refine box_event ?hg (N := 6) ?hd (cs := #[.int .i64 0, .int .i64 0, .int .i64 0]) (t := 55) ?hr ?_; (case hd => rfl); (case hg => rfl); (case hr => exact vz); intro gb311 hg w40 hbox hb; replace HO_3 := Aside0.mk (Kd.R_below (Kd.R_elderB (rz HO_3.out) gb311 (Nat.le_of_eq hg.symm)) hb); have BK311 := Aside0.mk (hbox); have GW311 := Aside0.mk ((by rw [hg]; exact (below_size (bz0 HB.out)) : w.heap.size <= gb311)); have GE311 := GW311; replace HB := Aside0.mk (below_step (bz0 HB.out) hb); clear hb hbox hg; obtain ⟨hcz41_0, hcz41_1, hcz41_2⟩ := cz3 BK311.out; obtain ⟨hfz41_0, hfz41_1, hfz41_2⟩ := fz3 BK311.out))
       (try simp only [Act.put, sz1, sz2, sz3])
       go_cut [66] (fun v66 wc => ∃ (kq : Nat) (x66_38 : Bool), v66 = .bool x66_38 /\ Aside0 (laws_FnSizes.j1 kq t302 t306 1 ((rd_T55 t302 t303).f0) x66_38 ((rd_T55 t302 t303).f0) ((rd_T55 t302 t303).f1) ((rd_T55 t302 t303).f2) = some r) /\ Aside0 (kq <= kj5) /\ Aside0 (Kd.R k55 55 wc w.heap.size (fun k_ => k_ ≠ gb311) (.slice (some ad310) t302.length co8) t302) /\ Aside0 (wc.heap[gb311]? = some (.cells #[.int .i64 ((rd_T55 t302 t303).f0), .int .i64 ((rd_T55 t302 t303).f1), .int .i64 ((rd_T55 t302 t303).f2)] 55 (0, 0))) /\ Aside0 (Below w.heap.size w wc))
       case first =>
        have H := HC39.out
        clear HC39
        by_cases c42 : ((rd_T55 t302 t303).f0) = 2
        ·rw [if_pos c42] at H
         have c42b0 : (((rd_T55 t302 t303).f0) == 2) = true := beq_iff_eq.mpr c42
         have c42b1 : (((rd_T55 t302 t303).f0) != 2) = false := bne_eq_false_iff_eq.mpr c42
         clear c42
         (first | rw [c42b0] | (simp only [i64_w, i32_w]; rw [c42b0]) | skip)
         have H' := Aside0.mk H
         clear H
         go_wp2
         go_meet
         case rel => exact ⟨_, ((((rd_T55 t302 t303).f0) == 2)), ez, H', ⟨by have := HJ5.out; first | omega | exact Nat.le_refl _⟩, ⟨by refine rq ?_; first | (with_reducible exact Kd.R_mono (Kd.R_far (p := ⟨gb311, 2, none⟩) (Kd.R_far (p := ⟨gb311, 1, none⟩) (Kd.R_far (p := ⟨gb311, 0, none⟩) (Kd.R_mono HO_3.out (fun k_ hk => (⟨hk, hk.2⟩ : _ /\ k_ ≠ gb311))) (fun _ hk => hk.2) (.int .i64 ((rd_T55 t302 t303).f0))) (fun _ hk => hk.2) (.int .i64 ((rd_T55 t302 t303).f1))) (fun _ hk => hk.2) (.int .i64 ((rd_T55 t302 t303).f2))) (fun _ hk => hk.1.2)) | exact Kd.R_mono (Kd.R_far (p := ⟨gb311, 2, none⟩) (Kd.R_drewN (Kd.R_far (p := ⟨gb311, 1, none⟩) (Kd.R_far (p := ⟨gb311, 0, none⟩) (Kd.R_mono HO_3.out (fun k_ hk => (⟨hk, hk.2⟩ : _ /\ k_ ≠ gb311))) (fun _ hk => hk.2) (.int .i64 ((rd_T55 t302 t303).f0))) (fun _ hk => hk.2) (.int .i64 ((rd_T55 t302 t303).f1))) _) (fun _ hk => hk.2) (.int .i64 ((rd_T55 t302 t303).f2))) (fun _ hk => hk.1.2)⟩, ⟨by refine kq ?_; refine blk_put (cs := #[.int .i64 ((rd_T55 t302 t303).f0), .int .i64 ((rd_T55 t302 t303).f1), .int .i64 0]) ?_ 2 _ rfl; refine kq ?_; refine blk_put (cs := #[.int .i64 ((rd_T55 t302 t303).f0), .int .i64 0, .int .i64 0]) ?_ 1 _ rfl; refine kq ?_; refine blk_put (cs := #[.int .i64 0, .int .i64 0, .int .i64 0]) ?_ 0 _ rfl; refine kq ?_; exact BK311.out⟩, ⟨(bz1 HB.out GE311.out)⟩⟩
        ·rw [if_neg c42] at H
         have c42b0 : (((rd_T55 t302 t303).f0) == 2) = false := beq_eq_false_iff_ne.mpr c42
         have c42b1 : (((rd_T55 t302 t303).f0) != 2) = true := bne_iff_ne.mpr c42
         (first | rw [c42b0] | (simp only [i64_w, i32_w]; rw [c42b0]) | skip)
         have H' := Aside0.mk H
         clear H
         go_wp2
         go_meet
         case rel => exact ⟨_, ((((rd_T55 t302 t303).f0) == 3)), ez, H', ⟨by have := HJ5.out; first | omega | exact Nat.le_refl _⟩, ⟨by refine rq ?_; first | (with_reducible exact Kd.R_mono (Kd.R_far (p := ⟨gb311, 2, none⟩) (Kd.R_far (p := ⟨gb311, 1, none⟩) (Kd.R_far (p := ⟨gb311, 0, none⟩) (Kd.R_mono HO_3.out (fun k_ hk => (⟨hk, hk.2⟩ : _ /\ k_ ≠ gb311))) (fun _ hk => hk.2) (.int .i64 ((rd_T55 t302 t303).f0))) (fun _ hk => hk.2) (.int .i64 ((rd_T55 t302 t303).f1))) (fun _ hk => hk.2) (.int .i64 ((rd_T55 t302 t303).f2))) (fun _ hk => hk.1.2)) | exact Kd.R_mono (Kd.R_far (p := ⟨gb311, 2, none⟩) (Kd.R_drewN (Kd.R_far (p := ⟨gb311, 1, none⟩) (Kd.R_far (p := ⟨gb311, 0, none⟩) (Kd.R_mono HO_3.out (fun k_ hk => (⟨hk, hk.2⟩ : _ /\ k_ ≠ gb311))) (fun _ hk => hk.2) (.int .i64 ((rd_T55 t302 t303).f0))) (fun _ hk => hk.2) (.int .i64 ((rd_T55 t302 t303).f1))) _) (fun _ hk => hk.2) (.int .i64 ((rd_T55 t302 t303).f2))) (fun _ hk => hk.1.2)⟩, ⟨by refine kq ?_; refine blk_put (cs := #[.int .i64 ((rd_T55 t302 t303).f0), .int .i64 ((rd_T55 t302 t303).f1), .int .i64 0]) ?_ 2 _ rfl; refine kq ?_; refine blk_put (cs := #[.int .i64 ((rd_T55 t302 t303).f0), .int .i64 0, .int .i64 0]) ?_ 1 _ rfl; refine kq ?_; refine blk_put (cs := #[.int .i64 0, .int .i64 0, .int .i64 0]) ?_ 0 _ rfl; refine kq ?_; exact BK311.out⟩, ⟨(bz1 HB.out GE311.out)⟩⟩
       case rest =>
        clear HC39
        try clear c1
        try clear c2
        try clear p2
        try clear c3
        try clear p3
        try clear q3
        try clear hx3
        try clear c4
        try clear c9
        try clear c11
        try clear c11b0
        try clear c11b1
        try clear c13
        try clear c13b0
        try clear c19
        try clear c20
        try clear c20b0
        try clear c20b1
        try clear c21
        try clear c22
        try clear c23
        try clear c23b0
        try clear c24
        try clear c27
        try clear c27b0
        try clear c28
        try clear c28b0
        try clear c29
        try clear c29b0
        try clear c29b1
        try clear c30
        try clear c30b0
        try clear p31
        try clear q31
        try clear hx31
        try clear c42
        try clear c42b0
        try clear c42b1
        try clear hcz34_0 hcz34_1 hcz34_2
        try clear hcz38_0 hcz38_1 hcz38_2
        try clear hcz41_0 hcz41_1 hcz41_2
        try clear hfz34_0 hfz34_1 hfz34_2
        try clear hfz38_0 hfz38_1 hfz38_2
        try clear hfz41_0 hfz41_1 hfz41_2
        try clear hx310_0
        try clear hx310_1
        try clear hx310_2
        try clear p2
        try clear p310
        try clear q310
        obtain ⟨kq, x66_38, rfl, HA, HJ38, HO_3, BK311, HB⟩ := hcut
        cases kq with
        | zero => exact absurd HA.out (by simp [laws_FnSizes.j1])
        | succ kj38 =>
         have H := HA.out
         clear HA
         simp only [laws_FnSizes.j1] at H
         by_cases c43 : x66_38 = true
         ·subst c43
          have H1 := hp H
          clear H
          have H := H1
          clear H1
          replace H := bi H
          obtain ⟨t313, A440, H⟩ := H
          try dsimp only at H
          have A44 := Aside0.mk A440
          clear A440
          replace H := bi H
          obtain ⟨t314, A450, H⟩ := H
          try dsimp only at H
          have A45 := Aside0.mk A450
          clear A450
          obtain ⟨ji46, hji46⟩ : ∃ j_ : Int, (mn (wrap64 ((wrap64 (1 + t313)) + t314)) 61) = j_ := ⟨_, rfl⟩
          replace H : (some (t306 == (ji46))) = some r := by first | (rw [hji46] at H; exact H) | (simp only [hji46] at H ⊢; exact H)
          (try rw [hji46] at A44)
          (try rw [hji46] at A45)
          (try (have hji46h : ji46 <= 61 := by (rw [<- hji46]; unfold mn; (repeat' split) <;> omega)))
          (try (have hji46g : ji46 <= 64 := by omega))
          have hji46_ : (if 61 < (wrap64 ((wrap64 (1 + t313)) + t314)) then 61 else (wrap64 ((wrap64 (1 + t313)) + t314))) = ji46 := hji46
          obtain rfl := Option.some.inj H
          try go_wp2
          have n0_ := Aside0.mk (Kd.R_drew HO_3.out)
          have n1_ := Aside0.mk (blk_drew BK311.out)
          have n2_ := Aside0.mk (below_drew1 HB.out)
          clear HO_3
          clear BK311
          clear HB
          have HO_3 := n0_
          have BK311 := n1_
          have HB := n2_
          clear n0_ n1_ n2_
          refine start_ (n := 11) (S := fun w' => w'.cell? ⟨gb311, 0, none⟩ = some (.int .i64 ((rd_T55 t302 t303).f0)) /\ w'.cell? ⟨gb311, 1, none⟩ = some (.int .i64 ((rd_T55 t302 t303).f1)) /\ w'.cell? ⟨gb311, 2, none⟩ = some (.int .i64 ((rd_T55 t302 t303).f2))) (ds := []) (mk_ 0 11) (by kernel_rfl) rfl rfl ⟨(blk_cell BK311.out 0).trans rfl, (blk_cell BK311.out 1).trans rfl, (blk_cell BK311.out 2).trans rfl⟩ (fun hHeld => ?_); refine with_tabW laws_FnSizes.tab17 laws_FnSizes.bits17 (fun HT_ HW_ => ?_)
          generalize wc.drew = w47 at HO_3 BK311 HB hHeld ⊢
          refine pv 0 69 (mk_ 1 10) HT_ rfl rfl ?_
          refine pv 1 70 (mk_ 2 9) HT_ rfl rfl ?_
          refine pv 5 74 (bm_ 11 35) HT_ rfl rfl ?_
          refine pv 6 75 (bm_ 11 99) HT_ rfl rfl ?_
          refine tv3 2 71 (bm_ 11 103) HT_ HW_ rfl rfl hHeld ?_
          refine tv3 7 76 (bm_ 11 231) HT_ HW_ rfl rfl hHeld ?_
          refine one_ (i := 3) (N := some 72) (bm_ 11 239) rfl rfl (one_of HT_.out (by kernel_rfl)) (by decide) (fun K hK => ?_)
          refine goes_ Tryd.func21 (by kernel_rfl) rfl #[.slice (some ad310) t302.length co8, .int .i64 ((rd_T55 t302 t303).f1)] (by rfl) rfl rfl lz ?_
          with_reducible refine (impl_SizeOf.calls kj38 _ _ t302 ((rd_T55 t302 t303).f1) t313 _ ?side1 ?side2 A44.out).mono ?_
          (case side1 => exact cz (Kd.R_reads' HO_3.out).2.2)
          (case side2 => exact (Kd.R_reads' HO_3.out).2.1)
          rintro e w48 ⟨rfl, hb⟩
          refine ⟨_, rfl, ?_⟩
          have n0_ := qz HO_3 hb
          have n1_ := Aside0.mk (blk_below (kz BK311.out) hb)
          have n2_ := Aside0.mk (below_step (bz1 HB.out GE311.out) hb)
          clear HO_3
          clear BK311
          clear HB
          have HO_3 := n0_
          have BK311 := n1_
          have HB := n2_
          clear n0_ n1_ n2_
          (try clear hb)
          (try clear hb2)
          (try clear hk)
          (try clear hi)
          refine hK.out _ _ ⟨(blk_cell BK311.out 0).trans rfl, (blk_cell BK311.out 1).trans rfl, (blk_cell BK311.out 2).trans rfl⟩ (fun hHeld => ?_)
          clear hK K
          refine norm_ (a' := ?_) ?_ ?_
          rotate_left
          ·show Act.put _ (some 72) _ = _
           simp only [Act.put, sz1, sz2, sz3, i64_w, i32_w]
           rfl
          refine pv 4 73 (mk_ 8 3) HT_ rfl rfl ?_
          refine one_ (i := 8) (N := some 77) (mk_ 9 2) rfl rfl (one_of HT_.out (by kernel_rfl)) (by decide) (fun K hK => ?_)
          refine goes_ Tryd.func21 (by kernel_rfl) rfl #[.slice (some ad310) t302.length co8, .int .i64 ((rd_T55 t302 t303).f2)] (by rfl) rfl rfl lz ?_
          with_reducible refine (impl_SizeOf.calls kj38 _ _ t302 ((rd_T55 t302 t303).f2) t314 _ ?side1 ?side2 A45.out).mono ?_
          (case side1 => exact cz (Kd.R_reads' HO_3.out).2.2)
          (case side2 => exact (Kd.R_reads' HO_3.out).2.1)
          rintro e w49 ⟨rfl, hb⟩
          refine ⟨_, rfl, ?_⟩
          have n0_ := qz HO_3 hb
          have n1_ := Aside0.mk (blk_below (kz BK311.out) hb)
          have n2_ := Aside0.mk (below_step (bz1 HB.out GE311.out) hb)
          clear HO_3
          clear BK311
          clear HB
          have HO_3 := n0_
          have BK311 := n1_
          have HB := n2_
          clear n0_ n1_ n2_
          (try clear hb)
          (try clear hb2)
          (try clear hk)
          (try clear hi)
          refine hK.out _ _ ⟨(blk_cell BK311.out 0).trans rfl, (blk_cell BK311.out 1).trans rfl, (blk_cell BK311.out 2).trans rfl⟩ (fun hHeld => ?_)
          clear hK K
          refine norm_ (a' := ?_) ?_ ?_
          rotate_left
          ·show Act.put _ (some 77) _ = _
           simp only [Act.put, sz1, sz2, sz3, i64_w, i32_w]
           rfl
          refine pv 9 78 (mk_ 10 1) HT_ rfl rfl ?_
          refine pv 10 7 (mk_ 11 0) HT_ rfl rfl ?_
          refine done_ (done_of HT_.out (by kernel_rfl)) ?_
          try go_wp2
          go_ret
          exact ⟨by first | rfl | (simp [errW_none, errW_some] <;> rfl) | (simp only [<- hji46]; first | rfl | (simp [errW_none, errW_some] <;> rfl)) | (simp [*, errW_none, errW_some] <;> rfl), (bz1 HB.out GE311.out)⟩
         ·replace c43 := Bool.eq_false_iff.mpr c43
          subst c43
          have H1 := hq H
          clear H
          have H := H1
          clear H1
          by_cases c50 : ((rd_T55 t302 t303).f0) = 4
          ·rw [if_pos c50] at H
           have c50b0 : (((rd_T55 t302 t303).f0) == 4) = true := beq_iff_eq.mpr c50
           have c50b1 : (((rd_T55 t302 t303).f0) != 4) = false := bne_eq_false_iff_eq.mpr c50
           clear c50
           replace H := bi H
           obtain ⟨t315, A510, H⟩ := H
           try dsimp only at H
           have A51 := Aside0.mk A510
           clear A510
           obtain ⟨ji52, hji52⟩ : ∃ j_ : Int, (mn (wrap64 (1 + t315)) 61) = j_ := ⟨_, rfl⟩
           replace H : (some (t306 == (ji52))) = some r := by first | (rw [hji52] at H; exact H) | (simp only [hji52] at H ⊢; exact H)
           (try rw [hji52] at A51)
           (try (have hji52h : ji52 <= 61 := by (rw [<- hji52]; unfold mn; (repeat' split) <;> omega)))
           (try (have hji52g : ji52 <= 64 := by omega))
           have hji52_ : (if 61 < (wrap64 (1 + t315)) then 61 else (wrap64 (1 + t315))) = ji52 := hji52
           obtain rfl := Option.some.inj H
           obtain ⟨hcz53_0, hcz53_1, hcz53_2⟩ := cz3 BK311.out
           obtain ⟨hfz53_0, hfz53_1, hfz53_2⟩ := fz3 BK311.out
           go_wp2_with (first | ((with_reducible refine gate_callee (f := 21) rfl ?_); refine goesL_ (some 85) rfl rfl Tryd.func21 (by kernel_rfl) rfl #[.slice (some ad310) t302.length co8, .int .i64 ((rd_T55 t302 t303).f1)] rfl lz ?_; (with_reducible refine (impl_SizeOf.calls kj38 _ _ t302 ((rd_T55 t302 t303).f1) t315 _ ?side1 ?side2 A51.out).mono ?_); (case side1 => exact cz (Kd.R_reads' HO_3.out).2.2); (case side2 => exact (Kd.R_reads' HO_3.out).2.1); rintro e w54 ⟨rfl, hb⟩; refine ⟨_, rfl, ?_⟩; replace HO_3 := qz HO_3 hb; replace BK311 := Aside0.mk (blk_below (kz BK311.out) hb); replace HB := Aside0.mk (below_step (bz1 HB.out GE311.out) hb); (try clear hb); (try clear hi)))
           go_ret
           exact ⟨by first | rfl | (simp [errW_none, errW_some] <;> rfl) | (simp only [<- hji52]; first | rfl | (simp [errW_none, errW_some] <;> rfl)) | (simp [*, errW_none, errW_some] <;> rfl), (bz1 HB.out GE311.out)⟩
          ·rw [if_neg c50] at H
           have c50b0 : (((rd_T55 t302 t303).f0) == 4) = false := beq_eq_false_iff_ne.mpr c50
           have c50b1 : (((rd_T55 t302 t303).f0) != 4) = true := bne_iff_ne.mpr c50
           by_cases c55 : ((rd_T55 t302 t303).f0) = 5
           ·rw [if_pos c55] at H
            have c55b0 : (((rd_T55 t302 t303).f0) == 5) = true := beq_iff_eq.mpr c55
            have c55b1 : (((rd_T55 t302 t303).f0) != 5) = false := bne_eq_false_iff_eq.mpr c55
            clear c55
            replace H := bi H
            obtain ⟨t316, A560, H⟩ := H
            try dsimp only at H
            have A56 := Aside0.mk A560
            clear A560
            obtain ⟨ji57, hji57⟩ : ∃ j_ : Int, (mn (wrap64 (1 + t316)) 61) = j_ := ⟨_, rfl⟩
            replace H : (some (t306 == (ji57))) = some r := by first | (rw [hji57] at H; exact H) | (simp only [hji57] at H ⊢; exact H)
            (try rw [hji57] at A56)
            (try (have hji57h : ji57 <= 61 := by (rw [<- hji57]; unfold mn; (repeat' split) <;> omega)))
            (try (have hji57g : ji57 <= 64 := by omega))
            have hji57_ : (if 61 < (wrap64 (1 + t316)) then 61 else (wrap64 (1 + t316))) = ji57 := hji57
            obtain rfl := Option.some.inj H
            obtain ⟨hcz58_0, hcz58_1, hcz58_2⟩ := cz3 BK311.out
            obtain ⟨hfz58_0, hfz58_1, hfz58_2⟩ := fz3 BK311.out
            go_wp2_with (first | ((with_reducible refine gate_callee (f := 21) rfl ?_); refine goesL_ (some 85) rfl rfl Tryd.func21 (by kernel_rfl) rfl #[.slice (some ad310) t302.length co8, .int .i64 ((rd_T55 t302 t303).f1)] rfl lz ?_; (with_reducible refine (impl_SizeOf.calls kj38 _ _ t302 ((rd_T55 t302 t303).f1) t316 _ ?side1 ?side2 A56.out).mono ?_); (case side1 => exact cz (Kd.R_reads' HO_3.out).2.2); (case side2 => exact (Kd.R_reads' HO_3.out).2.1); rintro e w59 ⟨rfl, hb⟩; refine ⟨_, rfl, ?_⟩; replace HO_3 := qz HO_3 hb; replace BK311 := Aside0.mk (blk_below (kz BK311.out) hb); replace HB := Aside0.mk (below_step (bz1 HB.out GE311.out) hb); (try clear hb); (try clear hi)))
            go_ret
            exact ⟨by first | rfl | (simp [errW_none, errW_some] <;> rfl) | (simp only [<- hji57]; first | rfl | (simp [errW_none, errW_some] <;> rfl)) | (simp [*, errW_none, errW_some] <;> rfl), (bz1 HB.out GE311.out)⟩
           ·rw [if_neg c55] at H
            have c55b0 : (((rd_T55 t302 t303).f0) == 5) = false := beq_eq_false_iff_ne.mpr c55
            have c55b1 : (((rd_T55 t302 t303).f0) != 5) = true := bne_iff_ne.mpr c55
            obtain ⟨ji60, hji60⟩ : ∃ j_ : Int, (mn 1 61) = j_ := ⟨_, rfl⟩
            replace H : (some (t306 == (ji60))) = some r := by first | (rw [hji60] at H; exact H) | (simp only [hji60] at H ⊢; exact H)
            (try (have hji60h : ji60 <= 1 := by (rw [<- hji60]; unfold mn; (repeat' split) <;> omega)))
            (try (have hji60g : ji60 <= 64 := by omega))
            (try (have hji60l : 1 <= ji60 := by (rw [<- hji60]; unfold mn; (repeat' split) <;> omega)))
            (try (have hji60m : 0 <= ji60 := by omega))
            have hji60_ : (if 61 < 1 then 61 else 1) = ji60 := hji60
            obtain rfl := Option.some.inj H
            go_wp2
            go_ret
            exact ⟨by first | rfl | (simp [errW_none, errW_some] <;> rfl) | (simp only [<- hji60]; first | rfl | (simp [errW_none, errW_some] <;> rfl)) | (simp [*, errW_none, errW_some] <;> rfl), (bz1 HB.out GE311.out)⟩
def laws_FnSizes.Pure : Prop := ∀ (l0 : List Int), l0.length <= maxLen -> l0.length * 1 <= 140737488351232 -> (∀ x ∈ l0, (Lit.int .u8 x).wf = true) -> ∃ k, laws_FnSizes.f k l0 = some true
end Go.Proofs.YtlhofeikcaejpaaDoor.PFnSizes
