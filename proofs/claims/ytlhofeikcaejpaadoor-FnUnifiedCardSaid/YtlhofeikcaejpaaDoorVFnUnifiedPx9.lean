/- PFnUnifiedx9, of the words and walks that the law FnUnified needs; made by this session's program out of printed texts. -/

import Derived.Test.YtlhofeikcaejpaaDoorVFnUnifiedPx0
import Derived.Test.YtlhofeikcaejpaaDoorVFnUnifiedPx1
import Derived.Test.YtlhofeikcaejpaaDoorVFnUnifiedPx3
import Derived.Test.YtlhofeikcaejpaaDoorVFnUnifiedPx4
import Derived.Test.YtlhofeikcaejpaaDoorVFnUnifiedPx5
import Derived.Test.YtlhofeikcaejpaaDoorVFnUnifiedPx6
import Derived.Test.YtlhofeikcaejpaaDoorVFnUnifiedPx7
import Derived.Test.YtlhofeikcaejpaaDoorVFnUnifiedPx8
namespace Go.Proofs.YtlhofeikcaejpaaDoor.PFnUnified
open Go.RowKit Go.Proofs.YtlhofeikcaejpaaDoorW.PrintWords Go.Proofs.YtlhofeikcaejpaaDoorW.PrintLast Go.Proofs.YtlhofeikcaejpaaDoorW.PrintMore
attribute [local go_sem] max2_int min2_int max_two min_two max_three min_three max_four min_four
set_option linter.unusedVariables false
set_option linter.unusedSimpArgs false
def laws_FnUnified.j0 : Nat -> List (S55) -> Int -> ByteArray -> Bool -> Int -> Bool -> Option (Bool)
 | 0, _, _, _, _, _, _ => none
 | k + 1, x3, x4, x6, x7, x12, x79 => if x79 = true then (some false) else ((spec_TableOk.f k x3).bind fun t320 => (if t320 = true then (some (x7 == (decide ((x6.size : Int) > 0)))) else (if x7 = true then (some false) else (if x12 = 0 then ((impl_ShowType.f k x3 x4).bind fun t321 => (some (t321.toList == ([] : List UInt8)))) else (some false)))))
def laws_FnUnified.f (k : Nat) (l0 : List Int) : Option (Bool) := (laws_big.f l0).bind fun t304 => (if t304 = true then (some true) else ((spec_DrawUnified.f k l0).bind fun bt305 => ((impl_Unified.f k bt305.1 bt305.2.1 bt305.2.2).bind fun bt310 => ((impl_Unified.f k bt305.1 bt305.2.2 bt305.2.1).bind fun bt312 => ((impl_Unified.f k bt305.1 bt305.2.1 bt305.2.1).bind fun bt314 => ((impl_SizeOf.f k bt305.1 bt305.2.1).bind fun t316 => ((spec_SizeOf.f k bt305.1 bt305.2.1).bind fun t317 => (if t316 = t317 then (if (bt310.2 != bt312.2) = true then (laws_FnUnified.j0 k bt305.1 bt305.2.1 bt310.1 bt310.2 t316 true) else (if bt310.1.toList = bt312.1.toList then (if t316 ≥ 1 then (if (bt314.2 != (decide (t316 <= 60))) = true then (laws_FnUnified.j0 k bt305.1 bt305.2.1 bt310.1 bt310.2 t316 true) else (if bt314.2 = true then ((impl_ShowType.f k bt305.1 bt305.2.1).bind fun t318 => (laws_FnUnified.j0 k bt305.1 bt305.2.1 bt310.1 bt310.2 t316 (bt314.1.toList != t318.toList))) else (laws_FnUnified.j0 k bt305.1 bt305.2.1 bt310.1 bt310.2 t316 false))) else (if (bt314.2 != false) = true then (laws_FnUnified.j0 k bt305.1 bt305.2.1 bt310.1 bt310.2 t316 true) else (if bt314.2 = true then ((impl_ShowType.f k bt305.1 bt305.2.1).bind fun t319 => (laws_FnUnified.j0 k bt305.1 bt305.2.1 bt310.1 bt310.2 t316 (bt314.1.toList != t319.toList))) else (laws_FnUnified.j0 k bt305.1 bt305.2.1 bt310.1 bt310.2 t316 false)))) else (laws_FnUnified.j0 k bt305.1 bt305.2.1 bt310.1 bt310.2 t316 true))) else (laws_FnUnified.j0 k bt305.1 bt305.2.1 bt310.1 bt310.2 t316 true)))))))))
theorem laws_FnUnified.mono_l : ∀ k, (∀ y0 y1 y2 y3 y4 y5, LeO (laws_FnUnified.j0 k y0 y1 y2 y3 y4 y5) (laws_FnUnified.j0 (k + 1) y0 y1 y2 y3 y4 y5))
 | 0 => fun _ _ _ _ _ _ r h => by simp [laws_FnUnified.j0] at h
 | k + 1 => by
  have ih0 := laws_FnUnified.mono_l k
  ·intro y0 y1 y2 y3 y4 y5
   unfold laws_FnUnified.j0
   with_reducible repeat' first | exact ih0 _ _ _ _ _ _ | exact impl_ShowType.mono _ _ _ | exact impl_SizeOf.mono _ _ _ | exact impl_Unified.mono _ _ _ _ | exact spec_DrawUnified.mono _ _ | exact spec_SizeOf.mono _ _ _ | exact spec_TableOk.mono _ _ | exact lrz _ | exact lnz _ | refine liz ?_ ?_ | refine lbz ?_ fun _ => ?_
theorem laws_FnUnified.mono : ∀ a0 k, LeO (laws_FnUnified.f k a0) (laws_FnUnified.f (k + 1) a0) := by
 intro a0 k
 have ih0 := laws_FnUnified.mono_l k
 unfold laws_FnUnified.f
 with_reducible repeat' first | exact ih0 _ _ _ _ _ _ | exact impl_ShowType.mono _ _ _ | exact impl_SizeOf.mono _ _ _ | exact impl_Unified.mono _ _ _ _ | exact spec_DrawUnified.mono _ _ | exact spec_SizeOf.mono _ _ _ | exact spec_TableOk.mono _ _ | exact lrz _ | exact lnz _ | refine liz ?_ ?_ | refine lbz ?_ fun _ => ?_
set_option maxHeartbeats 8000000 in
set_option maxRecDepth 100000 in
theorem laws_FnUnified.calls (k : Nat) (A0 : Option Addr) (c0 : Nat) (l0 : List Int) (r : Bool) (w : World) (hr0 : Kd.C (Kd.int .u8) w A0 l0.length l0) (hc0 : l0.length <= c0) (h : laws_FnUnified.f k l0 = some r) (hT_ : PW w) :
  Calls Tryd.prog 6 #[.slice A0 l0.length c0] w fun e w' => e = .returned (.bool r) /\ Below w.heap.size w w' := by
 have HR0 := Aside0.mk hr0
 have HC0 := Aside0.mk hc0
 clear hr0 hc0
 have HB := Aside0.mk (Below.refl w.heap.size w)
 have H : ((laws_big.f l0).bind fun t304 => (if t304 = true then (some true) else ((spec_DrawUnified.f k l0).bind fun bt305 => ((impl_Unified.f k bt305.1 bt305.2.1 bt305.2.2).bind fun bt310 => ((impl_Unified.f k bt305.1 bt305.2.2 bt305.2.1).bind fun bt312 => ((impl_Unified.f k bt305.1 bt305.2.1 bt305.2.1).bind fun bt314 => ((impl_SizeOf.f k bt305.1 bt305.2.1).bind fun t316 => ((spec_SizeOf.f k bt305.1 bt305.2.1).bind fun t317 => (if t316 = t317 then (if (bt310.2 != bt312.2) = true then (laws_FnUnified.j0 k bt305.1 bt305.2.1 bt310.1 bt310.2 t316 true) else (if bt310.1.toList = bt312.1.toList then (if t316 ≥ 1 then (if (bt314.2 != (decide (t316 <= 60))) = true then (laws_FnUnified.j0 k bt305.1 bt305.2.1 bt310.1 bt310.2 t316 true) else (if bt314.2 = true then ((impl_ShowType.f k bt305.1 bt305.2.1).bind fun t318 => (laws_FnUnified.j0 k bt305.1 bt305.2.1 bt310.1 bt310.2 t316 (bt314.1.toList != t318.toList))) else (laws_FnUnified.j0 k bt305.1 bt305.2.1 bt310.1 bt310.2 t316 false))) else (if (bt314.2 != false) = true then (laws_FnUnified.j0 k bt305.1 bt305.2.1 bt310.1 bt310.2 t316 true) else (if bt314.2 = true then ((impl_ShowType.f k bt305.1 bt305.2.1).bind fun t319 => (laws_FnUnified.j0 k bt305.1 bt305.2.1 bt310.1 bt310.2 t316 (bt314.1.toList != t319.toList))) else (laws_FnUnified.j0 k bt305.1 bt305.2.1 bt310.1 bt310.2 t316 false)))) else (laws_FnUnified.j0 k bt305.1 bt305.2.1 bt310.1 bt310.2 t316 true))) else (laws_FnUnified.j0 k bt305.1 bt305.2.1 bt310.1 bt310.2 t316 true)))))))))) = some r := h
 clear h
 replace H := bi H
 obtain ⟨t304, A20, H⟩ := H
 try dsimp only at H
 have A2 := Aside0.mk A20
 clear A20
 by_cases c3 : t304 = true
 ·subst c3
  have H1 := hp H
  clear H
  have H := H1
  clear H1
  obtain rfl := Option.some.inj H
  go_enter Tryd.func6, Tryd.ntmps6
  go_wp2_with (first | ((with_reducible refine gate_callee (f := 9) rfl ?_); refine goesL_ (some 14) rfl rfl Tryd.func9 (by kernel_rfl) rfl #[.slice A0 l0.length c0] rfl lz ?_; (with_reducible refine (laws_big.calls _ _ l0 true _ ?side1 ?side2 A2.out).mono ?_); (case side1 => repeat (first | exact HR0.out | (with_reducible refine Kd.C_alloc ?_ _) | (with_reducible refine Kd.C_drewN ?_ _) | (with_reducible refine Kd.C_drew ?_))); (case side2 => exact HC0.out); rintro e w' ⟨rfl, ⟨nd, rfl⟩⟩; refine ⟨_, rfl, ?_⟩))
  go_ret
  exact ⟨gz, (bz0 HB.out)⟩
 ·replace c3 := Bool.eq_false_iff.mpr c3
  subst c3
  have H1 := hq H
  clear H
  have H := H1
  clear H1
  replace H := bi H
  obtain ⟨⟨t305, t306, t307⟩, A40, H⟩ := H
  try dsimp only at H
  have A4 := Aside0.mk A40
  clear A40
  replace H := bi H
  obtain ⟨⟨t310, t311⟩, A50, H⟩ := H
  try dsimp only at H
  have A5 := Aside0.mk A50
  clear A50
  replace H := bi H
  obtain ⟨⟨t312, t313⟩, A60, H⟩ := H
  try dsimp only at H
  have A6 := Aside0.mk A60
  clear A60
  replace H := bi H
  obtain ⟨⟨t314, t315⟩, A70, H⟩ := H
  try dsimp only at H
  have A7 := Aside0.mk A70
  clear A70
  replace H := bi H
  obtain ⟨t316, A80, H⟩ := H
  try dsimp only at H
  have A8 := Aside0.mk A80
  clear A80
  have HC9 := Aside0.mk H
  clear H
  go_enter Tryd.func6, Tryd.ntmps6
  go_upto_region 8 with (first | ((with_reducible refine gate_callee (f := 9) rfl ?_); refine goesL_ (some 14) rfl rfl Tryd.func9 (by kernel_rfl) rfl #[.slice A0 l0.length c0] rfl lz ?_; (with_reducible refine (laws_big.calls _ _ l0 false _ ?side1 ?side2 A2.out).mono ?_); (case side1 => repeat (first | exact HR0.out | (with_reducible refine Kd.C_alloc ?_ _) | (with_reducible refine Kd.C_drewN ?_ _) | (with_reducible refine Kd.C_drew ?_))); (case side2 => exact HC0.out); rintro e w' ⟨rfl, ⟨nd, rfl⟩⟩; refine ⟨_, rfl, ?_⟩) | ((with_reducible refine gate_callee (f := 29) rfl ?_); refine goesL_ (some 17) rfl rfl Tryd.func29 (by kernel_rfl) rfl #[.slice A0 l0.length c0] rfl lz ?_; (with_reducible refine (spec_DrawUnified.calls k _ _ l0 t305 t306 t307 _ ?side1 ?side2 A4.out).mono ?_); (case side1 => repeat (first | exact HR0.out | (with_reducible refine Kd.C_alloc ?_ _) | (with_reducible refine Kd.C_drewN ?_ _) | (with_reducible refine Kd.C_drew ?_))); (case side2 => exact HC0.out); rintro e w10 ⟨v308, rfl, ho0, hb⟩; refine ⟨_, rfl, ?_⟩; have HO309 := Aside0.mk (Kd.R_lower ho0 (below_size (bz0 HB.out))); replace HB := Aside0.mk (below_step (bz0 HB.out) hb); (try clear hb); (try clear ho0); obtain ⟨Ao11, co11, eo11⟩ := Kd.R_slice HO309.out; subst eo11) | ((with_reducible refine gate_callee (f := 30) rfl ?_); refine goesL_ (some 25) rfl rfl Tryd.func30 (by kernel_rfl) rfl #[.slice Ao11 t305.length co11, .int .i64 t306, .int .i64 t307] rfl lz ?_; (with_reducible refine (impl_Unified.calls k _ _ t305 t306 t307 t310 t311 _ ?side1 ?side2 A5.out ?hT_).mono ?_); (case hT_ => exact PW.below hT_ (bz0 HB.out)); (case side1 => exact cz (Kd.R_reads' HO309.out).2.2); (case side2 => exact (Kd.R_reads' HO309.out).2.1); rintro e w12 ⟨rfl, hb⟩; refine ⟨_, rfl, ?_⟩; replace HO309 := qz HO309 hb; replace HB := Aside0.mk (below_step (bz0 HB.out) hb); (try clear hb); (try clear hi)) | ((with_reducible refine gate_callee (f := 30) rfl ?_); refine goesL_ (some 32) rfl rfl Tryd.func30 (by kernel_rfl) rfl #[.slice Ao11 t305.length co11, .int .i64 t307, .int .i64 t306] rfl lz ?_; (with_reducible refine (impl_Unified.calls k _ _ t305 t307 t306 t312 t313 _ ?side1 ?side2 A6.out ?hT_).mono ?_); (case hT_ => exact PW.below hT_ (bz0 HB.out)); (case side1 => exact cz (Kd.R_reads' HO309.out).2.2); (case side2 => exact (Kd.R_reads' HO309.out).2.1); rintro e w13 ⟨rfl, hb⟩; refine ⟨_, rfl, ?_⟩; replace HO309 := qz HO309 hb; replace HB := Aside0.mk (below_step (bz0 HB.out) hb); (try clear hb); (try clear hi)) | ((with_reducible refine gate_callee (f := 30) rfl ?_); refine goesL_ (some 39) rfl rfl Tryd.func30 (by kernel_rfl) rfl #[.slice Ao11 t305.length co11, .int .i64 t306, .int .i64 t306] rfl lz ?_; (with_reducible refine (impl_Unified.calls k _ _ t305 t306 t306 t314 t315 _ ?side1 ?side2 A7.out ?hT_).mono ?_); (case hT_ => exact PW.below hT_ (bz0 HB.out)); (case side1 => exact cz (Kd.R_reads' HO309.out).2.2); (case side2 => exact (Kd.R_reads' HO309.out).2.1); rintro e w14 ⟨rfl, hb⟩; refine ⟨_, rfl, ?_⟩; replace HO309 := qz HO309 hb; replace HB := Aside0.mk (below_step (bz0 HB.out) hb); (try clear hb); (try clear hi)) | ((with_reducible refine gate_callee (f := 21) rfl ?_); refine goesL_ (some 44) rfl rfl Tryd.func21 (by kernel_rfl) rfl #[.slice Ao11 t305.length co11, .int .i64 t306] rfl lz ?_; (with_reducible refine (impl_SizeOf.calls k _ _ t305 t306 t316 _ ?side1 ?side2 A8.out).mono ?_); (case side1 => exact cz (Kd.R_reads' HO309.out).2.2); (case side2 => exact (Kd.R_reads' HO309.out).2.1); rintro e w15 ⟨rfl, hb⟩; refine ⟨_, rfl, ?_⟩; replace HO309 := qz HO309 hb; replace HB := Aside0.mk (below_step (bz0 HB.out) hb); (try clear hb); (try clear hi)))
  (try simp only [Act.put, sz1, sz2, sz3])
  go_cut [79] (fun v79 wc => ∃ (kq : Nat) (x79_8 : Bool), v79 = .bool x79_8 /\ Aside0 (laws_FnUnified.j0 kq t305 t306 t310 t311 t316 x79_8 = some r) /\ Aside0 (kq <= k) /\ Aside0 (Kd.R k55 55 wc w.heap.size (fun _ => True) (.slice Ao11 t305.length co11) t305) /\ Aside0 (Below w.heap.size w wc))
  case first =>
   have H := HC9.out
   clear HC9
   replace H := bi H
   obtain ⟨t317, A160, H⟩ := H
   try dsimp only at H
   have A16 := Aside0.mk A160
   clear A160
   by_cases c17 : t316 = t317
   ·rw [if_pos c17] at H
    have c17b0 : (t316 == t317) = true := beq_iff_eq.mpr c17
    have c17b1 : (t316 != t317) = false := bne_eq_false_iff_eq.mpr c17
    clear c17
    (first | rw [c17b0] | (simp only [i64_w, i32_w]; rw [c17b0]) | skip)
    by_cases c18 : (t311 != t313) = true
    ·rw [if_pos c18] at H
     have c18b0 : (t311 != t313) = true := c18
     (try (have c18b1 : decide (t311 = t313) = false := by simpa using c18))
     (try (have c18b2 : (t311 == t313) = false := by simpa using c18))
     (try (have c18b3 : ¬ (t311 = t313) := by simpa using c18))
     clear c18
     have H' := Aside0.mk H
     clear H
     go_wp2_with (first | ((with_reducible refine gate_callee (f := 22) rfl ?_); refine goesL_ (some 48) rfl rfl Tryd.func22 (by kernel_rfl) rfl #[.slice Ao11 t305.length co11, .int .i64 t306] rfl lz ?_; (with_reducible refine (spec_SizeOf.calls k _ _ t305 t306 t317 _ ?side1 ?side2 A16.out).mono ?_); (case side1 => exact cz (Kd.R_reads' HO309.out).2.2); (case side2 => exact (Kd.R_reads' HO309.out).2.1); rintro e w19 ⟨rfl, hb⟩; refine ⟨_, rfl, ?_⟩; replace HO309 := qz HO309 hb; replace HB := Aside0.mk (below_step (bz0 HB.out) hb); (try clear hb); (try clear hi)))
     go_meet
     case rel => exact ⟨_, (true), ez, H', ⟨by first | omega | exact Nat.le_refl _⟩, ⟨by refine rq ?_; exact HO309.out⟩, ⟨(bz0 HB.out)⟩⟩
    ·rw [if_neg c18] at H
     have c18b0 : (t311 != t313) = false := by simpa using c18
     (try (have c18b1 : decide (t311 = t313) = true := by simpa using c18))
     (try (have c18b2 : (t311 == t313) = true := by simpa using c18))
     clear c18
     by_cases c20 : t310.toList = t312.toList
     ·rw [if_pos c20] at H
      have c20b0 : (t310.toList == t312.toList) = true := beq_iff_eq.mpr c20
      have c20b1 : (t310.toList != t312.toList) = false := bne_eq_false_iff_eq.mpr c20
      clear c20
      by_cases c21 : t316 ≥ 1
      ·rw [if_pos c21] at H
       have c21b0 : decide (1 <= t316) = true := decide_eq_true c21
       clear c21
       by_cases c22 : (t315 != (decide (t316 <= 60))) = true
       ·rw [if_pos c22] at H
        have c22b0 : (t315 != (decide (t316 <= 60))) = true := c22
        cases t315
        ·(try (have c22v : (decide (t316 <= 60)) = true := by simpa using c22b0))
         (try (have c22v : (decide (t316 <= 60)) = false := by simpa using c22b0))
         (try (have c22b1 : decide (t315 = (decide (t316 <= 60))) = false := by simpa using c22))
         (try (have c22b2 : (t315 == (decide (t316 <= 60))) = false := by simpa using c22))
         (try (have c22b3 : ¬ (t315 = (decide (t316 <= 60))) := by simpa using c22))
         clear c22
         have H' := Aside0.mk H
         clear H
         go_wp2_with (first | ((with_reducible refine gate_callee (f := 22) rfl ?_); refine goesL_ (some 48) rfl rfl Tryd.func22 (by kernel_rfl) rfl #[.slice Ao11 t305.length co11, .int .i64 t306] rfl lz ?_; (with_reducible refine (spec_SizeOf.calls k _ _ t305 t306 t317 _ ?side1 ?side2 A16.out).mono ?_); (case side1 => exact cz (Kd.R_reads' HO309.out).2.2); (case side2 => exact (Kd.R_reads' HO309.out).2.1); rintro e w23 ⟨rfl, hb⟩; refine ⟨_, rfl, ?_⟩; replace HO309 := qz HO309 hb; replace HB := Aside0.mk (below_step (bz0 HB.out) hb); (try clear hb); (try clear hi)))
         go_meet
         case rel => exact ⟨_, (true), ez, H', ⟨by first | omega | exact Nat.le_refl _⟩, ⟨by refine rq ?_; exact HO309.out⟩, ⟨(bz0 HB.out)⟩⟩
        ·(try (have c22v : (decide (t316 <= 60)) = true := by simpa using c22b0))
         (try (have c22v : (decide (t316 <= 60)) = false := by simpa using c22b0))
         (try (have c22b1 : decide (t315 = (decide (t316 <= 60))) = false := by simpa using c22))
         (try (have c22b2 : (t315 == (decide (t316 <= 60))) = false := by simpa using c22))
         (try (have c22b3 : ¬ (t315 = (decide (t316 <= 60))) := by simpa using c22))
         clear c22
         have H' := Aside0.mk H
         clear H
         go_wp2_with (first | ((with_reducible refine gate_callee (f := 22) rfl ?_); refine goesL_ (some 48) rfl rfl Tryd.func22 (by kernel_rfl) rfl #[.slice Ao11 t305.length co11, .int .i64 t306] rfl lz ?_; (with_reducible refine (spec_SizeOf.calls k _ _ t305 t306 t317 _ ?side1 ?side2 A16.out).mono ?_); (case side1 => exact cz (Kd.R_reads' HO309.out).2.2); (case side2 => exact (Kd.R_reads' HO309.out).2.1); rintro e w23 ⟨rfl, hb⟩; refine ⟨_, rfl, ?_⟩; replace HO309 := qz HO309 hb; replace HB := Aside0.mk (below_step (bz0 HB.out) hb); (try clear hb); (try clear hi)))
         go_meet
         case rel => exact ⟨_, (true), ez, H', ⟨by first | omega | exact Nat.le_refl _⟩, ⟨by refine rq ?_; exact HO309.out⟩, ⟨(bz0 HB.out)⟩⟩
       ·rw [if_neg c22] at H
        have c22b0 : (t315 != (decide (t316 <= 60))) = false := by simpa using c22
        (try (have c22b1 : decide (t315 = (decide (t316 <= 60))) = true := by simpa using c22))
        (try (have c22b2 : (t315 == (decide (t316 <= 60))) = true := by simpa using c22))
        clear c22
        by_cases c24 : t315 = true
        ·subst c24
         (try (have c22v : (decide (t316 <= 60)) = true := by simpa using c22b0))
         (try (have c22v : (decide (t316 <= 60)) = false := by simpa using c22b0))
         have H1 := hp H
         clear H
         have H := H1
         clear H1
         replace H := bi H
         obtain ⟨t318, A250, H⟩ := H
         try dsimp only at H
         have A25 := Aside0.mk A250
         clear A250
         have H' := Aside0.mk H
         clear H
         go_wp2_with (first | ((with_reducible refine gate_callee (f := 22) rfl ?_); refine goesL_ (some 48) rfl rfl Tryd.func22 (by kernel_rfl) rfl #[.slice Ao11 t305.length co11, .int .i64 t306] rfl lz ?_; (with_reducible refine (spec_SizeOf.calls k _ _ t305 t306 t317 _ ?side1 ?side2 A16.out).mono ?_); (case side1 => exact cz (Kd.R_reads' HO309.out).2.2); (case side2 => exact (Kd.R_reads' HO309.out).2.1); rintro e w26 ⟨rfl, hb⟩; refine ⟨_, rfl, ?_⟩; replace HO309 := qz HO309 hb; replace HB := Aside0.mk (below_step (bz0 HB.out) hb); (try clear hb); (try clear hi)) | (go_at_call 23; (with_reducible refine (impl_ShowType.calls k _ _ t305 t306 t318 _ ?side1 ?side2 A25.out ?hT_).mono ?_); (case hT_ => exact PW.below hT_ (bz0 HB.out)); (case side1 => exact cz (Kd.R_reads' HO309.out).2.2); (case side2 => exact (Kd.R_reads' HO309.out).2.1); rintro e w27 ⟨rfl, hb⟩; replace HO309 := qz HO309 hb; replace HB := Aside0.mk (below_step (bz0 HB.out) hb); (try clear hb); (try clear hi)))
         go_meet
         case rel => exact ⟨_, ((t314.toList != t318.toList)), ez, H', ⟨by first | omega | exact Nat.le_refl _⟩, ⟨by refine rq ?_; exact HO309.out⟩, ⟨(bz0 HB.out)⟩⟩
        ·replace c24 := Bool.eq_false_iff.mpr c24
         subst c24
         (try (have c22v : (decide (t316 <= 60)) = true := by simpa using c22b0))
         (try (have c22v : (decide (t316 <= 60)) = false := by simpa using c22b0))
         have H1 := hq H
         clear H
         have H := H1
         clear H1
         have H' := Aside0.mk H
         clear H
         go_wp2_with (first | ((with_reducible refine gate_callee (f := 22) rfl ?_); refine goesL_ (some 48) rfl rfl Tryd.func22 (by kernel_rfl) rfl #[.slice Ao11 t305.length co11, .int .i64 t306] rfl lz ?_; (with_reducible refine (spec_SizeOf.calls k _ _ t305 t306 t317 _ ?side1 ?side2 A16.out).mono ?_); (case side1 => exact cz (Kd.R_reads' HO309.out).2.2); (case side2 => exact (Kd.R_reads' HO309.out).2.1); rintro e w28 ⟨rfl, hb⟩; refine ⟨_, rfl, ?_⟩; replace HO309 := qz HO309 hb; replace HB := Aside0.mk (below_step (bz0 HB.out) hb); (try clear hb); (try clear hi)))
         go_meet
         case rel => exact ⟨_, (false), ez, H', ⟨by first | omega | exact Nat.le_refl _⟩, ⟨by refine rq ?_; exact HO309.out⟩, ⟨(bz0 HB.out)⟩⟩
      ·rw [if_neg c21] at H
       have c21b0 : decide (1 <= t316) = false := decide_eq_false c21
       clear c21
       by_cases c29 : (t315 != false) = true
       ·rw [if_pos c29] at H
        have c29b0 : (t315 != false) = true := c29
        (try (have c29w : t315 = true := by simpa using c29b0))
        (try (have c29w : t315 = false := by simpa using c29b0))
        (try (have c29b1 : decide (t315 = false) = false := by simpa using c29))
        (try (have c29b2 : (t315 == false) = false := by simpa using c29))
        (try (have c29b3 : ¬ (t315 = false) := by simpa using c29))
        clear c29
        (try subst c29w)
        have H' := Aside0.mk H
        clear H
        go_wp2_with (first | ((with_reducible refine gate_callee (f := 22) rfl ?_); refine goesL_ (some 48) rfl rfl Tryd.func22 (by kernel_rfl) rfl #[.slice Ao11 t305.length co11, .int .i64 t306] rfl lz ?_; (with_reducible refine (spec_SizeOf.calls k _ _ t305 t306 t317 _ ?side1 ?side2 A16.out).mono ?_); (case side1 => exact cz (Kd.R_reads' HO309.out).2.2); (case side2 => exact (Kd.R_reads' HO309.out).2.1); rintro e w30 ⟨rfl, hb⟩; refine ⟨_, rfl, ?_⟩; replace HO309 := qz HO309 hb; replace HB := Aside0.mk (below_step (bz0 HB.out) hb); (try clear hb); (try clear hi)))
        go_meet
        case rel => exact ⟨_, (true), ez, H', ⟨by first | omega | exact Nat.le_refl _⟩, ⟨by refine rq ?_; exact HO309.out⟩, ⟨(bz0 HB.out)⟩⟩
       ·rw [if_neg c29] at H
        have c29b0 : (t315 != false) = false := by simpa using c29
        (try (have c29w : t315 = true := by simpa using c29b0))
        (try (have c29w : t315 = false := by simpa using c29b0))
        (try (have c29b1 : decide (t315 = false) = true := by simpa using c29))
        (try (have c29b2 : (t315 == false) = true := by simpa using c29))
        clear c29
        by_cases c31 : t315 = true
        ·exact absurd (c29w.symm.trans c31) (by decide)
        ·replace c31 := Bool.eq_false_iff.mpr c31
         subst c31
         have H1 := hq H
         clear H
         have H := H1
         clear H1
         have H' := Aside0.mk H
         clear H
         go_wp2_with (first | ((with_reducible refine gate_callee (f := 22) rfl ?_); refine goesL_ (some 48) rfl rfl Tryd.func22 (by kernel_rfl) rfl #[.slice Ao11 t305.length co11, .int .i64 t306] rfl lz ?_; (with_reducible refine (spec_SizeOf.calls k _ _ t305 t306 t317 _ ?side1 ?side2 A16.out).mono ?_); (case side1 => exact cz (Kd.R_reads' HO309.out).2.2); (case side2 => exact (Kd.R_reads' HO309.out).2.1); rintro e w35 ⟨rfl, hb⟩; refine ⟨_, rfl, ?_⟩; replace HO309 := qz HO309 hb; replace HB := Aside0.mk (below_step (bz0 HB.out) hb); (try clear hb); (try clear hi)))
         go_meet
         case rel => exact ⟨_, (false), ez, H', ⟨by first | omega | exact Nat.le_refl _⟩, ⟨by refine rq ?_; exact HO309.out⟩, ⟨(bz0 HB.out)⟩⟩
     ·rw [if_neg c20] at H
      have c20b0 : (t310.toList == t312.toList) = false := beq_eq_false_iff_ne.mpr c20
      have c20b1 : (t310.toList != t312.toList) = true := bne_iff_ne.mpr c20
      have H' := Aside0.mk H
      clear H
      go_wp2_with (first | ((with_reducible refine gate_callee (f := 22) rfl ?_); refine goesL_ (some 48) rfl rfl Tryd.func22 (by kernel_rfl) rfl #[.slice Ao11 t305.length co11, .int .i64 t306] rfl lz ?_; (with_reducible refine (spec_SizeOf.calls k _ _ t305 t306 t317 _ ?side1 ?side2 A16.out).mono ?_); (case side1 => exact cz (Kd.R_reads' HO309.out).2.2); (case side2 => exact (Kd.R_reads' HO309.out).2.1); rintro e w36 ⟨rfl, hb⟩; refine ⟨_, rfl, ?_⟩; replace HO309 := qz HO309 hb; replace HB := Aside0.mk (below_step (bz0 HB.out) hb); (try clear hb); (try clear hi)))
      go_meet
      case rel => exact ⟨_, (true), ez, H', ⟨by first | omega | exact Nat.le_refl _⟩, ⟨by refine rq ?_; exact HO309.out⟩, ⟨(bz0 HB.out)⟩⟩
   ·rw [if_neg c17] at H
    have c17b0 : (t316 == t317) = false := beq_eq_false_iff_ne.mpr c17
    have c17b1 : (t316 != t317) = true := bne_iff_ne.mpr c17
    (first | rw [c17b0] | (simp only [i64_w, i32_w]; rw [c17b0]) | skip)
    have H' := Aside0.mk H
    clear H
    go_wp2_with (first | ((with_reducible refine gate_callee (f := 22) rfl ?_); refine goesL_ (some 48) rfl rfl Tryd.func22 (by kernel_rfl) rfl #[.slice Ao11 t305.length co11, .int .i64 t306] rfl lz ?_; (with_reducible refine (spec_SizeOf.calls k _ _ t305 t306 t317 _ ?side1 ?side2 A16.out).mono ?_); (case side1 => exact cz (Kd.R_reads' HO309.out).2.2); (case side2 => exact (Kd.R_reads' HO309.out).2.1); rintro e w37 ⟨rfl, hb⟩; refine ⟨_, rfl, ?_⟩; replace HO309 := qz HO309 hb; replace HB := Aside0.mk (below_step (bz0 HB.out) hb); (try clear hb); (try clear hi)))
    go_meet
    case rel => exact ⟨_, (true), ez, H', ⟨by first | omega | exact Nat.le_refl _⟩, ⟨by refine rq ?_; exact HO309.out⟩, ⟨(bz0 HB.out)⟩⟩
  case rest =>
   clear HC9
   try clear c1
   try clear c2
   try clear p2
   try clear c3
   try clear c6
   try clear c9
   try clear c17
   try clear c17b0
   try clear c17b1
   try clear c18
   try clear c18b0
   try clear c18b1
   try clear c18b2
   try clear c20
   try clear c20b0
   try clear c20b1
   try clear c21
   try clear c21b0
   try clear c22
   try clear c22b0
   try clear c22b1
   try clear c22b2
   try clear c24
   try clear c29
   try clear c29b0
   try clear c29b1
   try clear c29b2
   try clear c30
   try clear c31
   obtain ⟨kq, x79_8, rfl, HA, HJ8, HO_3, HB⟩ := hcut
   cases kq with
   | zero => exact absurd HA.out (by simp [laws_FnUnified.j0])
   | succ kj8 =>
    have H := HA.out
    clear HA
    simp only [laws_FnUnified.j0] at H
    by_cases c38 : x79_8 = true
    ·subst c38
     have H1 := hp H
     clear H
     have H := H1
     clear H1
     obtain rfl := Option.some.inj H
     go_wp2
     go_ret
     exact ⟨gz, (bz0 HB.out)⟩
    ·replace c38 := Bool.eq_false_iff.mpr c38
     subst c38
     have H1 := hq H
     clear H
     have H := H1
     clear H1
     replace H := bi H
     obtain ⟨t320, A390, H⟩ := H
     try dsimp only at H
     have A39 := Aside0.mk A390
     clear A390
     by_cases c40 : t320 = true
     ·subst c40
      have H1 := hp H
      clear H
      have H := H1
      clear H1
      obtain rfl := Option.some.inj H
      go_wp2_with (first | ((with_reducible refine gate_callee (f := 24) rfl ?_); refine goesL_ (some 81) rfl rfl Tryd.func24 (by kernel_rfl) rfl #[.slice Ao11 t305.length co11] rfl lz ?_; (with_reducible refine (spec_TableOk.calls kj8 _ _ t305 true _ ?side1 ?side2 A39.out).mono ?_); (case side1 => exact cz (Kd.R_reads' HO_3.out).2.2); (case side2 => exact (Kd.R_reads' HO_3.out).2.1); rintro e w41 ⟨rfl, hb⟩; refine ⟨_, rfl, ?_⟩; replace HO_3 := qz HO_3 hb; replace HB := Aside0.mk (below_step (bz0 HB.out) hb); (try clear hb); (try clear hi)))
      go_ret
      exact ⟨gz, (bz0 HB.out)⟩
     ·replace c40 := Bool.eq_false_iff.mpr c40
      subst c40
      have H1 := hq H
      clear H
      have H := H1
      clear H1
      by_cases c42 : t311 = true
      ·subst c42
       have H1 := hp H
       clear H
       have H := H1
       clear H1
       obtain rfl := Option.some.inj H
       go_wp2_with (first | ((with_reducible refine gate_callee (f := 24) rfl ?_); refine goesL_ (some 81) rfl rfl Tryd.func24 (by kernel_rfl) rfl #[.slice Ao11 t305.length co11] rfl lz ?_; (with_reducible refine (spec_TableOk.calls kj8 _ _ t305 false _ ?side1 ?side2 A39.out).mono ?_); (case side1 => exact cz (Kd.R_reads' HO_3.out).2.2); (case side2 => exact (Kd.R_reads' HO_3.out).2.1); rintro e w43 ⟨rfl, hb⟩; refine ⟨_, rfl, ?_⟩; replace HO_3 := qz HO_3 hb; replace HB := Aside0.mk (below_step (bz0 HB.out) hb); (try clear hb); (try clear hi)))
       go_ret
       exact ⟨gz, (bz0 HB.out)⟩
      ·replace c42 := Bool.eq_false_iff.mpr c42
       subst c42
       have H1 := hq H
       clear H
       have H := H1
       clear H1
       by_cases c44 : t316 = 0
       ·rw [if_pos c44] at H
        have c44b0 : (t316 == 0) = true := beq_iff_eq.mpr c44
        have c44b1 : (t316 != 0) = false := bne_eq_false_iff_eq.mpr c44
        clear c44
        replace H := bi H
        obtain ⟨t321, A450, H⟩ := H
        try dsimp only at H
        have A45 := Aside0.mk A450
        clear A450
        obtain rfl := Option.some.inj H
        go_wp2_with (first | ((with_reducible refine gate_callee (f := 24) rfl ?_); refine goesL_ (some 81) rfl rfl Tryd.func24 (by kernel_rfl) rfl #[.slice Ao11 t305.length co11] rfl lz ?_; (with_reducible refine (spec_TableOk.calls kj8 _ _ t305 false _ ?side1 ?side2 A39.out).mono ?_); (case side1 => exact cz (Kd.R_reads' HO_3.out).2.2); (case side2 => exact (Kd.R_reads' HO_3.out).2.1); rintro e w46 ⟨rfl, hb⟩; refine ⟨_, rfl, ?_⟩; replace HO_3 := qz HO_3 hb; replace HB := Aside0.mk (below_step (bz0 HB.out) hb); (try clear hb); (try clear hi)) | (go_at_call 23; (with_reducible refine (impl_ShowType.calls kj8 _ _ t305 t306 t321 _ ?side1 ?side2 A45.out ?hT_).mono ?_); (case hT_ => exact PW.below hT_ (bz0 HB.out)); (case side1 => exact cz (Kd.R_reads' HO_3.out).2.2); (case side2 => exact (Kd.R_reads' HO_3.out).2.1); rintro e w47 ⟨rfl, hb⟩; replace HO_3 := qz HO_3 hb; replace HB := Aside0.mk (below_step (bz0 HB.out) hb); (try clear hb); (try clear hi)))
        go_ret
        exact ⟨gz, (bz0 HB.out)⟩
       ·rw [if_neg c44] at H
        have c44b0 : (t316 == 0) = false := beq_eq_false_iff_ne.mpr c44
        have c44b1 : (t316 != 0) = true := bne_iff_ne.mpr c44
        obtain rfl := Option.some.inj H
        go_wp2_with (first | ((with_reducible refine gate_callee (f := 24) rfl ?_); refine goesL_ (some 81) rfl rfl Tryd.func24 (by kernel_rfl) rfl #[.slice Ao11 t305.length co11] rfl lz ?_; (with_reducible refine (spec_TableOk.calls kj8 _ _ t305 false _ ?side1 ?side2 A39.out).mono ?_); (case side1 => exact cz (Kd.R_reads' HO_3.out).2.2); (case side2 => exact (Kd.R_reads' HO_3.out).2.1); rintro e w48 ⟨rfl, hb⟩; refine ⟨_, rfl, ?_⟩; replace HO_3 := qz HO_3 hb; replace HB := Aside0.mk (below_step (bz0 HB.out) hb); (try clear hb); (try clear hi)))
        go_ret
        exact ⟨gz, (bz0 HB.out)⟩
def laws_FnUnified.Pure : Prop := ∀ (l0 : List Int), l0.length <= maxLen -> l0.length * 1 <= 140737488351232 -> (∀ x ∈ l0, (Lit.int .u8 x).wf = true) -> ∃ k, laws_FnUnified.f k l0 = some true
end Go.Proofs.YtlhofeikcaejpaaDoor.PFnUnified
