/- PFnLexedx7, of the words and walks that the law FnLexed needs; made by this session's program out of printed texts. -/

import Derived.Test.YtdjamdnjkdllgaaDoorVFnLexedPx0
import Derived.Test.YtdjamdnjkdllgaaDoorVFnLexedPx1
import Derived.Test.YtdjamdnjkdllgaaDoorVFnLexedPx2
import Derived.Test.YtdjamdnjkdllgaaDoorVFnLexedPx3
import Derived.Test.YtdjamdnjkdllgaaDoorVFnLexedPx5
import Derived.Test.YtdjamdnjkdllgaaDoorVFnLexedPx6
namespace Go.Proofs.YtdjamdnjkdllgaaDoor.PFnLexed
open Go.RowKit Go.Proofs.YtdjamdnjkdllgaaDoorW.PrintWords Go.Proofs.YtdjamdnjkdllgaaDoorW.PrintLast Go.Proofs.YtdjamdnjkdllgaaDoorW.PrintMore
attribute [local go_sem] max2_int min2_int max_two min_two max_three min_three max_four min_four
set_option linter.unusedVariables false
set_option linter.unusedSimpArgs false
mutual
def laws_FnLexed.l0 : Nat -> ByteArray -> List (S43) -> Int -> Int -> Option (Bool)
 | 0, _, _, _, _ => none
 | k + 1, x3, x4, x8, x9 => if x9 < (x4.length : Int) then (if 0 <= x9 then (if ((rd_T43 x4 x9).f3) < x8 then (some false) else (if (wrap64 (((rd_T43 x4 x9).f3) + (((rd_T43 x4 x9).f1).size : Int))) > (x3.size : Int) then (some false) else (if 0 <= ((rd_T43 x4 x9).f3) then (if ((rd_T43 x4 x9).f3) <= (wrap64 (((rd_T43 x4 x9).f3) + (((rd_T43 x4 x9).f1).size : Int))) then (if (wrap64 (((rd_T43 x4 x9).f3) + (((rd_T43 x4 x9).f1).size : Int))) <= (x3.size : Int) then (if (x3.extract (((rd_T43 x4 x9).f3) : Int).toNat ((wrap64 (((rd_T43 x4 x9).f3) + (((rd_T43 x4 x9).f1).size : Int))) : Int).toNat).toList = ((rd_T43 x4 x9).f1).toList then (if ((rd_T43 x4 x9).f0) = 3 then ((impl_IsWord.f k ((rd_T43 x4 x9).f1)).bind fun t231 => (if t231 = true then (if ((rd_T43 x4 x9).f0) = 4 then ((impl_Dec.f ((rd_T43 x4 x9).f2)).bind fun t232 => (if t232.toList = ((rd_T43 x4 x9).f1).toList then (laws_FnLexed.l0 k x3 x4 (wrap64 (((rd_T43 x4 x9).f3) + (((rd_T43 x4 x9).f1).size : Int))) (wrap64 (x9 + 1))) else (some false))) else (laws_FnLexed.l0 k x3 x4 (wrap64 (((rd_T43 x4 x9).f3) + (((rd_T43 x4 x9).f1).size : Int))) (wrap64 (x9 + 1)))) else (some false))) else (if ((rd_T43 x4 x9).f0) = 4 then ((impl_Dec.f ((rd_T43 x4 x9).f2)).bind fun t233 => (if t233.toList = ((rd_T43 x4 x9).f1).toList then (laws_FnLexed.l0 k x3 x4 (wrap64 (((rd_T43 x4 x9).f3) + (((rd_T43 x4 x9).f1).size : Int))) (wrap64 (x9 + 1))) else (some false))) else (laws_FnLexed.l0 k x3 x4 (wrap64 (((rd_T43 x4 x9).f3) + (((rd_T43 x4 x9).f1).size : Int))) (wrap64 (x9 + 1))))) else (some false)) else (none)) else (none)) else (none)))) else (none)) else ((impl_Unlex.f k x4).bind fun t234 => ((impl_Lex.f k t234).bind fun bt235 => (if bt235.2 ≥ 0 then (laws_FnLexed.j1 k x4 bt235.1 true) else (laws_FnLexed.j1 k x4 bt235.1 ((bt235.1.length : Int) != (x4.length : Int))))))
def laws_FnLexed.j1 : Nat -> List (S43) -> List (S43) -> Bool -> Option (Bool)
 | 0, _, _, _ => none
 | k + 1, x4, x11, x126 => if x126 = true then (some false) else (laws_FnLexed.l1 k x4 x11 0)
def laws_FnLexed.l1 : Nat -> List (S43) -> List (S43) -> Int -> Option (Bool)
 | 0, _, _, _ => none
 | k + 1, x4, x11, x13 => if x13 < (x11.length : Int) then (if 0 <= x13 then (if x13 < (x4.length : Int) then (if ((rd_T43 x11 x13).f0) = ((rd_T43 x4 x13).f0) then (if ((rd_T43 x11 x13).f1).toList = ((rd_T43 x4 x13).f1).toList then (if ((rd_T43 x11 x13).f2) = ((rd_T43 x4 x13).f2) then (laws_FnLexed.l1 k x4 x11 (wrap64 (x13 + 1))) else (some false)) else (some false)) else (some false)) else (none)) else (none)) else (some true)
end
def laws_FnLexed.f (k : Nat) (l0 : List Int) : Option (Bool) := (laws_big.f l0).bind fun t219 => (if t219 = true then (some true) else ((spec_DrawLex.f k l0).bind fun t220 => ((impl_Lex.f k t220).bind fun bt221 => ((spec_Lex.f k t220).bind fun bt225 => (if bt221.2 = bt225.2 then (if bt221.2 ≥ 0 then (if (bt221.1.length : Int) = 0 then (some (decide (bt221.2 < (t220.size : Int)))) else (some false)) else (laws_FnLexed.l0 k t220 bt221.1 0 0)) else (some false))))))
theorem laws_FnLexed.mono_l : ∀ k, (∀ y0 y1 y2 y3, LeO (laws_FnLexed.l0 k y0 y1 y2 y3) (laws_FnLexed.l0 (k + 1) y0 y1 y2 y3)) /\ (∀ y0 y1 y2, LeO (laws_FnLexed.j1 k y0 y1 y2) (laws_FnLexed.j1 (k + 1) y0 y1 y2)) /\ (∀ y0 y1 y2, LeO (laws_FnLexed.l1 k y0 y1 y2) (laws_FnLexed.l1 (k + 1) y0 y1 y2))
 | 0 => ⟨fun _ _ _ _ r h => by simp [laws_FnLexed.l0] at h, fun _ _ _ r h => by simp [laws_FnLexed.j1] at h, fun _ _ _ r h => by simp [laws_FnLexed.l1] at h⟩
 | k + 1 => by
  obtain ⟨ih0, ih1, ih2⟩ := laws_FnLexed.mono_l k
  refine ⟨?_, ?_, ?_⟩
  ·intro y0 y1 y2 y3
   unfold laws_FnLexed.l0
   with_reducible repeat' first | exact ih0 _ _ _ _ | exact ih1 _ _ _ | exact ih2 _ _ _ | exact impl_IsWord.mono _ _ | exact impl_Lex.mono _ _ | exact impl_Unlex.mono _ _ | exact spec_DrawLex.mono _ _ | exact spec_Lex.mono _ _ | exact lrz _ | exact lnz _ | refine liz ?_ ?_ | refine lbz ?_ fun _ => ?_
  ·intro y0 y1 y2
   unfold laws_FnLexed.j1
   with_reducible repeat' first | exact ih0 _ _ _ _ | exact ih1 _ _ _ | exact ih2 _ _ _ | exact impl_IsWord.mono _ _ | exact impl_Lex.mono _ _ | exact impl_Unlex.mono _ _ | exact spec_DrawLex.mono _ _ | exact spec_Lex.mono _ _ | exact lrz _ | exact lnz _ | refine liz ?_ ?_ | refine lbz ?_ fun _ => ?_
  ·intro y0 y1 y2
   unfold laws_FnLexed.l1
   with_reducible repeat' first | exact ih0 _ _ _ _ | exact ih1 _ _ _ | exact ih2 _ _ _ | exact impl_IsWord.mono _ _ | exact impl_Lex.mono _ _ | exact impl_Unlex.mono _ _ | exact spec_DrawLex.mono _ _ | exact spec_Lex.mono _ _ | exact lrz _ | exact lnz _ | refine liz ?_ ?_ | refine lbz ?_ fun _ => ?_
theorem laws_FnLexed.mono : ∀ a0 k, LeO (laws_FnLexed.f k a0) (laws_FnLexed.f (k + 1) a0) := by
 intro a0 k
 obtain ⟨ih0, ih1, ih2⟩ := laws_FnLexed.mono_l k
 unfold laws_FnLexed.f
 with_reducible repeat' first | exact ih0 _ _ _ _ | exact ih1 _ _ _ | exact ih2 _ _ _ | exact impl_IsWord.mono _ _ | exact impl_Lex.mono _ _ | exact impl_Unlex.mono _ _ | exact spec_DrawLex.mono _ _ | exact spec_Lex.mono _ _ | exact lrz _ | exact lnz _ | refine liz ?_ ?_ | refine lbz ?_ fun _ => ?_
def laws_FnLexed.T15 : Bool × List (List Nat × List Nat) := (true, [([], []), ([0], [0]), ([], []), ([1, 2], [1, 2]), ([3], [3]), ([4], [4]), ([5, 4], [4, 5]), ([4], [4]), ([7, 4], [4, 7]), ([8, 4], [4, 8]), ([6, 9, 4], [4, 6, 9]), ([4], [4]), ([11, 4], [4, 11]), ([10, 12, 4], [4, 10, 12]), ([4, 13], [4, 13]), ([14, 4], [14]), ([15], [15]), ([15], [15]), ([17, 15], [15, 17]), ([15], [15]), ([19, 15], [15, 19]), ([15], [15]), ([21, 15], [15, 21]), ([22, 15], [15, 22]), ([20, 23, 15], [15, 20, 23]), ([16, 18, 24, 15], [15, 16, 18, 24]), ([15], [15]), ([26, 15], [15, 26]), ([25, 27, 15], [15, 25, 27]), ([15, 28], [15, 28]), ([29, 15], [29]), ([30], [30]), ([31, 30], [30, 31]), ([32, 30], [30, 32]), ([33, 30, 30], [30, 33]), ([34], [34]), ([35, 34], [34, 35]), ([36, 34, 34], [34, 36]), ([37, 34], [34, 37]), ([34, 38, 30], [30, 34, 38]), ([30, 39], [30, 39]), ([40, 37], [40]), ([41], [41]), ([42, 41], [41, 42]), ([43, 41], [41, 43]), ([44, 41, 41], [41, 44]), ([45], [45]), ([46, 45], [45, 46]), ([47, 45, 45], [45, 47]), ([45], [45]), ([49, 45], [45, 49]), ([48, 50, 45], [45, 48, 50]), ([45, 51, 41], [41, 45, 51]), ([41, 52], [41, 52])])
def laws_FnLexed.B15 : List Nat := [0, 1, 0, 7, 15, 31, 63, 31, 159, 415, 1023, 31, 2079, 8191, 16383, 32767, 65535, 65535, 196607, 65535, 589823, 65535, 2162687, 6356991, 16318463, 33554431, 65535, 67174399, 268435455, 536870911, 1073741823, 2147483647, 4294967295, 8589934591, 17179869183, 34359738367, 68719476735, 137438953471, 274877906943, 549755813887, 1099511627775, 2199023255551, 4398046511103, 8796093022207, 17592186044415, 35184372088831, 70368744177663, 140737488355327, 281474976710655, 70368744177663, 633318697598975, 2251799813685247, 4503599627370495, 9007199254740991]
theorem laws_FnLexed.tab15 : rtab .any (opsOf Tryd.f6 15) = laws_FnLexed.T15 := by kernel_rfl
theorem laws_FnLexed.bits15 : waitsOk laws_FnLexed.T15.2 laws_FnLexed.B15 = true := by kernel_rfl
def laws_FnLexed.T24 : Bool × List (List Nat × List Nat) := (true, [([], []), ([], []), ([0, 1], [0, 1]), ([2], [2]), ([3], [3]), ([], []), ([], []), ([5, 6], [5, 6]), ([7], [7]), ([8], [8]), ([4, 9], [4, 9]), ([10], [10]), ([11], [11]), ([11], [11]), ([12, 13, 11], [11, 12, 13]), ([14, 11], [11, 14]), ([15, 11], [11, 15]), ([11], [11]), ([11], [11]), ([17, 18, 11], [11, 17, 18]), ([19, 11], [11, 19]), ([20, 11], [11, 20]), ([16, 21, 11], [11, 16, 21]), ([11, 22], [11, 22]), ([23, 11], [23]), ([24], [24]), ([24], [24]), ([25, 26, 24], [24, 25, 26]), ([27, 24], [24, 27]), ([28, 24], [24, 28]), ([24], [24]), ([24], [24]), ([30, 31, 24], [24, 30, 31]), ([32, 24], [24, 32]), ([33, 24], [24, 33]), ([29, 34, 24], [24, 29, 34]), ([24, 35], [24, 35])])
def laws_FnLexed.B24 : List Nat := [0, 0, 3, 7, 15, 0, 0, 96, 224, 480, 1023, 2047, 4095, 4095, 16383, 32767, 65535, 4095, 4095, 397311, 921599, 1970175, 4194303, 8388607, 16777215, 33554431, 33554431, 134217727, 268435455, 536870911, 33554431, 33554431, 3254779903, 7549747199, 16139681791, 34359738367, 68719476735]
theorem laws_FnLexed.tab24 : rtab .any (opsOf Tryd.f6 24) = laws_FnLexed.T24 := by kernel_rfl
theorem laws_FnLexed.bits24 : waitsOk laws_FnLexed.T24.2 laws_FnLexed.B24 = true := by kernel_rfl
set_option maxHeartbeats 8000000 in
set_option maxRecDepth 100000 in
theorem laws_FnLexed.calls (k : Nat) (A0 : Option Addr) (c0 : Nat) (l0 : List Int) (r : Bool) (w : World) (hr0 : Kd.C (Kd.int .u8) w A0 l0.length l0) (hc0 : l0.length <= c0) (h : laws_FnLexed.f k l0 = some r) (hT_ : PW w) :
  Calls Tryd.prog 6 #[.slice A0 l0.length c0] w fun e w' => e = .returned (.bool r) /\ Below w.heap.size w w' := by
 have hu43 := Tryd.underlying43
 have HR0 := Aside0.mk hr0
 have HC0 := Aside0.mk hc0
 clear hr0 hc0
 have HB := Aside0.mk (Below.refl w.heap.size w)
 have H : ((laws_big.f l0).bind fun t219 => (if t219 = true then (some true) else ((spec_DrawLex.f k l0).bind fun t220 => ((impl_Lex.f k t220).bind fun bt221 => ((spec_Lex.f k t220).bind fun bt225 => (if bt221.2 = bt225.2 then (if bt221.2 ≥ 0 then (if (bt221.1.length : Int) = 0 then (some (decide (bt221.2 < (t220.size : Int)))) else (some false)) else (laws_FnLexed.l0 k t220 bt221.1 0 0)) else (some false))))))) = some r := h
 clear h
 replace H := bi H
 obtain ⟨t219, A20, H⟩ := H
 try dsimp only at H
 have A2 := Aside0.mk A20
 clear A20
 by_cases c3 : t219 = true
 ·subst c3
  have H1 := hp H
  clear H
  have H := H1
  clear H1
  obtain rfl := Option.some.inj H
  go_enter Tryd.func6, Tryd.ntmps6
  go_wp2_with (first | ((with_reducible refine gate_callee (f := 9) rfl ?_); refine goesL_ (some 15) rfl rfl Tryd.func9 (by kernel_rfl) rfl #[.slice A0 l0.length c0] rfl lz ?_; (with_reducible refine (laws_big.calls _ _ l0 true _ ?side1 ?side2 A2.out).mono ?_); (case side1 => repeat (first | exact HR0.out | (with_reducible refine Kd.C_alloc ?_ _) | (with_reducible refine Kd.C_drewN ?_ _) | (with_reducible refine Kd.C_drew ?_))); (case side2 => exact HC0.out); rintro e w' ⟨rfl, ⟨nd, rfl⟩⟩; refine ⟨_, rfl, ?_⟩))
  go_ret
  exact ⟨gz, (bz0 HB.out)⟩
 ·replace c3 := Bool.eq_false_iff.mpr c3
  subst c3
  have H1 := hq H
  clear H
  have H := H1
  clear H1
  replace H := bi H
  obtain ⟨t220, A40, H⟩ := H
  try dsimp only at H
  have A4 := Aside0.mk A40
  clear A40
  replace H := bi H
  obtain ⟨⟨t221, t222⟩, A50, H⟩ := H
  try dsimp only at H
  have A5 := Aside0.mk A50
  clear A50
  replace H := bi H
  obtain ⟨⟨t225, t226⟩, A60, H⟩ := H
  try dsimp only at H
  have A6 := Aside0.mk A60
  clear A60
  by_cases c7 : t222 = t226
  ·rw [if_pos c7] at H
   have c7b0 : (t222 == t226) = true := beq_iff_eq.mpr c7
   have c7b1 : (t222 != t226) = false := bne_eq_false_iff_eq.mpr c7
   clear c7
   by_cases c8 : t222 ≥ 0
   ·rw [if_pos c8] at H
    have c8b0 : decide (0 <= t222) = true := decide_eq_true c8
    clear c8
    by_cases c9 : (t221.length : Int) = 0
    ·rw [if_pos c9] at H
     have c9b0 : ((t221.length : Int) == 0) = true := beq_iff_eq.mpr c9
     have c9b1 : ((t221.length : Int) != 0) = false := bne_eq_false_iff_eq.mpr c9
     clear c9
     obtain rfl := Option.some.inj H
     go_enter Tryd.func6, Tryd.ntmps6
     go_wp2_with (first | ((with_reducible refine gate_callee (f := 9) rfl ?_); refine goesL_ (some 15) rfl rfl Tryd.func9 (by kernel_rfl) rfl #[.slice A0 l0.length c0] rfl lz ?_; (with_reducible refine (laws_big.calls _ _ l0 false _ ?side1 ?side2 A2.out).mono ?_); (case side1 => repeat (first | exact HR0.out | (with_reducible refine Kd.C_alloc ?_ _) | (with_reducible refine Kd.C_drewN ?_ _) | (with_reducible refine Kd.C_drew ?_))); (case side2 => exact HC0.out); rintro e w' ⟨rfl, ⟨nd, rfl⟩⟩; refine ⟨_, rfl, ?_⟩) | ((with_reducible refine gate_callee (f := 25) rfl ?_); refine goesL_ (some 17) rfl rfl Tryd.func25 (by kernel_rfl) rfl #[.slice A0 l0.length c0] rfl lz ?_; (with_reducible refine (spec_DrawLex.calls k _ _ l0 t220 _ ?side1 ?side2 A4.out).mono ?_); (case side1 => repeat (first | exact HR0.out | (with_reducible refine Kd.C_alloc ?_ _) | (with_reducible refine Kd.C_drewN ?_ _) | (with_reducible refine Kd.C_drew ?_))); (case side2 => exact HC0.out); rintro e w10 ⟨rfl, hb⟩; refine ⟨_, rfl, ?_⟩; replace HB := Aside0.mk (below_step (bz0 HB.out) hb); (try clear hb); (try clear hi)) | ((with_reducible refine gate_callee (f := 21) rfl ?_); refine goesL_ (some 20) rfl rfl Tryd.func21 (by kernel_rfl) rfl #[.string t220] rfl lz ?_; (with_reducible refine (impl_Lex.calls k t220 t221 t222 _ A5.out ?hT_).mono ?_); (case hT_ => exact PW.below hT_ (bz0 HB.out)); rintro e w11 ⟨v223, rfl, ho0, hb⟩; refine ⟨_, rfl, ?_⟩; have HO224 := Aside0.mk (Kd.R_lower ho0 (below_size (bz0 HB.out))); replace HB := Aside0.mk (below_step (bz0 HB.out) hb); (try clear hb); (try clear ho0)) | ((with_reducible refine gate_callee (f := 20) rfl ?_); refine goesL_ (some 25) rfl rfl Tryd.func20 (by kernel_rfl) rfl #[.string t220] rfl lz ?_; (with_reducible refine (spec_Lex.calls k t220 t225 t226 _ A6.out).mono ?_); rintro e w12 ⟨v227, rfl, ho0, hb⟩; refine ⟨_, rfl, ?_⟩; have HO228 := Aside0.mk (Kd.R_lower (Kd.R_new' ho0 (Kd.R_lt (rz HO224.out))) (below_size (bz0 HB.out))); replace HO224 := Aside0.mk (Kd.R_elder' (rz HO224.out) (Kd.R_base ho0) hb); replace HB := Aside0.mk (below_step (bz0 HB.out) hb); (try clear hb); (try clear ho0); obtain ⟨Ao13, co13, eo13⟩ := Kd.R_slice HO224.out; subst eo13))
     go_ret
     exact ⟨gz, (bz0 HB.out)⟩
    ·rw [if_neg c9] at H
     have c9b0 : ((t221.length : Int) == 0) = false := beq_eq_false_iff_ne.mpr c9
     have c9b1 : ((t221.length : Int) != 0) = true := bne_iff_ne.mpr c9
     have c9b2 : ¬ (t221 = []) := fun h_ => c9 (by rw [h_]; rfl)
     obtain rfl := Option.some.inj H
     go_enter Tryd.func6, Tryd.ntmps6
     go_wp2_with (first | ((with_reducible refine gate_callee (f := 9) rfl ?_); refine goesL_ (some 15) rfl rfl Tryd.func9 (by kernel_rfl) rfl #[.slice A0 l0.length c0] rfl lz ?_; (with_reducible refine (laws_big.calls _ _ l0 false _ ?side1 ?side2 A2.out).mono ?_); (case side1 => repeat (first | exact HR0.out | (with_reducible refine Kd.C_alloc ?_ _) | (with_reducible refine Kd.C_drewN ?_ _) | (with_reducible refine Kd.C_drew ?_))); (case side2 => exact HC0.out); rintro e w' ⟨rfl, ⟨nd, rfl⟩⟩; refine ⟨_, rfl, ?_⟩) | ((with_reducible refine gate_callee (f := 25) rfl ?_); refine goesL_ (some 17) rfl rfl Tryd.func25 (by kernel_rfl) rfl #[.slice A0 l0.length c0] rfl lz ?_; (with_reducible refine (spec_DrawLex.calls k _ _ l0 t220 _ ?side1 ?side2 A4.out).mono ?_); (case side1 => repeat (first | exact HR0.out | (with_reducible refine Kd.C_alloc ?_ _) | (with_reducible refine Kd.C_drewN ?_ _) | (with_reducible refine Kd.C_drew ?_))); (case side2 => exact HC0.out); rintro e w14 ⟨rfl, hb⟩; refine ⟨_, rfl, ?_⟩; replace HB := Aside0.mk (below_step (bz0 HB.out) hb); (try clear hb); (try clear hi)) | ((with_reducible refine gate_callee (f := 21) rfl ?_); refine goesL_ (some 20) rfl rfl Tryd.func21 (by kernel_rfl) rfl #[.string t220] rfl lz ?_; (with_reducible refine (impl_Lex.calls k t220 t221 t222 _ A5.out ?hT_).mono ?_); (case hT_ => exact PW.below hT_ (bz0 HB.out)); rintro e w15 ⟨v223, rfl, ho0, hb⟩; refine ⟨_, rfl, ?_⟩; have HO224 := Aside0.mk (Kd.R_lower ho0 (below_size (bz0 HB.out))); replace HB := Aside0.mk (below_step (bz0 HB.out) hb); (try clear hb); (try clear ho0)) | ((with_reducible refine gate_callee (f := 20) rfl ?_); refine goesL_ (some 25) rfl rfl Tryd.func20 (by kernel_rfl) rfl #[.string t220] rfl lz ?_; (with_reducible refine (spec_Lex.calls k t220 t225 t226 _ A6.out).mono ?_); rintro e w16 ⟨v227, rfl, ho0, hb⟩; refine ⟨_, rfl, ?_⟩; have HO228 := Aside0.mk (Kd.R_lower (Kd.R_new' ho0 (Kd.R_lt (rz HO224.out))) (below_size (bz0 HB.out))); replace HO224 := Aside0.mk (Kd.R_elder' (rz HO224.out) (Kd.R_base ho0) hb); replace HB := Aside0.mk (below_step (bz0 HB.out) hb); (try clear hb); (try clear ho0); obtain ⟨Ao17, co17, eo17⟩ := Kd.R_slice HO224.out; subst eo17))
     go_ret
     exact ⟨gz, (bz0 HB.out)⟩
   ·rw [if_neg c8] at H
    have c8b0 : decide (0 <= t222) = false := decide_eq_false c8
    clear c8
    have H' := Aside0.mk H
    clear H
    go_enter Tryd.func6, Tryd.ntmps6
    go_wp2_with (first | ((with_reducible refine gate_callee (f := 9) rfl ?_); refine goesL_ (some 15) rfl rfl Tryd.func9 (by kernel_rfl) rfl #[.slice A0 l0.length c0] rfl lz ?_; (with_reducible refine (laws_big.calls _ _ l0 false _ ?side1 ?side2 A2.out).mono ?_); (case side1 => repeat (first | exact HR0.out | (with_reducible refine Kd.C_alloc ?_ _) | (with_reducible refine Kd.C_drewN ?_ _) | (with_reducible refine Kd.C_drew ?_))); (case side2 => exact HC0.out); rintro e w' ⟨rfl, ⟨nd, rfl⟩⟩; refine ⟨_, rfl, ?_⟩) | ((with_reducible refine gate_callee (f := 25) rfl ?_); refine goesL_ (some 17) rfl rfl Tryd.func25 (by kernel_rfl) rfl #[.slice A0 l0.length c0] rfl lz ?_; (with_reducible refine (spec_DrawLex.calls k _ _ l0 t220 _ ?side1 ?side2 A4.out).mono ?_); (case side1 => repeat (first | exact HR0.out | (with_reducible refine Kd.C_alloc ?_ _) | (with_reducible refine Kd.C_drewN ?_ _) | (with_reducible refine Kd.C_drew ?_))); (case side2 => exact HC0.out); rintro e w18 ⟨rfl, hb⟩; refine ⟨_, rfl, ?_⟩; replace HB := Aside0.mk (below_step (bz0 HB.out) hb); (try clear hb); (try clear hi)) | ((with_reducible refine gate_callee (f := 21) rfl ?_); refine goesL_ (some 20) rfl rfl Tryd.func21 (by kernel_rfl) rfl #[.string t220] rfl lz ?_; (with_reducible refine (impl_Lex.calls k t220 t221 t222 _ A5.out ?hT_).mono ?_); (case hT_ => exact PW.below hT_ (bz0 HB.out)); rintro e w19 ⟨v223, rfl, ho0, hb⟩; refine ⟨_, rfl, ?_⟩; have HO224 := Aside0.mk (Kd.R_lower ho0 (below_size (bz0 HB.out))); replace HB := Aside0.mk (below_step (bz0 HB.out) hb); (try clear hb); (try clear ho0)) | ((with_reducible refine gate_callee (f := 20) rfl ?_); refine goesL_ (some 25) rfl rfl Tryd.func20 (by kernel_rfl) rfl #[.string t220] rfl lz ?_; (with_reducible refine (spec_Lex.calls k t220 t225 t226 _ A6.out).mono ?_); rintro e w20 ⟨v227, rfl, ho0, hb⟩; refine ⟨_, rfl, ?_⟩; have HO228 := Aside0.mk (Kd.R_lower (Kd.R_new' ho0 (Kd.R_lt (rz HO224.out))) (below_size (bz0 HB.out))); replace HO224 := Aside0.mk (Kd.R_elder' (rz HO224.out) (Kd.R_base ho0) hb); replace HB := Aside0.mk (below_step (bz0 HB.out) hb); (try clear hb); (try clear ho0)))
    go_loopg [8, 9] k (fun kq v8 v9 w' => ∃ (x8_1 : Int) (x9_1 : Int), v8 = .int .i64 x8_1 /\ v9 = .int .i64 x9_1 /\ Aside0 (laws_FnLexed.l0 kq t220 t221 x8_1 x9_1 = some r) /\ Aside0 (kq <= k) /\ Aside0 (Kd.R k43 43 w' w.heap.size (fun _ => True) v223 t221) /\ Aside0 (Below w.heap.size w w'))
    case atStart => exact ⟨(0), (0), ez, ez, H', ⟨Nat.le_refl _⟩, ⟨by refine rq ?_; exact Kd.R_mono HO224.out (fun _ hk => trivial)⟩, ⟨(bz0 HB.out)⟩⟩
    case round =>
     clear H'
     try clear c2
     try clear p2
     try clear c3
     try clear c6
     try clear c7
     try clear c7b0
     try clear c7b1
     try clear c8
     try clear c8b0
     try clear c9
     try clear c9b0
     try clear c9b1
     try clear c9b2
     try clear c20
     obtain ⟨x8_1, x9_1, rfl, rfl, HA, HK1, HO_4, HB⟩ := hrel
     cases gk with
     | zero => exact absurd HA.out (by simp [laws_FnLexed.l0])
     | succ k1 =>
      have H := HA.out
      clear HA
      simp only [laws_FnLexed.l0] at H
      by_cases c21 : x9_1 < (t221.length : Int)
      ·rw [if_pos c21] at H
       have c21b0 := decide_eq_true c21
       clear c21
       replace H := iz H
       obtain ⟨c22, H⟩ := H
       have c22b0 := decide_eq_true c22
       clear c22
       by_cases c23 : ((rd_T43 t221 x9_1).f3) < x8_1
       ·rw [if_pos c23] at H
        have c23b0 := decide_eq_true c23
        clear c23
        obtain rfl := Option.some.inj H
        obtain ⟨Ao24, co24, eo24⟩ := Kd.R_slice HO_4.out
        subst eo24
        have p229 : 0 <= (x9_1 : Int) := oz
        have q229 : x9_1 < (t221.length : Int) := oz
        obtain ⟨ad229, e229, hx229_0, hx229_1, hx229_2, hx229_3⟩ := at_T43 (Kd.R_reads' HO_4.out).2.2 x9_1 p229 q229
        cases e229
        replace p229 := eq_true p229
        replace q229 := eq_true q229
        try go_wp2_with (first | ((with_reducible refine gate_dst (N := 10) rfl ?_); (try (refine gate_guard (by rfl) ?_; dsimp only)); refine box_event ?hg (N := 10) ?hd (cs := #[.int .i64 0, .string (⟨#[]⟩ : ByteArray), .int .i64 0, .int .i64 0]) (t := 43) ?hr ?_; (case hd => rfl); (case hg => rfl); (case hr => exact vz); intro gb230 hg w25 hbox hb; replace HO_4 := Aside0.mk (Kd.R_below (Kd.R_elderB (rz HO_4.out) gb230 (Nat.le_of_eq hg.symm)) hb); have BK230 := Aside0.mk (hbox); have GW230 := Aside0.mk ((by rw [hg]; exact (below_size (bz0 HB.out)) : w.heap.size <= gb230)); have GE230 := GW230; replace HB := Aside0.mk (below_step (bz0 HB.out) hb); clear hb hbox hg; obtain ⟨hcz26_0, hcz26_1, hcz26_2, hcz26_3⟩ := cz4 BK230.out; obtain ⟨hfz26_0, hfz26_1, hfz26_2, hfz26_3⟩ := fz4 BK230.out))
        have n0_ : Aside0 (Kd.R k43 43 ((((w25.setCell ⟨gb230, 0, none⟩ (.int .i64 ((rd_T43 t221 x9_1).f0))).setCell ⟨gb230, 1, none⟩ (.string ((rd_T43 t221 x9_1).f1))).setCell ⟨gb230, 2, none⟩ (.int .i64 ((rd_T43 t221 x9_1).f2))).setCell ⟨gb230, 3, none⟩ (.int .i64 ((rd_T43 t221 x9_1).f3))) w.heap.size (fun k_ => k_ ≠ gb230) (.slice (some ad229) t221.length co24) t221) := ⟨by refine rq ?_; first | (with_reducible exact Kd.R_mono (Kd.R_far (p := ⟨gb230, 3, none⟩) (Kd.R_far (p := ⟨gb230, 2, none⟩) (Kd.R_far (p := ⟨gb230, 1, none⟩) (Kd.R_far (p := ⟨gb230, 0, none⟩) (Kd.R_mono HO_4.out (fun k_ hk => (⟨hk, hk.2⟩ : _ /\ k_ ≠ gb230))) (fun _ hk => hk.2) (.int .i64 ((rd_T43 t221 x9_1).f0))) (fun _ hk => hk.2) (.string ((rd_T43 t221 x9_1).f1))) (fun _ hk => hk.2) (.int .i64 ((rd_T43 t221 x9_1).f2))) (fun _ hk => hk.2) (.int .i64 ((rd_T43 t221 x9_1).f3))) (fun _ hk => hk.1.2)) | exact Kd.R_mono (Kd.R_far (p := ⟨gb230, 3, none⟩) (Kd.R_drewN (Kd.R_far (p := ⟨gb230, 2, none⟩) (Kd.R_far (p := ⟨gb230, 1, none⟩) (Kd.R_far (p := ⟨gb230, 0, none⟩) (Kd.R_mono HO_4.out (fun k_ hk => (⟨hk, hk.2⟩ : _ /\ k_ ≠ gb230))) (fun _ hk => hk.2) (.int .i64 ((rd_T43 t221 x9_1).f0))) (fun _ hk => hk.2) (.string ((rd_T43 t221 x9_1).f1))) (fun _ hk => hk.2) (.int .i64 ((rd_T43 t221 x9_1).f2))) _) (fun _ hk => hk.2) (.int .i64 ((rd_T43 t221 x9_1).f3))) (fun _ hk => hk.1.2)⟩
        have n1_ : Aside0 (((((w25.setCell ⟨gb230, 0, none⟩ (.int .i64 ((rd_T43 t221 x9_1).f0))).setCell ⟨gb230, 1, none⟩ (.string ((rd_T43 t221 x9_1).f1))).setCell ⟨gb230, 2, none⟩ (.int .i64 ((rd_T43 t221 x9_1).f2))).setCell ⟨gb230, 3, none⟩ (.int .i64 ((rd_T43 t221 x9_1).f3))).heap[gb230]? = some (.cells #[.int .i64 ((rd_T43 t221 x9_1).f0), .string ((rd_T43 t221 x9_1).f1), .int .i64 ((rd_T43 t221 x9_1).f2), .int .i64 ((rd_T43 t221 x9_1).f3)] 43 (0, 0))) := ⟨by refine kq ?_; refine blk_put (cs := #[.int .i64 ((rd_T43 t221 x9_1).f0), .string ((rd_T43 t221 x9_1).f1), .int .i64 ((rd_T43 t221 x9_1).f2), .int .i64 0]) ?_ 3 _ rfl; refine kq ?_; refine blk_put (cs := #[.int .i64 ((rd_T43 t221 x9_1).f0), .string ((rd_T43 t221 x9_1).f1), .int .i64 0, .int .i64 0]) ?_ 2 _ rfl; refine kq ?_; refine blk_put (cs := #[.int .i64 ((rd_T43 t221 x9_1).f0), .string (⟨#[]⟩ : ByteArray), .int .i64 0, .int .i64 0]) ?_ 1 _ rfl; refine kq ?_; refine blk_put (cs := #[.int .i64 0, .string (⟨#[]⟩ : ByteArray), .int .i64 0, .int .i64 0]) ?_ 0 _ rfl; refine kq ?_; exact BK230.out⟩
        have n2_ : Aside0 (Below w.heap.size w ((((w25.setCell ⟨gb230, 0, none⟩ (.int .i64 ((rd_T43 t221 x9_1).f0))).setCell ⟨gb230, 1, none⟩ (.string ((rd_T43 t221 x9_1).f1))).setCell ⟨gb230, 2, none⟩ (.int .i64 ((rd_T43 t221 x9_1).f2))).setCell ⟨gb230, 3, none⟩ (.int .i64 ((rd_T43 t221 x9_1).f3)))) := ⟨(bz1 HB.out GE230.out)⟩
        (try clear HO_4)
        (try clear BK230)
        (try clear HB)
        generalize ((((w25.setCell ⟨gb230, 0, none⟩ (.int .i64 ((rd_T43 t221 x9_1).f0))).setCell ⟨gb230, 1, none⟩ (.string ((rd_T43 t221 x9_1).f1))).setCell ⟨gb230, 2, none⟩ (.int .i64 ((rd_T43 t221 x9_1).f2))).setCell ⟨gb230, 3, none⟩ (.int .i64 ((rd_T43 t221 x9_1).f3))) = w27 at n0_ n1_ n2_ ⊢
        have HO_4 := n0_
        have BK230 := n1_
        have HB := n2_
        clear n0_ n1_ n2_
        have n0_ := Aside0.mk (Kd.R_drew HO_4.out)
        have n1_ := Aside0.mk (blk_drew BK230.out)
        have n2_ := Aside0.mk (below_drew1 HB.out)
        clear HO_4
        clear BK230
        clear HB
        have HO_4 := n0_
        have BK230 := n1_
        have HB := n2_
        clear n0_ n1_ n2_
        refine start_ (n := 54) (S := fun w' => w'.cell? ⟨gb230, 0, none⟩ = some (.int .i64 ((rd_T43 t221 x9_1).f0)) /\ w'.cell? ⟨gb230, 1, none⟩ = some (.string ((rd_T43 t221 x9_1).f1)) /\ w'.cell? ⟨gb230, 2, none⟩ = some (.int .i64 ((rd_T43 t221 x9_1).f2)) /\ w'.cell? ⟨gb230, 3, none⟩ = some (.int .i64 ((rd_T43 t221 x9_1).f3))) (ds := []) (mk_ 0 54) (by kernel_rfl) rfl rfl ⟨(blk_cell BK230.out 0).trans rfl, (blk_cell BK230.out 1).trans rfl, (blk_cell BK230.out 2).trans rfl, (blk_cell BK230.out 3).trans rfl⟩ (fun hHeld => ?_); refine with_tabW laws_FnLexed.tab15 laws_FnLexed.bits15 (fun HT_ HW_ => ?_)
        generalize w27.drew = w28 at HO_4 BK230 HB hHeld ⊢
        refine pv 0 52 (mk_ 1 53) HT_ rfl rfl ?_
        refine pv 2 54 (bm_ 54 5) HT_ rfl rfl ?_
        refine tv4 1 53 (mk_ 3 51) HT_ HW_ rfl rfl hHeld ?_
        refine pv 3 55 (mk_ 4 50) HT_ rfl rfl ?_
        refine pv 4 56 (mk_ 5 49) HT_ rfl rfl ?_
        refine pu 5 57 (mk_ 6 48) HT_ rfl rfl ?_
        refine pu 6 58 (mk_ 7 47) HT_ rfl rfl ?_
        refine pu 7 59 (mk_ 8 46) HT_ rfl rfl ?_
        refine pu 8 60 (mk_ 9 45) HT_ rfl rfl ?_
        refine pu 9 61 (mk_ 10 44) HT_ rfl rfl ?_
        refine pu 10 62 (mk_ 11 43) HT_ rfl rfl ?_
        refine pu 11 63 (mk_ 12 42) HT_ rfl rfl ?_
        refine pu 12 64 (mk_ 13 41) HT_ rfl rfl ?_
        refine pu 13 65 (mk_ 14 40) HT_ rfl rfl ?_
        refine pv 14 66 (mk_ 15 39) HT_ rfl rfl ?_
        refine pv 15 67 (mk_ 16 38) HT_ rfl rfl ?_
        refine pu 16 68 (mk_ 17 37) HT_ rfl rfl ?_
        refine pu 17 69 (mk_ 18 36) HT_ rfl rfl ?_
        refine pu 18 70 (mk_ 19 35) HT_ rfl rfl ?_
        refine pu 19 71 (mk_ 20 34) HT_ rfl rfl ?_
        refine pu 20 72 (mk_ 21 33) HT_ rfl rfl ?_
        refine pu 21 73 (mk_ 22 32) HT_ rfl rfl ?_
        refine pu 22 74 (mk_ 23 31) HT_ rfl rfl ?_
        refine pu 23 75 (mk_ 24 30) HT_ rfl rfl ?_
        refine pu 24 76 (mk_ 25 29) HT_ rfl rfl ?_
        refine pu 25 77 (mk_ 26 28) HT_ rfl rfl ?_
        refine pu 26 78 (mk_ 27 27) HT_ rfl rfl ?_
        refine pu 27 79 (mk_ 28 26) HT_ rfl rfl ?_
        refine pu 28 80 (mk_ 29 25) HT_ rfl rfl ?_
        refine pv 29 81 (mk_ 30 24) HT_ rfl rfl ?_
        refine pv 30 82 (mk_ 31 23) HT_ rfl rfl ?_
        refine pu 31 83 (mk_ 32 22) HT_ rfl rfl ?_
        refine pu 32 84 (mk_ 33 21) HT_ rfl rfl ?_
        refine pu 33 85 (mk_ 34 20) HT_ rfl rfl ?_
        refine pu 34 86 (mk_ 35 19) HT_ rfl rfl ?_
        refine pu 35 87 (mk_ 36 18) HT_ rfl rfl ?_
        refine pu 36 88 (mk_ 37 17) HT_ rfl rfl ?_
        refine pu 37 89 (mk_ 38 16) HT_ rfl rfl ?_
        refine pu 38 90 (mk_ 39 15) HT_ rfl rfl ?_
        refine pu 39 91 (mk_ 40 14) HT_ rfl rfl ?_
        refine pv 40 92 (mk_ 41 13) HT_ rfl rfl ?_
        refine pv 41 93 (mk_ 42 12) HT_ rfl rfl ?_
        refine pu 42 94 (mk_ 43 11) HT_ rfl rfl ?_
        refine pu 43 95 (mk_ 44 10) HT_ rfl rfl ?_
        refine pu 44 96 (mk_ 45 9) HT_ rfl rfl ?_
        refine pu 45 97 (mk_ 46 8) HT_ rfl rfl ?_
        refine pu 46 98 (mk_ 47 7) HT_ rfl rfl ?_
        refine pu 47 99 (mk_ 48 6) HT_ rfl rfl ?_
        refine pu 48 100 (mk_ 49 5) HT_ rfl rfl ?_
        refine pu 49 101 (mk_ 50 4) HT_ rfl rfl ?_
        refine pu 50 102 (mk_ 51 3) HT_ rfl rfl ?_
        refine pu 51 103 (mk_ 52 2) HT_ rfl rfl ?_
        refine pu 52 104 (mk_ 53 1) HT_ rfl rfl ?_
        refine pv 53 105 (mk_ 54 0) HT_ rfl rfl ?_
        refine done_ (done_of HT_.out (by kernel_rfl)) ?_
        try go_wp2
        go_ret
        exact ⟨gz, (bz1 HB.out GE230.out)⟩
       ·rw [if_neg c23] at H
        have c23b0 := decide_eq_false c23
        clear c23
        by_cases c29 : (wrap64 (((rd_T43 t221 x9_1).f3) + (((rd_T43 t221 x9_1).f1).size : Int))) > (t220.size : Int)
        ·rw [if_pos c29] at H
         have c29b0 : decide ((t220.size : Int) < (wrap64 (((rd_T43 t221 x9_1).f3) + (((rd_T43 t221 x9_1).f1).size : Int)))) = true := decide_eq_true c29
         clear c29
         obtain rfl := Option.some.inj H
         obtain ⟨Ao30, co30, eo30⟩ := Kd.R_slice HO_4.out
         subst eo30
         have p229 : 0 <= (x9_1 : Int) := oz
         have q229 : x9_1 < (t221.length : Int) := oz
         obtain ⟨ad229, e229, hx229_0, hx229_1, hx229_2, hx229_3⟩ := at_T43 (Kd.R_reads' HO_4.out).2.2 x9_1 p229 q229
         cases e229
         replace p229 := eq_true p229
         replace q229 := eq_true q229
         try go_wp2_with (first | ((with_reducible refine gate_dst (N := 10) rfl ?_); (try (refine gate_guard (by rfl) ?_; dsimp only)); refine box_event ?hg (N := 10) ?hd (cs := #[.int .i64 0, .string (⟨#[]⟩ : ByteArray), .int .i64 0, .int .i64 0]) (t := 43) ?hr ?_; (case hd => rfl); (case hg => rfl); (case hr => exact vz); intro gb230 hg w31 hbox hb; replace HO_4 := Aside0.mk (Kd.R_below (Kd.R_elderB (rz HO_4.out) gb230 (Nat.le_of_eq hg.symm)) hb); have BK230 := Aside0.mk (hbox); have GW230 := Aside0.mk ((by rw [hg]; exact (below_size (bz0 HB.out)) : w.heap.size <= gb230)); have GE230 := GW230; replace HB := Aside0.mk (below_step (bz0 HB.out) hb); clear hb hbox hg; obtain ⟨hcz32_0, hcz32_1, hcz32_2, hcz32_3⟩ := cz4 BK230.out; obtain ⟨hfz32_0, hfz32_1, hfz32_2, hfz32_3⟩ := fz4 BK230.out))
         have n0_ : Aside0 (Kd.R k43 43 ((((w31.setCell ⟨gb230, 0, none⟩ (.int .i64 ((rd_T43 t221 x9_1).f0))).setCell ⟨gb230, 1, none⟩ (.string ((rd_T43 t221 x9_1).f1))).setCell ⟨gb230, 2, none⟩ (.int .i64 ((rd_T43 t221 x9_1).f2))).setCell ⟨gb230, 3, none⟩ (.int .i64 ((rd_T43 t221 x9_1).f3))) w.heap.size (fun k_ => k_ ≠ gb230) (.slice (some ad229) t221.length co30) t221) := ⟨by refine rq ?_; first | (with_reducible exact Kd.R_mono (Kd.R_far (p := ⟨gb230, 3, none⟩) (Kd.R_far (p := ⟨gb230, 2, none⟩) (Kd.R_far (p := ⟨gb230, 1, none⟩) (Kd.R_far (p := ⟨gb230, 0, none⟩) (Kd.R_mono HO_4.out (fun k_ hk => (⟨hk, hk.2⟩ : _ /\ k_ ≠ gb230))) (fun _ hk => hk.2) (.int .i64 ((rd_T43 t221 x9_1).f0))) (fun _ hk => hk.2) (.string ((rd_T43 t221 x9_1).f1))) (fun _ hk => hk.2) (.int .i64 ((rd_T43 t221 x9_1).f2))) (fun _ hk => hk.2) (.int .i64 ((rd_T43 t221 x9_1).f3))) (fun _ hk => hk.1.2)) | exact Kd.R_mono (Kd.R_far (p := ⟨gb230, 3, none⟩) (Kd.R_drewN (Kd.R_far (p := ⟨gb230, 2, none⟩) (Kd.R_far (p := ⟨gb230, 1, none⟩) (Kd.R_far (p := ⟨gb230, 0, none⟩) (Kd.R_mono HO_4.out (fun k_ hk => (⟨hk, hk.2⟩ : _ /\ k_ ≠ gb230))) (fun _ hk => hk.2) (.int .i64 ((rd_T43 t221 x9_1).f0))) (fun _ hk => hk.2) (.string ((rd_T43 t221 x9_1).f1))) (fun _ hk => hk.2) (.int .i64 ((rd_T43 t221 x9_1).f2))) _) (fun _ hk => hk.2) (.int .i64 ((rd_T43 t221 x9_1).f3))) (fun _ hk => hk.1.2)⟩
         have n1_ : Aside0 (((((w31.setCell ⟨gb230, 0, none⟩ (.int .i64 ((rd_T43 t221 x9_1).f0))).setCell ⟨gb230, 1, none⟩ (.string ((rd_T43 t221 x9_1).f1))).setCell ⟨gb230, 2, none⟩ (.int .i64 ((rd_T43 t221 x9_1).f2))).setCell ⟨gb230, 3, none⟩ (.int .i64 ((rd_T43 t221 x9_1).f3))).heap[gb230]? = some (.cells #[.int .i64 ((rd_T43 t221 x9_1).f0), .string ((rd_T43 t221 x9_1).f1), .int .i64 ((rd_T43 t221 x9_1).f2), .int .i64 ((rd_T43 t221 x9_1).f3)] 43 (0, 0))) := ⟨by refine kq ?_; refine blk_put (cs := #[.int .i64 ((rd_T43 t221 x9_1).f0), .string ((rd_T43 t221 x9_1).f1), .int .i64 ((rd_T43 t221 x9_1).f2), .int .i64 0]) ?_ 3 _ rfl; refine kq ?_; refine blk_put (cs := #[.int .i64 ((rd_T43 t221 x9_1).f0), .string ((rd_T43 t221 x9_1).f1), .int .i64 0, .int .i64 0]) ?_ 2 _ rfl; refine kq ?_; refine blk_put (cs := #[.int .i64 ((rd_T43 t221 x9_1).f0), .string (⟨#[]⟩ : ByteArray), .int .i64 0, .int .i64 0]) ?_ 1 _ rfl; refine kq ?_; refine blk_put (cs := #[.int .i64 0, .string (⟨#[]⟩ : ByteArray), .int .i64 0, .int .i64 0]) ?_ 0 _ rfl; refine kq ?_; exact BK230.out⟩
         have n2_ : Aside0 (Below w.heap.size w ((((w31.setCell ⟨gb230, 0, none⟩ (.int .i64 ((rd_T43 t221 x9_1).f0))).setCell ⟨gb230, 1, none⟩ (.string ((rd_T43 t221 x9_1).f1))).setCell ⟨gb230, 2, none⟩ (.int .i64 ((rd_T43 t221 x9_1).f2))).setCell ⟨gb230, 3, none⟩ (.int .i64 ((rd_T43 t221 x9_1).f3)))) := ⟨(bz1 HB.out GE230.out)⟩
         (try clear HO_4)
         (try clear BK230)
         (try clear HB)
         generalize ((((w31.setCell ⟨gb230, 0, none⟩ (.int .i64 ((rd_T43 t221 x9_1).f0))).setCell ⟨gb230, 1, none⟩ (.string ((rd_T43 t221 x9_1).f1))).setCell ⟨gb230, 2, none⟩ (.int .i64 ((rd_T43 t221 x9_1).f2))).setCell ⟨gb230, 3, none⟩ (.int .i64 ((rd_T43 t221 x9_1).f3))) = w33 at n0_ n1_ n2_ ⊢
         have HO_4 := n0_
         have BK230 := n1_
         have HB := n2_
         clear n0_ n1_ n2_
         have n0_ := Aside0.mk (Kd.R_drew HO_4.out)
         have n1_ := Aside0.mk (blk_drew BK230.out)
         have n2_ := Aside0.mk (below_drew1 HB.out)
         clear HO_4
         clear BK230
         clear HB
         have HO_4 := n0_
         have BK230 := n1_
         have HB := n2_
         clear n0_ n1_ n2_
         refine start_ (n := 54) (S := fun w' => w'.cell? ⟨gb230, 0, none⟩ = some (.int .i64 ((rd_T43 t221 x9_1).f0)) /\ w'.cell? ⟨gb230, 1, none⟩ = some (.string ((rd_T43 t221 x9_1).f1)) /\ w'.cell? ⟨gb230, 2, none⟩ = some (.int .i64 ((rd_T43 t221 x9_1).f2)) /\ w'.cell? ⟨gb230, 3, none⟩ = some (.int .i64 ((rd_T43 t221 x9_1).f3))) (ds := []) (mk_ 0 54) (by kernel_rfl) rfl rfl ⟨(blk_cell BK230.out 0).trans rfl, (blk_cell BK230.out 1).trans rfl, (blk_cell BK230.out 2).trans rfl, (blk_cell BK230.out 3).trans rfl⟩ (fun hHeld => ?_); refine with_tabW laws_FnLexed.tab15 laws_FnLexed.bits15 (fun HT_ HW_ => ?_)
         generalize w33.drew = w34 at HO_4 BK230 HB hHeld ⊢
         refine pv 0 52 (mk_ 1 53) HT_ rfl rfl ?_
         refine pv 2 54 (bm_ 54 5) HT_ rfl rfl ?_
         refine tv4 1 53 (mk_ 3 51) HT_ HW_ rfl rfl hHeld ?_
         refine pv 3 55 (mk_ 4 50) HT_ rfl rfl ?_
         refine pv 4 56 (mk_ 5 49) HT_ rfl rfl ?_
         refine pv 5 57 (mk_ 6 48) HT_ rfl rfl ?_
         refine pv 7 59 (bm_ 54 191) HT_ rfl rfl ?_
         refine pv 11 63 (bm_ 54 2239) HT_ rfl rfl ?_
         refine pv 12 64 (bm_ 54 6335) HT_ rfl rfl ?_
         refine tv4 6 58 (bm_ 54 6399) HT_ HW_ rfl rfl hHeld ?_
         refine tv4 8 60 (bm_ 54 6655) HT_ HW_ rfl rfl hHeld ?_
         refine pv 9 61 (bm_ 54 7167) HT_ rfl rfl ?_
         refine pv 10 62 (mk_ 13 41) HT_ rfl rfl ?_
         refine pv 13 65 (mk_ 14 40) HT_ rfl rfl ?_
         refine pv 14 66 (mk_ 15 39) HT_ rfl rfl ?_
         refine pv 15 67 (mk_ 16 38) HT_ rfl rfl ?_
         refine pu 16 68 (mk_ 17 37) HT_ rfl rfl ?_
         refine pu 17 69 (mk_ 18 36) HT_ rfl rfl ?_
         refine pu 18 70 (mk_ 19 35) HT_ rfl rfl ?_
         refine pu 19 71 (mk_ 20 34) HT_ rfl rfl ?_
         refine pu 20 72 (mk_ 21 33) HT_ rfl rfl ?_
         refine pu 21 73 (mk_ 22 32) HT_ rfl rfl ?_
         refine pu 22 74 (mk_ 23 31) HT_ rfl rfl ?_
         refine pu 23 75 (mk_ 24 30) HT_ rfl rfl ?_
         refine pu 24 76 (mk_ 25 29) HT_ rfl rfl ?_
         refine pu 25 77 (mk_ 26 28) HT_ rfl rfl ?_
         refine pu 26 78 (mk_ 27 27) HT_ rfl rfl ?_
         refine pu 27 79 (mk_ 28 26) HT_ rfl rfl ?_
         refine pu 28 80 (mk_ 29 25) HT_ rfl rfl ?_
         refine pv 29 81 (mk_ 30 24) HT_ rfl rfl ?_
         refine pv 30 82 (mk_ 31 23) HT_ rfl rfl ?_
         refine pu 31 83 (mk_ 32 22) HT_ rfl rfl ?_
         refine pu 32 84 (mk_ 33 21) HT_ rfl rfl ?_
         refine pu 33 85 (mk_ 34 20) HT_ rfl rfl ?_
         refine pu 34 86 (mk_ 35 19) HT_ rfl rfl ?_
         refine pu 35 87 (mk_ 36 18) HT_ rfl rfl ?_
         refine pu 36 88 (mk_ 37 17) HT_ rfl rfl ?_
         refine pu 37 89 (mk_ 38 16) HT_ rfl rfl ?_
         refine pu 38 90 (mk_ 39 15) HT_ rfl rfl ?_
         refine pu 39 91 (mk_ 40 14) HT_ rfl rfl ?_
         refine pv 40 92 (mk_ 41 13) HT_ rfl rfl ?_
         refine pv 41 93 (mk_ 42 12) HT_ rfl rfl ?_
         refine pu 42 94 (mk_ 43 11) HT_ rfl rfl ?_
         refine pu 43 95 (mk_ 44 10) HT_ rfl rfl ?_
         refine pu 44 96 (mk_ 45 9) HT_ rfl rfl ?_
         refine pu 45 97 (mk_ 46 8) HT_ rfl rfl ?_
         refine pu 46 98 (mk_ 47 7) HT_ rfl rfl ?_
         refine pu 47 99 (mk_ 48 6) HT_ rfl rfl ?_
         refine pu 48 100 (mk_ 49 5) HT_ rfl rfl ?_
         refine pu 49 101 (mk_ 50 4) HT_ rfl rfl ?_
         refine pu 50 102 (mk_ 51 3) HT_ rfl rfl ?_
         refine pu 51 103 (mk_ 52 2) HT_ rfl rfl ?_
         refine pu 52 104 (mk_ 53 1) HT_ rfl rfl ?_
         refine pv 53 105 (mk_ 54 0) HT_ rfl rfl ?_
         refine done_ (done_of HT_.out (by kernel_rfl)) ?_
         try go_wp2
         go_ret
         exact ⟨gz, (bz1 HB.out GE230.out)⟩
        ·rw [if_neg c29] at H
         have c29b0 : decide ((t220.size : Int) < (wrap64 (((rd_T43 t221 x9_1).f3) + (((rd_T43 t221 x9_1).f1).size : Int)))) = false := decide_eq_false c29
         clear c29
         replace H := iz H
         obtain ⟨c35, H⟩ := H
         have c35b0 := eq_true c35
         have c35b1 : decide (0 <= ((rd_T43 t221 x9_1).f3)) = true := decide_eq_true c35
         clear c35
         replace H := iz H
         obtain ⟨c36, H⟩ := H
         have c36b0 := eq_true c36
         have c36b1 : decide (((rd_T43 t221 x9_1).f3) <= (wrap64 (((rd_T43 t221 x9_1).f3) + (((rd_T43 t221 x9_1).f1).size : Int)))) = true := decide_eq_true c36
         replace H := iz H
         obtain ⟨c37, H⟩ := H
         have c37b0 := eq_true c37
         have c37b1 : decide ((wrap64 (((rd_T43 t221 x9_1).f3) + (((rd_T43 t221 x9_1).f1).size : Int))) <= (t220.size : Int)) = true := decide_eq_true c37
         by_cases c38 : (t220.extract (((rd_T43 t221 x9_1).f3) : Int).toNat ((wrap64 (((rd_T43 t221 x9_1).f3) + (((rd_T43 t221 x9_1).f1).size : Int))) : Int).toNat).toList = ((rd_T43 t221 x9_1).f1).toList
         ·rw [if_pos c38] at H
          have c38b0 : ((t220.extract (((rd_T43 t221 x9_1).f3) : Int).toNat ((wrap64 (((rd_T43 t221 x9_1).f3) + (((rd_T43 t221 x9_1).f1).size : Int))) : Int).toNat).toList == ((rd_T43 t221 x9_1).f1).toList) = true := beq_iff_eq.mpr c38
          have c38b1 : ((t220.extract (((rd_T43 t221 x9_1).f3) : Int).toNat ((wrap64 (((rd_T43 t221 x9_1).f3) + (((rd_T43 t221 x9_1).f1).size : Int))) : Int).toNat).toList != ((rd_T43 t221 x9_1).f1).toList) = false := bne_eq_false_iff_eq.mpr c38
          clear c38
          by_cases c39 : ((rd_T43 t221 x9_1).f0) = 3
          ·rw [if_pos c39] at H
           have c39b0 : (((rd_T43 t221 x9_1).f0) == 3) = true := beq_iff_eq.mpr c39
           have c39b1 : (((rd_T43 t221 x9_1).f0) != 3) = false := bne_eq_false_iff_eq.mpr c39
           clear c39
           replace H := bi H
           obtain ⟨t231, A400, H⟩ := H
           try dsimp only at H
           have A40 := Aside0.mk A400
           clear A400
           by_cases c41 : t231 = true
           ·subst c41
            have H1 := hp H
            clear H
            have H := H1
            clear H1
            by_cases c42 : ((rd_T43 t221 x9_1).f0) = 4
            ·rw [if_pos c42] at H
             have c42b0 : (((rd_T43 t221 x9_1).f0) == 4) = true := beq_iff_eq.mpr c42
             have c42b1 : (((rd_T43 t221 x9_1).f0) != 4) = false := bne_eq_false_iff_eq.mpr c42
             clear c42
             replace H := bi H
             obtain ⟨t232, A430, H⟩ := H
             try dsimp only at H
             have A43 := Aside0.mk A430
             clear A430
             by_cases c44 : t232.toList = ((rd_T43 t221 x9_1).f1).toList
             ·rw [if_pos c44] at H
              have c44b0 : (t232.toList == ((rd_T43 t221 x9_1).f1).toList) = true := beq_iff_eq.mpr c44
              have c44b1 : (t232.toList != ((rd_T43 t221 x9_1).f1).toList) = false := bne_eq_false_iff_eq.mpr c44
              clear c44
              have H' := Aside0.mk H
              clear H
              obtain ⟨Ao45, co45, eo45⟩ := Kd.R_slice HO_4.out
              subst eo45
              have p229 : 0 <= (x9_1 : Int) := oz
              have q229 : x9_1 < (t221.length : Int) := oz
              obtain ⟨ad229, e229, hx229_0, hx229_1, hx229_2, hx229_3⟩ := at_T43 (Kd.R_reads' HO_4.out).2.2 x9_1 p229 q229
              cases e229
              replace p229 := eq_true p229
              replace q229 := eq_true q229
              try go_wp2_with (first | ((with_reducible refine gate_dst (N := 10) rfl ?_); (try (refine gate_guard (by rfl) ?_; dsimp only)); refine box_event ?hg (N := 10) ?hd (cs := #[.int .i64 0, .string (⟨#[]⟩ : ByteArray), .int .i64 0, .int .i64 0]) (t := 43) ?hr ?_; (case hd => rfl); (case hg => rfl); (case hr => exact vz); intro gb230 hg w46 hbox hb; replace HO_4 := Aside0.mk (Kd.R_below (Kd.R_elderB (rz HO_4.out) gb230 (Nat.le_of_eq hg.symm)) hb); have BK230 := Aside0.mk (hbox); have GW230 := Aside0.mk ((by rw [hg]; exact (below_size (bz0 HB.out)) : w.heap.size <= gb230)); have GE230 := GW230; replace HB := Aside0.mk (below_step (bz0 HB.out) hb); clear hb hbox hg; obtain ⟨hcz47_0, hcz47_1, hcz47_2, hcz47_3⟩ := cz4 BK230.out; obtain ⟨hfz47_0, hfz47_1, hfz47_2, hfz47_3⟩ := fz4 BK230.out))
              have n0_ : Aside0 (Kd.R k43 43 ((((w46.setCell ⟨gb230, 0, none⟩ (.int .i64 ((rd_T43 t221 x9_1).f0))).setCell ⟨gb230, 1, none⟩ (.string ((rd_T43 t221 x9_1).f1))).setCell ⟨gb230, 2, none⟩ (.int .i64 ((rd_T43 t221 x9_1).f2))).setCell ⟨gb230, 3, none⟩ (.int .i64 ((rd_T43 t221 x9_1).f3))) w.heap.size (fun k_ => k_ ≠ gb230) (.slice (some ad229) t221.length co45) t221) := ⟨by refine rq ?_; first | (with_reducible exact Kd.R_mono (Kd.R_far (p := ⟨gb230, 3, none⟩) (Kd.R_far (p := ⟨gb230, 2, none⟩) (Kd.R_far (p := ⟨gb230, 1, none⟩) (Kd.R_far (p := ⟨gb230, 0, none⟩) (Kd.R_mono HO_4.out (fun k_ hk => (⟨hk, hk.2⟩ : _ /\ k_ ≠ gb230))) (fun _ hk => hk.2) (.int .i64 ((rd_T43 t221 x9_1).f0))) (fun _ hk => hk.2) (.string ((rd_T43 t221 x9_1).f1))) (fun _ hk => hk.2) (.int .i64 ((rd_T43 t221 x9_1).f2))) (fun _ hk => hk.2) (.int .i64 ((rd_T43 t221 x9_1).f3))) (fun _ hk => hk.1.2)) | exact Kd.R_mono (Kd.R_far (p := ⟨gb230, 3, none⟩) (Kd.R_drewN (Kd.R_far (p := ⟨gb230, 2, none⟩) (Kd.R_far (p := ⟨gb230, 1, none⟩) (Kd.R_far (p := ⟨gb230, 0, none⟩) (Kd.R_mono HO_4.out (fun k_ hk => (⟨hk, hk.2⟩ : _ /\ k_ ≠ gb230))) (fun _ hk => hk.2) (.int .i64 ((rd_T43 t221 x9_1).f0))) (fun _ hk => hk.2) (.string ((rd_T43 t221 x9_1).f1))) (fun _ hk => hk.2) (.int .i64 ((rd_T43 t221 x9_1).f2))) _) (fun _ hk => hk.2) (.int .i64 ((rd_T43 t221 x9_1).f3))) (fun _ hk => hk.1.2)⟩
              have n1_ : Aside0 (((((w46.setCell ⟨gb230, 0, none⟩ (.int .i64 ((rd_T43 t221 x9_1).f0))).setCell ⟨gb230, 1, none⟩ (.string ((rd_T43 t221 x9_1).f1))).setCell ⟨gb230, 2, none⟩ (.int .i64 ((rd_T43 t221 x9_1).f2))).setCell ⟨gb230, 3, none⟩ (.int .i64 ((rd_T43 t221 x9_1).f3))).heap[gb230]? = some (.cells #[.int .i64 ((rd_T43 t221 x9_1).f0), .string ((rd_T43 t221 x9_1).f1), .int .i64 ((rd_T43 t221 x9_1).f2), .int .i64 ((rd_T43 t221 x9_1).f3)] 43 (0, 0))) := ⟨by refine kq ?_; refine blk_put (cs := #[.int .i64 ((rd_T43 t221 x9_1).f0), .string ((rd_T43 t221 x9_1).f1), .int .i64 ((rd_T43 t221 x9_1).f2), .int .i64 0]) ?_ 3 _ rfl; refine kq ?_; refine blk_put (cs := #[.int .i64 ((rd_T43 t221 x9_1).f0), .string ((rd_T43 t221 x9_1).f1), .int .i64 0, .int .i64 0]) ?_ 2 _ rfl; refine kq ?_; refine blk_put (cs := #[.int .i64 ((rd_T43 t221 x9_1).f0), .string (⟨#[]⟩ : ByteArray), .int .i64 0, .int .i64 0]) ?_ 1 _ rfl; refine kq ?_; refine blk_put (cs := #[.int .i64 0, .string (⟨#[]⟩ : ByteArray), .int .i64 0, .int .i64 0]) ?_ 0 _ rfl; refine kq ?_; exact BK230.out⟩
              have n2_ : Aside0 (Below w.heap.size w ((((w46.setCell ⟨gb230, 0, none⟩ (.int .i64 ((rd_T43 t221 x9_1).f0))).setCell ⟨gb230, 1, none⟩ (.string ((rd_T43 t221 x9_1).f1))).setCell ⟨gb230, 2, none⟩ (.int .i64 ((rd_T43 t221 x9_1).f2))).setCell ⟨gb230, 3, none⟩ (.int .i64 ((rd_T43 t221 x9_1).f3)))) := ⟨(bz1 HB.out GE230.out)⟩
              (try clear HO_4)
              (try clear BK230)
              (try clear HB)
              generalize ((((w46.setCell ⟨gb230, 0, none⟩ (.int .i64 ((rd_T43 t221 x9_1).f0))).setCell ⟨gb230, 1, none⟩ (.string ((rd_T43 t221 x9_1).f1))).setCell ⟨gb230, 2, none⟩ (.int .i64 ((rd_T43 t221 x9_1).f2))).setCell ⟨gb230, 3, none⟩ (.int .i64 ((rd_T43 t221 x9_1).f3))) = w48 at n0_ n1_ n2_ ⊢
              have HO_4 := n0_
              have BK230 := n1_
              have HB := n2_
              clear n0_ n1_ n2_
              have n0_ := Aside0.mk (Kd.R_drew HO_4.out)
              have n1_ := Aside0.mk (blk_drew BK230.out)
              have n2_ := Aside0.mk (below_drew1 HB.out)
              clear HO_4
              clear BK230
              clear HB
              have HO_4 := n0_
              have BK230 := n1_
              have HB := n2_
              clear n0_ n1_ n2_
              refine start_ (n := 54) (S := fun w' => w'.cell? ⟨gb230, 0, none⟩ = some (.int .i64 ((rd_T43 t221 x9_1).f0)) /\ w'.cell? ⟨gb230, 1, none⟩ = some (.string ((rd_T43 t221 x9_1).f1)) /\ w'.cell? ⟨gb230, 2, none⟩ = some (.int .i64 ((rd_T43 t221 x9_1).f2)) /\ w'.cell? ⟨gb230, 3, none⟩ = some (.int .i64 ((rd_T43 t221 x9_1).f3))) (ds := []) (mk_ 0 54) (by kernel_rfl) rfl rfl ⟨(blk_cell BK230.out 0).trans rfl, (blk_cell BK230.out 1).trans rfl, (blk_cell BK230.out 2).trans rfl, (blk_cell BK230.out 3).trans rfl⟩ (fun hHeld => ?_); refine with_tabW laws_FnLexed.tab15 laws_FnLexed.bits15 (fun HT_ HW_ => ?_)
              generalize w48.drew = w49 at HO_4 BK230 HB hHeld ⊢
              refine pv 0 52 (mk_ 1 53) HT_ rfl rfl ?_
              refine pv 2 54 (bm_ 54 5) HT_ rfl rfl ?_
              refine tv4 1 53 (mk_ 3 51) HT_ HW_ rfl rfl hHeld ?_
              refine pv 3 55 (mk_ 4 50) HT_ rfl rfl ?_
              refine pv 4 56 (mk_ 5 49) HT_ rfl rfl ?_
              refine pv 5 57 (mk_ 6 48) HT_ rfl rfl ?_
              refine pv 7 59 (bm_ 54 191) HT_ rfl rfl ?_
              refine pv 11 63 (bm_ 54 2239) HT_ rfl rfl ?_
              refine pv 12 64 (bm_ 54 6335) HT_ rfl rfl ?_
              refine tv4 6 58 (bm_ 54 6399) HT_ HW_ rfl rfl hHeld ?_
              refine tv4 8 60 (bm_ 54 6655) HT_ HW_ rfl rfl hHeld ?_
              refine pv 9 61 (bm_ 54 7167) HT_ rfl rfl ?_
              refine pv 10 62 (mk_ 13 41) HT_ rfl rfl ?_
              refine pv 13 65 (mk_ 14 40) HT_ rfl rfl ?_
              refine pv 14 66 (mk_ 15 39) HT_ rfl rfl ?_
              refine pv 15 67 (mk_ 16 38) HT_ rfl rfl ?_
              refine pv 16 68 (mk_ 17 37) HT_ rfl rfl ?_
              refine pv 17 69 (mk_ 18 36) HT_ rfl rfl ?_
              refine pv 19 71 (bm_ 54 786431) HT_ rfl rfl ?_
              refine pv 21 73 (bm_ 54 2883583) HT_ rfl rfl ?_
              refine pv 26 78 (bm_ 54 69992447) HT_ rfl rfl ?_
              refine tv4 18 70 (bm_ 54 70254591) HT_ HW_ rfl rfl hHeld ?_
              refine tv4 20 72 (bm_ 54 71303167) HT_ HW_ rfl rfl hHeld ?_
              refine tv4 22 74 (bm_ 54 75497471) HT_ HW_ rfl rfl hHeld ?_
              refine pv 23 75 (bm_ 54 83886079) HT_ rfl rfl ?_
              refine pv 24 76 (bm_ 54 100663295) HT_ rfl rfl ?_
              refine pv 25 77 (mk_ 27 27) HT_ rfl rfl ?_
              refine tv4 27 79 (mk_ 28 26) HT_ HW_ rfl rfl hHeld ?_
              refine pv 28 80 (mk_ 29 25) HT_ rfl rfl ?_
              refine pv 29 81 (mk_ 30 24) HT_ rfl rfl ?_
              refine pv 30 82 (mk_ 31 23) HT_ rfl rfl ?_
              refine pv 31 83 (mk_ 32 22) HT_ rfl rfl ?_
              refine tv4 32 84 (mk_ 33 21) HT_ HW_ rfl rfl hHeld ?_
              refine pv 33 85 (mk_ 34 20) HT_ rfl rfl ?_
              refine pv 34 86 (mk_ 35 19) HT_ rfl rfl ?_
              refine pv 35 87 (mk_ 36 18) HT_ rfl rfl ?_
              refine tv4 36 88 (mk_ 37 17) HT_ HW_ rfl rfl hHeld ?_
              refine one_ (i := 37) (N := some 89) (mk_ 38 16) rfl rfl (one_of HT_.out (by kernel_rfl)) (by decide) (fun K hK => ?_)
              refine goes_ Tryd.func26 (by kernel_rfl) rfl #[.string ((rd_T43 t221 x9_1).f1)] (by rfl) rfl rfl lz ?_
              with_reducible refine (impl_IsWord.calls k1 ((rd_T43 t221 x9_1).f1) true _ A40.out).mono ?_
              rintro e w' ⟨rfl, ⟨nd, rfl⟩⟩
              refine ⟨_, rfl, ?_⟩
              refine hK.out _ _ ⟨(blk_cell BK230.out 0).trans rfl, (blk_cell BK230.out 1).trans rfl, (blk_cell BK230.out 2).trans rfl, (blk_cell BK230.out 3).trans rfl⟩ (fun hHeld => ?_)
              clear hK K
              refine norm_ (a' := ?_) ?_ ?_
              rotate_left
              ·show Act.put _ (some 89) _ = _
               simp only [Act.put, sz1, sz2, sz3, i64_w, i32_w]
               rfl
              refine pv 38 90 (mk_ 39 15) HT_ rfl rfl ?_
              refine pv 39 91 (mk_ 40 14) HT_ rfl rfl ?_
              refine pv 40 92 (mk_ 41 13) HT_ rfl rfl ?_
              refine pv 41 93 (mk_ 42 12) HT_ rfl rfl ?_
              refine pv 42 94 (mk_ 43 11) HT_ rfl rfl ?_
              refine tv4 43 95 (mk_ 44 10) HT_ HW_ rfl rfl hHeld ?_
              refine pv 44 96 (mk_ 45 9) HT_ rfl rfl ?_
              refine pv 45 97 (mk_ 46 8) HT_ rfl rfl ?_
              refine pv 46 98 (mk_ 47 7) HT_ rfl rfl ?_
              refine pv 49 101 (bm_ 54 703687441776639) HT_ rfl rfl ?_
              refine tv4 47 99 (bm_ 54 844424930131967) HT_ HW_ rfl rfl hHeld ?_
              refine tv4 50 102 (bm_ 54 1970324836974591) HT_ HW_ rfl rfl hHeld ?_
              refine one_ (i := 48) (N := some 100) (mk_ 51 3) rfl rfl (one_of HT_.out (by kernel_rfl)) (by decide) (fun K hK => ?_)
              refine goes_ Tryd.func16 (by kernel_rfl) rfl #[.int .i64 ((rd_T43 t221 x9_1).f2)] (by rfl) rfl rfl lz ?_
              with_reducible refine (impl_Dec.calls ((rd_T43 t221 x9_1).f2) t232 _ A43.out ?hT_).mono ?_
              (case hT_ => exact PW.below hT_ (bz1 HB.out GE230.out))
              rintro e w50 ⟨rfl, hb⟩
              refine ⟨_, rfl, ?_⟩
              have n0_ := qz HO_4 hb
              have n1_ := Aside0.mk (blk_below (kz BK230.out) hb)
              have n2_ := Aside0.mk (below_step (bz1 HB.out GE230.out) hb)
              clear HO_4
              clear BK230
              clear HB
              have HO_4 := n0_
              have BK230 := n1_
              have HB := n2_
              clear n0_ n1_ n2_
              (try clear hb)
              (try clear hb2)
              (try clear hk)
              (try clear hi)
              refine hK.out _ _ ⟨(blk_cell BK230.out 0).trans rfl, (blk_cell BK230.out 1).trans rfl, (blk_cell BK230.out 2).trans rfl, (blk_cell BK230.out 3).trans rfl⟩ (fun hHeld => ?_)
              clear hK K
              refine norm_ (a' := ?_) ?_ ?_
              rotate_left
              ·show Act.put _ (some 100) _ = _
               simp only [Act.put, sz1, sz2, sz3, i64_w, i32_w]
               rfl
              refine pv 51 103 (mk_ 52 2) HT_ rfl rfl ?_
              refine pv 52 104 (mk_ 53 1) HT_ rfl rfl ?_
              refine pv 53 105 (mk_ 54 0) HT_ rfl rfl ?_
              refine done_ (done_of HT_.out (by kernel_rfl)) ?_
              obtain ⟨hcz51_0, hcz51_1, hcz51_2, hcz51_3⟩ := cz4 BK230.out
              obtain ⟨hfz51_0, hfz51_1, hfz51_2, hfz51_3⟩ := fz4 BK230.out
              try go_wp2
              go_roundg k1
              case measure => have := HK1.out; omega
              case rel => exact ⟨(wrap64 (((rd_T43 t221 x9_1).f3) + (((rd_T43 t221 x9_1).f1).size : Int))), (wrap64 (x9_1 + 1)), ez, ez, H', ⟨by have := HK1.out; omega⟩, ⟨by refine rq ?_; exact Kd.R_mono HO_4.out (fun _ hk => trivial)⟩, ⟨(bz1 HB.out GE230.out)⟩⟩
             ·rw [if_neg c44] at H
              have c44b0 : (t232.toList == ((rd_T43 t221 x9_1).f1).toList) = false := beq_eq_false_iff_ne.mpr c44
              have c44b1 : (t232.toList != ((rd_T43 t221 x9_1).f1).toList) = true := bne_iff_ne.mpr c44
              obtain rfl := Option.some.inj H
              obtain ⟨Ao52, co52, eo52⟩ := Kd.R_slice HO_4.out
              subst eo52
              have p229 : 0 <= (x9_1 : Int) := oz
              have q229 : x9_1 < (t221.length : Int) := oz
              obtain ⟨ad229, e229, hx229_0, hx229_1, hx229_2, hx229_3⟩ := at_T43 (Kd.R_reads' HO_4.out).2.2 x9_1 p229 q229
              cases e229
              replace p229 := eq_true p229
              replace q229 := eq_true q229
              try go_wp2_with (first | ((with_reducible refine gate_dst (N := 10) rfl ?_); (try (refine gate_guard (by rfl) ?_; dsimp only)); refine box_event ?hg (N := 10) ?hd (cs := #[.int .i64 0, .string (⟨#[]⟩ : ByteArray), .int .i64 0, .int .i64 0]) (t := 43) ?hr ?_; (case hd => rfl); (case hg => rfl); (case hr => exact vz); intro gb230 hg w53 hbox hb; replace HO_4 := Aside0.mk (Kd.R_below (Kd.R_elderB (rz HO_4.out) gb230 (Nat.le_of_eq hg.symm)) hb); have BK230 := Aside0.mk (hbox); have GW230 := Aside0.mk ((by rw [hg]; exact (below_size (bz0 HB.out)) : w.heap.size <= gb230)); have GE230 := GW230; replace HB := Aside0.mk (below_step (bz0 HB.out) hb); clear hb hbox hg; obtain ⟨hcz54_0, hcz54_1, hcz54_2, hcz54_3⟩ := cz4 BK230.out; obtain ⟨hfz54_0, hfz54_1, hfz54_2, hfz54_3⟩ := fz4 BK230.out))
              have n0_ : Aside0 (Kd.R k43 43 ((((w53.setCell ⟨gb230, 0, none⟩ (.int .i64 ((rd_T43 t221 x9_1).f0))).setCell ⟨gb230, 1, none⟩ (.string ((rd_T43 t221 x9_1).f1))).setCell ⟨gb230, 2, none⟩ (.int .i64 ((rd_T43 t221 x9_1).f2))).setCell ⟨gb230, 3, none⟩ (.int .i64 ((rd_T43 t221 x9_1).f3))) w.heap.size (fun k_ => k_ ≠ gb230) (.slice (some ad229) t221.length co52) t221) := ⟨by refine rq ?_; first | (with_reducible exact Kd.R_mono (Kd.R_far (p := ⟨gb230, 3, none⟩) (Kd.R_far (p := ⟨gb230, 2, none⟩) (Kd.R_far (p := ⟨gb230, 1, none⟩) (Kd.R_far (p := ⟨gb230, 0, none⟩) (Kd.R_mono HO_4.out (fun k_ hk => (⟨hk, hk.2⟩ : _ /\ k_ ≠ gb230))) (fun _ hk => hk.2) (.int .i64 ((rd_T43 t221 x9_1).f0))) (fun _ hk => hk.2) (.string ((rd_T43 t221 x9_1).f1))) (fun _ hk => hk.2) (.int .i64 ((rd_T43 t221 x9_1).f2))) (fun _ hk => hk.2) (.int .i64 ((rd_T43 t221 x9_1).f3))) (fun _ hk => hk.1.2)) | exact Kd.R_mono (Kd.R_far (p := ⟨gb230, 3, none⟩) (Kd.R_drewN (Kd.R_far (p := ⟨gb230, 2, none⟩) (Kd.R_far (p := ⟨gb230, 1, none⟩) (Kd.R_far (p := ⟨gb230, 0, none⟩) (Kd.R_mono HO_4.out (fun k_ hk => (⟨hk, hk.2⟩ : _ /\ k_ ≠ gb230))) (fun _ hk => hk.2) (.int .i64 ((rd_T43 t221 x9_1).f0))) (fun _ hk => hk.2) (.string ((rd_T43 t221 x9_1).f1))) (fun _ hk => hk.2) (.int .i64 ((rd_T43 t221 x9_1).f2))) _) (fun _ hk => hk.2) (.int .i64 ((rd_T43 t221 x9_1).f3))) (fun _ hk => hk.1.2)⟩
              have n1_ : Aside0 (((((w53.setCell ⟨gb230, 0, none⟩ (.int .i64 ((rd_T43 t221 x9_1).f0))).setCell ⟨gb230, 1, none⟩ (.string ((rd_T43 t221 x9_1).f1))).setCell ⟨gb230, 2, none⟩ (.int .i64 ((rd_T43 t221 x9_1).f2))).setCell ⟨gb230, 3, none⟩ (.int .i64 ((rd_T43 t221 x9_1).f3))).heap[gb230]? = some (.cells #[.int .i64 ((rd_T43 t221 x9_1).f0), .string ((rd_T43 t221 x9_1).f1), .int .i64 ((rd_T43 t221 x9_1).f2), .int .i64 ((rd_T43 t221 x9_1).f3)] 43 (0, 0))) := ⟨by refine kq ?_; refine blk_put (cs := #[.int .i64 ((rd_T43 t221 x9_1).f0), .string ((rd_T43 t221 x9_1).f1), .int .i64 ((rd_T43 t221 x9_1).f2), .int .i64 0]) ?_ 3 _ rfl; refine kq ?_; refine blk_put (cs := #[.int .i64 ((rd_T43 t221 x9_1).f0), .string ((rd_T43 t221 x9_1).f1), .int .i64 0, .int .i64 0]) ?_ 2 _ rfl; refine kq ?_; refine blk_put (cs := #[.int .i64 ((rd_T43 t221 x9_1).f0), .string (⟨#[]⟩ : ByteArray), .int .i64 0, .int .i64 0]) ?_ 1 _ rfl; refine kq ?_; refine blk_put (cs := #[.int .i64 0, .string (⟨#[]⟩ : ByteArray), .int .i64 0, .int .i64 0]) ?_ 0 _ rfl; refine kq ?_; exact BK230.out⟩
              have n2_ : Aside0 (Below w.heap.size w ((((w53.setCell ⟨gb230, 0, none⟩ (.int .i64 ((rd_T43 t221 x9_1).f0))).setCell ⟨gb230, 1, none⟩ (.string ((rd_T43 t221 x9_1).f1))).setCell ⟨gb230, 2, none⟩ (.int .i64 ((rd_T43 t221 x9_1).f2))).setCell ⟨gb230, 3, none⟩ (.int .i64 ((rd_T43 t221 x9_1).f3)))) := ⟨(bz1 HB.out GE230.out)⟩
              (try clear HO_4)
              (try clear BK230)
              (try clear HB)
              generalize ((((w53.setCell ⟨gb230, 0, none⟩ (.int .i64 ((rd_T43 t221 x9_1).f0))).setCell ⟨gb230, 1, none⟩ (.string ((rd_T43 t221 x9_1).f1))).setCell ⟨gb230, 2, none⟩ (.int .i64 ((rd_T43 t221 x9_1).f2))).setCell ⟨gb230, 3, none⟩ (.int .i64 ((rd_T43 t221 x9_1).f3))) = w55 at n0_ n1_ n2_ ⊢
              have HO_4 := n0_
              have BK230 := n1_
              have HB := n2_
              clear n0_ n1_ n2_
              have n0_ := Aside0.mk (Kd.R_drew HO_4.out)
              have n1_ := Aside0.mk (blk_drew BK230.out)
              have n2_ := Aside0.mk (below_drew1 HB.out)
              clear HO_4
              clear BK230
              clear HB
              have HO_4 := n0_
              have BK230 := n1_
              have HB := n2_
              clear n0_ n1_ n2_
              refine start_ (n := 54) (S := fun w' => w'.cell? ⟨gb230, 0, none⟩ = some (.int .i64 ((rd_T43 t221 x9_1).f0)) /\ w'.cell? ⟨gb230, 1, none⟩ = some (.string ((rd_T43 t221 x9_1).f1)) /\ w'.cell? ⟨gb230, 2, none⟩ = some (.int .i64 ((rd_T43 t221 x9_1).f2)) /\ w'.cell? ⟨gb230, 3, none⟩ = some (.int .i64 ((rd_T43 t221 x9_1).f3))) (ds := []) (mk_ 0 54) (by kernel_rfl) rfl rfl ⟨(blk_cell BK230.out 0).trans rfl, (blk_cell BK230.out 1).trans rfl, (blk_cell BK230.out 2).trans rfl, (blk_cell BK230.out 3).trans rfl⟩ (fun hHeld => ?_); refine with_tabW laws_FnLexed.tab15 laws_FnLexed.bits15 (fun HT_ HW_ => ?_)
              generalize w55.drew = w56 at HO_4 BK230 HB hHeld ⊢
              refine pv 0 52 (mk_ 1 53) HT_ rfl rfl ?_
              refine pv 2 54 (bm_ 54 5) HT_ rfl rfl ?_
              refine tv4 1 53 (mk_ 3 51) HT_ HW_ rfl rfl hHeld ?_
              refine pv 3 55 (mk_ 4 50) HT_ rfl rfl ?_
              refine pv 4 56 (mk_ 5 49) HT_ rfl rfl ?_
              refine pv 5 57 (mk_ 6 48) HT_ rfl rfl ?_
              refine pv 7 59 (bm_ 54 191) HT_ rfl rfl ?_
              refine pv 11 63 (bm_ 54 2239) HT_ rfl rfl ?_
              refine pv 12 64 (bm_ 54 6335) HT_ rfl rfl ?_
              refine tv4 6 58 (bm_ 54 6399) HT_ HW_ rfl rfl hHeld ?_
              refine tv4 8 60 (bm_ 54 6655) HT_ HW_ rfl rfl hHeld ?_
              refine pv 9 61 (bm_ 54 7167) HT_ rfl rfl ?_
              refine pv 10 62 (mk_ 13 41) HT_ rfl rfl ?_
              refine pv 13 65 (mk_ 14 40) HT_ rfl rfl ?_
              refine pv 14 66 (mk_ 15 39) HT_ rfl rfl ?_
              refine pv 15 67 (mk_ 16 38) HT_ rfl rfl ?_
              refine pv 16 68 (mk_ 17 37) HT_ rfl rfl ?_
              refine pv 17 69 (mk_ 18 36) HT_ rfl rfl ?_
              refine pv 19 71 (bm_ 54 786431) HT_ rfl rfl ?_
              refine pv 21 73 (bm_ 54 2883583) HT_ rfl rfl ?_
              refine pv 26 78 (bm_ 54 69992447) HT_ rfl rfl ?_
              refine tv4 18 70 (bm_ 54 70254591) HT_ HW_ rfl rfl hHeld ?_
              refine tv4 20 72 (bm_ 54 71303167) HT_ HW_ rfl rfl hHeld ?_
              refine tv4 22 74 (bm_ 54 75497471) HT_ HW_ rfl rfl hHeld ?_
              refine pv 23 75 (bm_ 54 83886079) HT_ rfl rfl ?_
              refine pv 24 76 (bm_ 54 100663295) HT_ rfl rfl ?_
              refine pv 25 77 (mk_ 27 27) HT_ rfl rfl ?_
              refine tv4 27 79 (mk_ 28 26) HT_ HW_ rfl rfl hHeld ?_
              refine pv 28 80 (mk_ 29 25) HT_ rfl rfl ?_
              refine pv 29 81 (mk_ 30 24) HT_ rfl rfl ?_
              refine pv 30 82 (mk_ 31 23) HT_ rfl rfl ?_
              refine pv 31 83 (mk_ 32 22) HT_ rfl rfl ?_
              refine tv4 32 84 (mk_ 33 21) HT_ HW_ rfl rfl hHeld ?_
              refine pv 33 85 (mk_ 34 20) HT_ rfl rfl ?_
              refine pv 34 86 (mk_ 35 19) HT_ rfl rfl ?_
              refine pv 35 87 (mk_ 36 18) HT_ rfl rfl ?_
              refine tv4 36 88 (mk_ 37 17) HT_ HW_ rfl rfl hHeld ?_
              refine one_ (i := 37) (N := some 89) (mk_ 38 16) rfl rfl (one_of HT_.out (by kernel_rfl)) (by decide) (fun K hK => ?_)
              refine goes_ Tryd.func26 (by kernel_rfl) rfl #[.string ((rd_T43 t221 x9_1).f1)] (by rfl) rfl rfl lz ?_
              with_reducible refine (impl_IsWord.calls k1 ((rd_T43 t221 x9_1).f1) true _ A40.out).mono ?_
              rintro e w' ⟨rfl, ⟨nd, rfl⟩⟩
              refine ⟨_, rfl, ?_⟩
              refine hK.out _ _ ⟨(blk_cell BK230.out 0).trans rfl, (blk_cell BK230.out 1).trans rfl, (blk_cell BK230.out 2).trans rfl, (blk_cell BK230.out 3).trans rfl⟩ (fun hHeld => ?_)
              clear hK K
              refine norm_ (a' := ?_) ?_ ?_
              rotate_left
              ·show Act.put _ (some 89) _ = _
               simp only [Act.put, sz1, sz2, sz3, i64_w, i32_w]
               rfl
              refine pv 38 90 (mk_ 39 15) HT_ rfl rfl ?_
              refine pv 39 91 (mk_ 40 14) HT_ rfl rfl ?_
              refine pv 40 92 (mk_ 41 13) HT_ rfl rfl ?_
              refine pv 41 93 (mk_ 42 12) HT_ rfl rfl ?_
              refine pv 42 94 (mk_ 43 11) HT_ rfl rfl ?_
              refine tv4 43 95 (mk_ 44 10) HT_ HW_ rfl rfl hHeld ?_
              refine pv 44 96 (mk_ 45 9) HT_ rfl rfl ?_
              refine pv 45 97 (mk_ 46 8) HT_ rfl rfl ?_
              refine pv 46 98 (mk_ 47 7) HT_ rfl rfl ?_
              refine pv 49 101 (bm_ 54 703687441776639) HT_ rfl rfl ?_
              refine tv4 47 99 (bm_ 54 844424930131967) HT_ HW_ rfl rfl hHeld ?_
              refine tv4 50 102 (bm_ 54 1970324836974591) HT_ HW_ rfl rfl hHeld ?_
              refine one_ (i := 48) (N := some 100) (mk_ 51 3) rfl rfl (one_of HT_.out (by kernel_rfl)) (by decide) (fun K hK => ?_)
              refine goes_ Tryd.func16 (by kernel_rfl) rfl #[.int .i64 ((rd_T43 t221 x9_1).f2)] (by rfl) rfl rfl lz ?_
              with_reducible refine (impl_Dec.calls ((rd_T43 t221 x9_1).f2) t232 _ A43.out ?hT_).mono ?_
              (case hT_ => exact PW.below hT_ (bz1 HB.out GE230.out))
              rintro e w57 ⟨rfl, hb⟩
              refine ⟨_, rfl, ?_⟩
              have n0_ := qz HO_4 hb
              have n1_ := Aside0.mk (blk_below (kz BK230.out) hb)
              have n2_ := Aside0.mk (below_step (bz1 HB.out GE230.out) hb)
              clear HO_4
              clear BK230
              clear HB
              have HO_4 := n0_
              have BK230 := n1_
              have HB := n2_
              clear n0_ n1_ n2_
              (try clear hb)
              (try clear hb2)
              (try clear hk)
              (try clear hi)
              refine hK.out _ _ ⟨(blk_cell BK230.out 0).trans rfl, (blk_cell BK230.out 1).trans rfl, (blk_cell BK230.out 2).trans rfl, (blk_cell BK230.out 3).trans rfl⟩ (fun hHeld => ?_)
              clear hK K
              refine norm_ (a' := ?_) ?_ ?_
              rotate_left
              ·show Act.put _ (some 100) _ = _
               simp only [Act.put, sz1, sz2, sz3, i64_w, i32_w]
               rfl
              refine pv 51 103 (mk_ 52 2) HT_ rfl rfl ?_
              refine pv 52 104 (mk_ 53 1) HT_ rfl rfl ?_
              refine pv 53 105 (mk_ 54 0) HT_ rfl rfl ?_
              refine done_ (done_of HT_.out (by kernel_rfl)) ?_
              try go_wp2
              go_ret
              exact ⟨gz, (bz1 HB.out GE230.out)⟩
            ·rw [if_neg c42] at H
             have c42b0 : (((rd_T43 t221 x9_1).f0) == 4) = false := beq_eq_false_iff_ne.mpr c42
             have c42b1 : (((rd_T43 t221 x9_1).f0) != 4) = true := bne_iff_ne.mpr c42
             have H' := Aside0.mk H
             clear H
             obtain ⟨Ao58, co58, eo58⟩ := Kd.R_slice HO_4.out
             subst eo58
             have p229 : 0 <= (x9_1 : Int) := oz
             have q229 : x9_1 < (t221.length : Int) := oz
             obtain ⟨ad229, e229, hx229_0, hx229_1, hx229_2, hx229_3⟩ := at_T43 (Kd.R_reads' HO_4.out).2.2 x9_1 p229 q229
             cases e229
             replace p229 := eq_true p229
             replace q229 := eq_true q229
             try go_wp2_with (first | ((with_reducible refine gate_dst (N := 10) rfl ?_); (try (refine gate_guard (by rfl) ?_; dsimp only)); refine box_event ?hg (N := 10) ?hd (cs := #[.int .i64 0, .string (⟨#[]⟩ : ByteArray), .int .i64 0, .int .i64 0]) (t := 43) ?hr ?_; (case hd => rfl); (case hg => rfl); (case hr => exact vz); intro gb230 hg w59 hbox hb; replace HO_4 := Aside0.mk (Kd.R_below (Kd.R_elderB (rz HO_4.out) gb230 (Nat.le_of_eq hg.symm)) hb); have BK230 := Aside0.mk (hbox); have GW230 := Aside0.mk ((by rw [hg]; exact (below_size (bz0 HB.out)) : w.heap.size <= gb230)); have GE230 := GW230; replace HB := Aside0.mk (below_step (bz0 HB.out) hb); clear hb hbox hg; obtain ⟨hcz60_0, hcz60_1, hcz60_2, hcz60_3⟩ := cz4 BK230.out; obtain ⟨hfz60_0, hfz60_1, hfz60_2, hfz60_3⟩ := fz4 BK230.out))
             have n0_ : Aside0 (Kd.R k43 43 ((((w59.setCell ⟨gb230, 0, none⟩ (.int .i64 ((rd_T43 t221 x9_1).f0))).setCell ⟨gb230, 1, none⟩ (.string ((rd_T43 t221 x9_1).f1))).setCell ⟨gb230, 2, none⟩ (.int .i64 ((rd_T43 t221 x9_1).f2))).setCell ⟨gb230, 3, none⟩ (.int .i64 ((rd_T43 t221 x9_1).f3))) w.heap.size (fun k_ => k_ ≠ gb230) (.slice (some ad229) t221.length co58) t221) := ⟨by refine rq ?_; first | (with_reducible exact Kd.R_mono (Kd.R_far (p := ⟨gb230, 3, none⟩) (Kd.R_far (p := ⟨gb230, 2, none⟩) (Kd.R_far (p := ⟨gb230, 1, none⟩) (Kd.R_far (p := ⟨gb230, 0, none⟩) (Kd.R_mono HO_4.out (fun k_ hk => (⟨hk, hk.2⟩ : _ /\ k_ ≠ gb230))) (fun _ hk => hk.2) (.int .i64 ((rd_T43 t221 x9_1).f0))) (fun _ hk => hk.2) (.string ((rd_T43 t221 x9_1).f1))) (fun _ hk => hk.2) (.int .i64 ((rd_T43 t221 x9_1).f2))) (fun _ hk => hk.2) (.int .i64 ((rd_T43 t221 x9_1).f3))) (fun _ hk => hk.1.2)) | exact Kd.R_mono (Kd.R_far (p := ⟨gb230, 3, none⟩) (Kd.R_drewN (Kd.R_far (p := ⟨gb230, 2, none⟩) (Kd.R_far (p := ⟨gb230, 1, none⟩) (Kd.R_far (p := ⟨gb230, 0, none⟩) (Kd.R_mono HO_4.out (fun k_ hk => (⟨hk, hk.2⟩ : _ /\ k_ ≠ gb230))) (fun _ hk => hk.2) (.int .i64 ((rd_T43 t221 x9_1).f0))) (fun _ hk => hk.2) (.string ((rd_T43 t221 x9_1).f1))) (fun _ hk => hk.2) (.int .i64 ((rd_T43 t221 x9_1).f2))) _) (fun _ hk => hk.2) (.int .i64 ((rd_T43 t221 x9_1).f3))) (fun _ hk => hk.1.2)⟩
             have n1_ : Aside0 (((((w59.setCell ⟨gb230, 0, none⟩ (.int .i64 ((rd_T43 t221 x9_1).f0))).setCell ⟨gb230, 1, none⟩ (.string ((rd_T43 t221 x9_1).f1))).setCell ⟨gb230, 2, none⟩ (.int .i64 ((rd_T43 t221 x9_1).f2))).setCell ⟨gb230, 3, none⟩ (.int .i64 ((rd_T43 t221 x9_1).f3))).heap[gb230]? = some (.cells #[.int .i64 ((rd_T43 t221 x9_1).f0), .string ((rd_T43 t221 x9_1).f1), .int .i64 ((rd_T43 t221 x9_1).f2), .int .i64 ((rd_T43 t221 x9_1).f3)] 43 (0, 0))) := ⟨by refine kq ?_; refine blk_put (cs := #[.int .i64 ((rd_T43 t221 x9_1).f0), .string ((rd_T43 t221 x9_1).f1), .int .i64 ((rd_T43 t221 x9_1).f2), .int .i64 0]) ?_ 3 _ rfl; refine kq ?_; refine blk_put (cs := #[.int .i64 ((rd_T43 t221 x9_1).f0), .string ((rd_T43 t221 x9_1).f1), .int .i64 0, .int .i64 0]) ?_ 2 _ rfl; refine kq ?_; refine blk_put (cs := #[.int .i64 ((rd_T43 t221 x9_1).f0), .string (⟨#[]⟩ : ByteArray), .int .i64 0, .int .i64 0]) ?_ 1 _ rfl; refine kq ?_; refine blk_put (cs := #[.int .i64 0, .string (⟨#[]⟩ : ByteArray), .int .i64 0, .int .i64 0]) ?_ 0 _ rfl; refine kq ?_; exact BK230.out⟩
             have n2_ : Aside0 (Below w.heap.size w ((((w59.setCell ⟨gb230, 0, none⟩ (.int .i64 ((rd_T43 t221 x9_1).f0))).setCell ⟨gb230, 1, none⟩ (.string ((rd_T43 t221 x9_1).f1))).setCell ⟨gb230, 2, none⟩ (.int .i64 ((rd_T43 t221 x9_1).f2))).setCell ⟨gb230, 3, none⟩ (.int .i64 ((rd_T43 t221 x9_1).f3)))) := ⟨(bz1 HB.out GE230.out)⟩
             (try clear HO_4)
             (try clear BK230)
             (try clear HB)
             generalize ((((w59.setCell ⟨gb230, 0, none⟩ (.int .i64 ((rd_T43 t221 x9_1).f0))).setCell ⟨gb230, 1, none⟩ (.string ((rd_T43 t221 x9_1).f1))).setCell ⟨gb230, 2, none⟩ (.int .i64 ((rd_T43 t221 x9_1).f2))).setCell ⟨gb230, 3, none⟩ (.int .i64 ((rd_T43 t221 x9_1).f3))) = w61 at n0_ n1_ n2_ ⊢
             have HO_4 := n0_
             have BK230 := n1_
             have HB := n2_
             clear n0_ n1_ n2_
             have n0_ := Aside0.mk (Kd.R_drew HO_4.out)
             have n1_ := Aside0.mk (blk_drew BK230.out)
             have n2_ := Aside0.mk (below_drew1 HB.out)
             clear HO_4
             clear BK230
             clear HB
             have HO_4 := n0_
             have BK230 := n1_
             have HB := n2_
             clear n0_ n1_ n2_
             refine start_ (n := 54) (S := fun w' => w'.cell? ⟨gb230, 0, none⟩ = some (.int .i64 ((rd_T43 t221 x9_1).f0)) /\ w'.cell? ⟨gb230, 1, none⟩ = some (.string ((rd_T43 t221 x9_1).f1)) /\ w'.cell? ⟨gb230, 2, none⟩ = some (.int .i64 ((rd_T43 t221 x9_1).f2)) /\ w'.cell? ⟨gb230, 3, none⟩ = some (.int .i64 ((rd_T43 t221 x9_1).f3))) (ds := []) (mk_ 0 54) (by kernel_rfl) rfl rfl ⟨(blk_cell BK230.out 0).trans rfl, (blk_cell BK230.out 1).trans rfl, (blk_cell BK230.out 2).trans rfl, (blk_cell BK230.out 3).trans rfl⟩ (fun hHeld => ?_); refine with_tabW laws_FnLexed.tab15 laws_FnLexed.bits15 (fun HT_ HW_ => ?_)
             generalize w61.drew = w62 at HO_4 BK230 HB hHeld ⊢
             refine pv 0 52 (mk_ 1 53) HT_ rfl rfl ?_
             refine pv 2 54 (bm_ 54 5) HT_ rfl rfl ?_
             refine tv4 1 53 (mk_ 3 51) HT_ HW_ rfl rfl hHeld ?_
             refine pv 3 55 (mk_ 4 50) HT_ rfl rfl ?_
             refine pv 4 56 (mk_ 5 49) HT_ rfl rfl ?_
             refine pv 5 57 (mk_ 6 48) HT_ rfl rfl ?_
             refine pv 7 59 (bm_ 54 191) HT_ rfl rfl ?_
             refine pv 11 63 (bm_ 54 2239) HT_ rfl rfl ?_
             refine pv 12 64 (bm_ 54 6335) HT_ rfl rfl ?_
             refine tv4 6 58 (bm_ 54 6399) HT_ HW_ rfl rfl hHeld ?_
             refine tv4 8 60 (bm_ 54 6655) HT_ HW_ rfl rfl hHeld ?_
             refine pv 9 61 (bm_ 54 7167) HT_ rfl rfl ?_
             refine pv 10 62 (mk_ 13 41) HT_ rfl rfl ?_
             refine pv 13 65 (mk_ 14 40) HT_ rfl rfl ?_
             refine pv 14 66 (mk_ 15 39) HT_ rfl rfl ?_
             refine pv 15 67 (mk_ 16 38) HT_ rfl rfl ?_
             refine pv 16 68 (mk_ 17 37) HT_ rfl rfl ?_
             refine pv 17 69 (mk_ 18 36) HT_ rfl rfl ?_
             refine pv 19 71 (bm_ 54 786431) HT_ rfl rfl ?_
             refine pv 21 73 (bm_ 54 2883583) HT_ rfl rfl ?_
             refine pv 26 78 (bm_ 54 69992447) HT_ rfl rfl ?_
             refine tv4 18 70 (bm_ 54 70254591) HT_ HW_ rfl rfl hHeld ?_
             refine tv4 20 72 (bm_ 54 71303167) HT_ HW_ rfl rfl hHeld ?_
             refine tv4 22 74 (bm_ 54 75497471) HT_ HW_ rfl rfl hHeld ?_
             refine pv 23 75 (bm_ 54 83886079) HT_ rfl rfl ?_
             refine pv 24 76 (bm_ 54 100663295) HT_ rfl rfl ?_
             refine pv 25 77 (mk_ 27 27) HT_ rfl rfl ?_
             refine tv4 27 79 (mk_ 28 26) HT_ HW_ rfl rfl hHeld ?_
             refine pv 28 80 (mk_ 29 25) HT_ rfl rfl ?_
             refine pv 29 81 (mk_ 30 24) HT_ rfl rfl ?_
             refine pv 30 82 (mk_ 31 23) HT_ rfl rfl ?_
             refine pv 31 83 (mk_ 32 22) HT_ rfl rfl ?_
             refine tv4 32 84 (mk_ 33 21) HT_ HW_ rfl rfl hHeld ?_
             refine pv 33 85 (mk_ 34 20) HT_ rfl rfl ?_
             refine pv 34 86 (mk_ 35 19) HT_ rfl rfl ?_
             refine pv 35 87 (mk_ 36 18) HT_ rfl rfl ?_
             refine tv4 36 88 (mk_ 37 17) HT_ HW_ rfl rfl hHeld ?_
             refine one_ (i := 37) (N := some 89) (mk_ 38 16) rfl rfl (one_of HT_.out (by kernel_rfl)) (by decide) (fun K hK => ?_)
             refine goes_ Tryd.func26 (by kernel_rfl) rfl #[.string ((rd_T43 t221 x9_1).f1)] (by rfl) rfl rfl lz ?_
             with_reducible refine (impl_IsWord.calls k1 ((rd_T43 t221 x9_1).f1) true _ A40.out).mono ?_
             rintro e w' ⟨rfl, ⟨nd, rfl⟩⟩
             refine ⟨_, rfl, ?_⟩
             refine hK.out _ _ ⟨(blk_cell BK230.out 0).trans rfl, (blk_cell BK230.out 1).trans rfl, (blk_cell BK230.out 2).trans rfl, (blk_cell BK230.out 3).trans rfl⟩ (fun hHeld => ?_)
             clear hK K
             refine norm_ (a' := ?_) ?_ ?_
             rotate_left
             ·show Act.put _ (some 89) _ = _
              simp only [Act.put, sz1, sz2, sz3, i64_w, i32_w]
              rfl
             refine pv 38 90 (mk_ 39 15) HT_ rfl rfl ?_
             refine pv 39 91 (mk_ 40 14) HT_ rfl rfl ?_
             refine pv 40 92 (mk_ 41 13) HT_ rfl rfl ?_
             refine pv 41 93 (mk_ 42 12) HT_ rfl rfl ?_
             refine pv 42 94 (mk_ 43 11) HT_ rfl rfl ?_
             refine tv4 43 95 (mk_ 44 10) HT_ HW_ rfl rfl hHeld ?_
             refine pv 44 96 (mk_ 45 9) HT_ rfl rfl ?_
             refine pv 45 97 (mk_ 46 8) HT_ rfl rfl ?_
             refine pu 46 98 (mk_ 47 7) HT_ rfl rfl ?_
             refine pu 47 99 (mk_ 48 6) HT_ rfl rfl ?_
             refine pu 48 100 (mk_ 49 5) HT_ rfl rfl ?_
             refine pu 49 101 (mk_ 50 4) HT_ rfl rfl ?_
             refine pu 50 102 (mk_ 51 3) HT_ rfl rfl ?_
             refine pu 51 103 (mk_ 52 2) HT_ rfl rfl ?_
             refine pv 52 104 (mk_ 53 1) HT_ rfl rfl ?_
             refine pv 53 105 (mk_ 54 0) HT_ rfl rfl ?_
             refine done_ (done_of HT_.out (by kernel_rfl)) ?_
             obtain ⟨hcz63_0, hcz63_1, hcz63_2, hcz63_3⟩ := cz4 BK230.out
             obtain ⟨hfz63_0, hfz63_1, hfz63_2, hfz63_3⟩ := fz4 BK230.out
             try go_wp2
             go_roundg k1
             case measure => have := HK1.out; omega
             case rel => exact ⟨(wrap64 (((rd_T43 t221 x9_1).f3) + (((rd_T43 t221 x9_1).f1).size : Int))), (wrap64 (x9_1 + 1)), ez, ez, H', ⟨by have := HK1.out; omega⟩, ⟨by refine rq ?_; exact Kd.R_mono HO_4.out (fun _ hk => trivial)⟩, ⟨(bz1 HB.out GE230.out)⟩⟩
           ·replace c41 := Bool.eq_false_iff.mpr c41
            subst c41
            have H1 := hq H
            clear H
            have H := H1
            clear H1
            obtain rfl := Option.some.inj H
            obtain ⟨Ao64, co64, eo64⟩ := Kd.R_slice HO_4.out
            subst eo64
            have p229 : 0 <= (x9_1 : Int) := oz
            have q229 : x9_1 < (t221.length : Int) := oz
            obtain ⟨ad229, e229, hx229_0, hx229_1, hx229_2, hx229_3⟩ := at_T43 (Kd.R_reads' HO_4.out).2.2 x9_1 p229 q229
            cases e229
            replace p229 := eq_true p229
            replace q229 := eq_true q229
            try go_wp2_with (first | ((with_reducible refine gate_dst (N := 10) rfl ?_); (try (refine gate_guard (by rfl) ?_; dsimp only)); refine box_event ?hg (N := 10) ?hd (cs := #[.int .i64 0, .string (⟨#[]⟩ : ByteArray), .int .i64 0, .int .i64 0]) (t := 43) ?hr ?_; (case hd => rfl); (case hg => rfl); (case hr => exact vz); intro gb230 hg w65 hbox hb; replace HO_4 := Aside0.mk (Kd.R_below (Kd.R_elderB (rz HO_4.out) gb230 (Nat.le_of_eq hg.symm)) hb); have BK230 := Aside0.mk (hbox); have GW230 := Aside0.mk ((by rw [hg]; exact (below_size (bz0 HB.out)) : w.heap.size <= gb230)); have GE230 := GW230; replace HB := Aside0.mk (below_step (bz0 HB.out) hb); clear hb hbox hg; obtain ⟨hcz66_0, hcz66_1, hcz66_2, hcz66_3⟩ := cz4 BK230.out; obtain ⟨hfz66_0, hfz66_1, hfz66_2, hfz66_3⟩ := fz4 BK230.out))
            have n0_ : Aside0 (Kd.R k43 43 ((((w65.setCell ⟨gb230, 0, none⟩ (.int .i64 ((rd_T43 t221 x9_1).f0))).setCell ⟨gb230, 1, none⟩ (.string ((rd_T43 t221 x9_1).f1))).setCell ⟨gb230, 2, none⟩ (.int .i64 ((rd_T43 t221 x9_1).f2))).setCell ⟨gb230, 3, none⟩ (.int .i64 ((rd_T43 t221 x9_1).f3))) w.heap.size (fun k_ => k_ ≠ gb230) (.slice (some ad229) t221.length co64) t221) := ⟨by refine rq ?_; first | (with_reducible exact Kd.R_mono (Kd.R_far (p := ⟨gb230, 3, none⟩) (Kd.R_far (p := ⟨gb230, 2, none⟩) (Kd.R_far (p := ⟨gb230, 1, none⟩) (Kd.R_far (p := ⟨gb230, 0, none⟩) (Kd.R_mono HO_4.out (fun k_ hk => (⟨hk, hk.2⟩ : _ /\ k_ ≠ gb230))) (fun _ hk => hk.2) (.int .i64 ((rd_T43 t221 x9_1).f0))) (fun _ hk => hk.2) (.string ((rd_T43 t221 x9_1).f1))) (fun _ hk => hk.2) (.int .i64 ((rd_T43 t221 x9_1).f2))) (fun _ hk => hk.2) (.int .i64 ((rd_T43 t221 x9_1).f3))) (fun _ hk => hk.1.2)) | exact Kd.R_mono (Kd.R_far (p := ⟨gb230, 3, none⟩) (Kd.R_drewN (Kd.R_far (p := ⟨gb230, 2, none⟩) (Kd.R_far (p := ⟨gb230, 1, none⟩) (Kd.R_far (p := ⟨gb230, 0, none⟩) (Kd.R_mono HO_4.out (fun k_ hk => (⟨hk, hk.2⟩ : _ /\ k_ ≠ gb230))) (fun _ hk => hk.2) (.int .i64 ((rd_T43 t221 x9_1).f0))) (fun _ hk => hk.2) (.string ((rd_T43 t221 x9_1).f1))) (fun _ hk => hk.2) (.int .i64 ((rd_T43 t221 x9_1).f2))) _) (fun _ hk => hk.2) (.int .i64 ((rd_T43 t221 x9_1).f3))) (fun _ hk => hk.1.2)⟩
            have n1_ : Aside0 (((((w65.setCell ⟨gb230, 0, none⟩ (.int .i64 ((rd_T43 t221 x9_1).f0))).setCell ⟨gb230, 1, none⟩ (.string ((rd_T43 t221 x9_1).f1))).setCell ⟨gb230, 2, none⟩ (.int .i64 ((rd_T43 t221 x9_1).f2))).setCell ⟨gb230, 3, none⟩ (.int .i64 ((rd_T43 t221 x9_1).f3))).heap[gb230]? = some (.cells #[.int .i64 ((rd_T43 t221 x9_1).f0), .string ((rd_T43 t221 x9_1).f1), .int .i64 ((rd_T43 t221 x9_1).f2), .int .i64 ((rd_T43 t221 x9_1).f3)] 43 (0, 0))) := ⟨by refine kq ?_; refine blk_put (cs := #[.int .i64 ((rd_T43 t221 x9_1).f0), .string ((rd_T43 t221 x9_1).f1), .int .i64 ((rd_T43 t221 x9_1).f2), .int .i64 0]) ?_ 3 _ rfl; refine kq ?_; refine blk_put (cs := #[.int .i64 ((rd_T43 t221 x9_1).f0), .string ((rd_T43 t221 x9_1).f1), .int .i64 0, .int .i64 0]) ?_ 2 _ rfl; refine kq ?_; refine blk_put (cs := #[.int .i64 ((rd_T43 t221 x9_1).f0), .string (⟨#[]⟩ : ByteArray), .int .i64 0, .int .i64 0]) ?_ 1 _ rfl; refine kq ?_; refine blk_put (cs := #[.int .i64 0, .string (⟨#[]⟩ : ByteArray), .int .i64 0, .int .i64 0]) ?_ 0 _ rfl; refine kq ?_; exact BK230.out⟩
            have n2_ : Aside0 (Below w.heap.size w ((((w65.setCell ⟨gb230, 0, none⟩ (.int .i64 ((rd_T43 t221 x9_1).f0))).setCell ⟨gb230, 1, none⟩ (.string ((rd_T43 t221 x9_1).f1))).setCell ⟨gb230, 2, none⟩ (.int .i64 ((rd_T43 t221 x9_1).f2))).setCell ⟨gb230, 3, none⟩ (.int .i64 ((rd_T43 t221 x9_1).f3)))) := ⟨(bz1 HB.out GE230.out)⟩
            (try clear HO_4)
            (try clear BK230)
            (try clear HB)
            generalize ((((w65.setCell ⟨gb230, 0, none⟩ (.int .i64 ((rd_T43 t221 x9_1).f0))).setCell ⟨gb230, 1, none⟩ (.string ((rd_T43 t221 x9_1).f1))).setCell ⟨gb230, 2, none⟩ (.int .i64 ((rd_T43 t221 x9_1).f2))).setCell ⟨gb230, 3, none⟩ (.int .i64 ((rd_T43 t221 x9_1).f3))) = w67 at n0_ n1_ n2_ ⊢
            have HO_4 := n0_
            have BK230 := n1_
            have HB := n2_
            clear n0_ n1_ n2_
            have n0_ := Aside0.mk (Kd.R_drew HO_4.out)
            have n1_ := Aside0.mk (blk_drew BK230.out)
            have n2_ := Aside0.mk (below_drew1 HB.out)
            clear HO_4
            clear BK230
            clear HB
            have HO_4 := n0_
            have BK230 := n1_
            have HB := n2_
            clear n0_ n1_ n2_
            refine start_ (n := 54) (S := fun w' => w'.cell? ⟨gb230, 0, none⟩ = some (.int .i64 ((rd_T43 t221 x9_1).f0)) /\ w'.cell? ⟨gb230, 1, none⟩ = some (.string ((rd_T43 t221 x9_1).f1)) /\ w'.cell? ⟨gb230, 2, none⟩ = some (.int .i64 ((rd_T43 t221 x9_1).f2)) /\ w'.cell? ⟨gb230, 3, none⟩ = some (.int .i64 ((rd_T43 t221 x9_1).f3))) (ds := []) (mk_ 0 54) (by kernel_rfl) rfl rfl ⟨(blk_cell BK230.out 0).trans rfl, (blk_cell BK230.out 1).trans rfl, (blk_cell BK230.out 2).trans rfl, (blk_cell BK230.out 3).trans rfl⟩ (fun hHeld => ?_); refine with_tabW laws_FnLexed.tab15 laws_FnLexed.bits15 (fun HT_ HW_ => ?_)
            generalize w67.drew = w68 at HO_4 BK230 HB hHeld ⊢
            refine pv 0 52 (mk_ 1 53) HT_ rfl rfl ?_
            refine pv 2 54 (bm_ 54 5) HT_ rfl rfl ?_
            refine tv4 1 53 (mk_ 3 51) HT_ HW_ rfl rfl hHeld ?_
            refine pv 3 55 (mk_ 4 50) HT_ rfl rfl ?_
            refine pv 4 56 (mk_ 5 49) HT_ rfl rfl ?_
            refine pv 5 57 (mk_ 6 48) HT_ rfl rfl ?_
            refine pv 7 59 (bm_ 54 191) HT_ rfl rfl ?_
            refine pv 11 63 (bm_ 54 2239) HT_ rfl rfl ?_
            refine pv 12 64 (bm_ 54 6335) HT_ rfl rfl ?_
            refine tv4 6 58 (bm_ 54 6399) HT_ HW_ rfl rfl hHeld ?_
            refine tv4 8 60 (bm_ 54 6655) HT_ HW_ rfl rfl hHeld ?_
            refine pv 9 61 (bm_ 54 7167) HT_ rfl rfl ?_
            refine pv 10 62 (mk_ 13 41) HT_ rfl rfl ?_
            refine pv 13 65 (mk_ 14 40) HT_ rfl rfl ?_
            refine pv 14 66 (mk_ 15 39) HT_ rfl rfl ?_
            refine pv 15 67 (mk_ 16 38) HT_ rfl rfl ?_
            refine pv 16 68 (mk_ 17 37) HT_ rfl rfl ?_
            refine pv 17 69 (mk_ 18 36) HT_ rfl rfl ?_
            refine pv 19 71 (bm_ 54 786431) HT_ rfl rfl ?_
            refine pv 21 73 (bm_ 54 2883583) HT_ rfl rfl ?_
            refine pv 26 78 (bm_ 54 69992447) HT_ rfl rfl ?_
            refine tv4 18 70 (bm_ 54 70254591) HT_ HW_ rfl rfl hHeld ?_
            refine tv4 20 72 (bm_ 54 71303167) HT_ HW_ rfl rfl hHeld ?_
            refine tv4 22 74 (bm_ 54 75497471) HT_ HW_ rfl rfl hHeld ?_
            refine pv 23 75 (bm_ 54 83886079) HT_ rfl rfl ?_
            refine pv 24 76 (bm_ 54 100663295) HT_ rfl rfl ?_
            refine pv 25 77 (mk_ 27 27) HT_ rfl rfl ?_
            refine tv4 27 79 (mk_ 28 26) HT_ HW_ rfl rfl hHeld ?_
            refine pv 28 80 (mk_ 29 25) HT_ rfl rfl ?_
            refine pv 29 81 (mk_ 30 24) HT_ rfl rfl ?_
            refine pv 30 82 (mk_ 31 23) HT_ rfl rfl ?_
            refine pv 31 83 (mk_ 32 22) HT_ rfl rfl ?_
            refine tv4 32 84 (mk_ 33 21) HT_ HW_ rfl rfl hHeld ?_
            refine pv 33 85 (mk_ 34 20) HT_ rfl rfl ?_
            refine pv 34 86 (mk_ 35 19) HT_ rfl rfl ?_
            refine pv 35 87 (mk_ 36 18) HT_ rfl rfl ?_
            refine tv4 36 88 (mk_ 37 17) HT_ HW_ rfl rfl hHeld ?_
            refine one_ (i := 37) (N := some 89) (mk_ 38 16) rfl rfl (one_of HT_.out (by kernel_rfl)) (by decide) (fun K hK => ?_)
            refine goes_ Tryd.func26 (by kernel_rfl) rfl #[.string ((rd_T43 t221 x9_1).f1)] (by rfl) rfl rfl lz ?_
            with_reducible refine (impl_IsWord.calls k1 ((rd_T43 t221 x9_1).f1) false _ A40.out).mono ?_
            rintro e w' ⟨rfl, ⟨nd, rfl⟩⟩
            refine ⟨_, rfl, ?_⟩
            refine hK.out _ _ ⟨(blk_cell BK230.out 0).trans rfl, (blk_cell BK230.out 1).trans rfl, (blk_cell BK230.out 2).trans rfl, (blk_cell BK230.out 3).trans rfl⟩ (fun hHeld => ?_)
            clear hK K
            refine norm_ (a' := ?_) ?_ ?_
            rotate_left
            ·show Act.put _ (some 89) _ = _
             simp only [Act.put, sz1, sz2, sz3, i64_w, i32_w]
             rfl
            refine pv 38 90 (mk_ 39 15) HT_ rfl rfl ?_
            refine pv 39 91 (mk_ 40 14) HT_ rfl rfl ?_
            refine pv 40 92 (mk_ 41 13) HT_ rfl rfl ?_
            refine pv 41 93 (mk_ 42 12) HT_ rfl rfl ?_
            refine pu 42 94 (mk_ 43 11) HT_ rfl rfl ?_
            refine pu 43 95 (mk_ 44 10) HT_ rfl rfl ?_
            refine pu 44 96 (mk_ 45 9) HT_ rfl rfl ?_
            refine pu 45 97 (mk_ 46 8) HT_ rfl rfl ?_
            refine pu 46 98 (mk_ 47 7) HT_ rfl rfl ?_
            refine pu 47 99 (mk_ 48 6) HT_ rfl rfl ?_
            refine pu 48 100 (mk_ 49 5) HT_ rfl rfl ?_
            refine pu 49 101 (mk_ 50 4) HT_ rfl rfl ?_
            refine pu 50 102 (mk_ 51 3) HT_ rfl rfl ?_
            refine pu 51 103 (mk_ 52 2) HT_ rfl rfl ?_
            refine pu 52 104 (mk_ 53 1) HT_ rfl rfl ?_
            refine pv 53 105 (mk_ 54 0) HT_ rfl rfl ?_
            refine done_ (done_of HT_.out (by kernel_rfl)) ?_
            try go_wp2
            go_ret
            exact ⟨gz, (bz1 HB.out GE230.out)⟩
          ·rw [if_neg c39] at H
           have c39b0 : (((rd_T43 t221 x9_1).f0) == 3) = false := beq_eq_false_iff_ne.mpr c39
           have c39b1 : (((rd_T43 t221 x9_1).f0) != 3) = true := bne_iff_ne.mpr c39
           by_cases c69 : ((rd_T43 t221 x9_1).f0) = 4
           ·rw [if_pos c69] at H
            have c69b0 : (((rd_T43 t221 x9_1).f0) == 4) = true := beq_iff_eq.mpr c69
            have c69b1 : (((rd_T43 t221 x9_1).f0) != 4) = false := bne_eq_false_iff_eq.mpr c69
            clear c69
            replace H := bi H
            obtain ⟨t233, A700, H⟩ := H
            try dsimp only at H
            have A70 := Aside0.mk A700
            clear A700
            by_cases c71 : t233.toList = ((rd_T43 t221 x9_1).f1).toList
            ·rw [if_pos c71] at H
             have c71b0 : (t233.toList == ((rd_T43 t221 x9_1).f1).toList) = true := beq_iff_eq.mpr c71
             have c71b1 : (t233.toList != ((rd_T43 t221 x9_1).f1).toList) = false := bne_eq_false_iff_eq.mpr c71
             clear c71
             have H' := Aside0.mk H
             clear H
             obtain ⟨Ao72, co72, eo72⟩ := Kd.R_slice HO_4.out
             subst eo72
             have p229 : 0 <= (x9_1 : Int) := oz
             have q229 : x9_1 < (t221.length : Int) := oz
             obtain ⟨ad229, e229, hx229_0, hx229_1, hx229_2, hx229_3⟩ := at_T43 (Kd.R_reads' HO_4.out).2.2 x9_1 p229 q229
             cases e229
             replace p229 := eq_true p229
             replace q229 := eq_true q229
             try go_wp2_with (first | ((with_reducible refine gate_dst (N := 10) rfl ?_); (try (refine gate_guard (by rfl) ?_; dsimp only)); refine box_event ?hg (N := 10) ?hd (cs := #[.int .i64 0, .string (⟨#[]⟩ : ByteArray), .int .i64 0, .int .i64 0]) (t := 43) ?hr ?_; (case hd => rfl); (case hg => rfl); (case hr => exact vz); intro gb230 hg w73 hbox hb; replace HO_4 := Aside0.mk (Kd.R_below (Kd.R_elderB (rz HO_4.out) gb230 (Nat.le_of_eq hg.symm)) hb); have BK230 := Aside0.mk (hbox); have GW230 := Aside0.mk ((by rw [hg]; exact (below_size (bz0 HB.out)) : w.heap.size <= gb230)); have GE230 := GW230; replace HB := Aside0.mk (below_step (bz0 HB.out) hb); clear hb hbox hg; obtain ⟨hcz74_0, hcz74_1, hcz74_2, hcz74_3⟩ := cz4 BK230.out; obtain ⟨hfz74_0, hfz74_1, hfz74_2, hfz74_3⟩ := fz4 BK230.out))
             have n0_ : Aside0 (Kd.R k43 43 ((((w73.setCell ⟨gb230, 0, none⟩ (.int .i64 ((rd_T43 t221 x9_1).f0))).setCell ⟨gb230, 1, none⟩ (.string ((rd_T43 t221 x9_1).f1))).setCell ⟨gb230, 2, none⟩ (.int .i64 ((rd_T43 t221 x9_1).f2))).setCell ⟨gb230, 3, none⟩ (.int .i64 ((rd_T43 t221 x9_1).f3))) w.heap.size (fun k_ => k_ ≠ gb230) (.slice (some ad229) t221.length co72) t221) := ⟨by refine rq ?_; first | (with_reducible exact Kd.R_mono (Kd.R_far (p := ⟨gb230, 3, none⟩) (Kd.R_far (p := ⟨gb230, 2, none⟩) (Kd.R_far (p := ⟨gb230, 1, none⟩) (Kd.R_far (p := ⟨gb230, 0, none⟩) (Kd.R_mono HO_4.out (fun k_ hk => (⟨hk, hk.2⟩ : _ /\ k_ ≠ gb230))) (fun _ hk => hk.2) (.int .i64 ((rd_T43 t221 x9_1).f0))) (fun _ hk => hk.2) (.string ((rd_T43 t221 x9_1).f1))) (fun _ hk => hk.2) (.int .i64 ((rd_T43 t221 x9_1).f2))) (fun _ hk => hk.2) (.int .i64 ((rd_T43 t221 x9_1).f3))) (fun _ hk => hk.1.2)) | exact Kd.R_mono (Kd.R_far (p := ⟨gb230, 3, none⟩) (Kd.R_drewN (Kd.R_far (p := ⟨gb230, 2, none⟩) (Kd.R_far (p := ⟨gb230, 1, none⟩) (Kd.R_far (p := ⟨gb230, 0, none⟩) (Kd.R_mono HO_4.out (fun k_ hk => (⟨hk, hk.2⟩ : _ /\ k_ ≠ gb230))) (fun _ hk => hk.2) (.int .i64 ((rd_T43 t221 x9_1).f0))) (fun _ hk => hk.2) (.string ((rd_T43 t221 x9_1).f1))) (fun _ hk => hk.2) (.int .i64 ((rd_T43 t221 x9_1).f2))) _) (fun _ hk => hk.2) (.int .i64 ((rd_T43 t221 x9_1).f3))) (fun _ hk => hk.1.2)⟩
             have n1_ : Aside0 (((((w73.setCell ⟨gb230, 0, none⟩ (.int .i64 ((rd_T43 t221 x9_1).f0))).setCell ⟨gb230, 1, none⟩ (.string ((rd_T43 t221 x9_1).f1))).setCell ⟨gb230, 2, none⟩ (.int .i64 ((rd_T43 t221 x9_1).f2))).setCell ⟨gb230, 3, none⟩ (.int .i64 ((rd_T43 t221 x9_1).f3))).heap[gb230]? = some (.cells #[.int .i64 ((rd_T43 t221 x9_1).f0), .string ((rd_T43 t221 x9_1).f1), .int .i64 ((rd_T43 t221 x9_1).f2), .int .i64 ((rd_T43 t221 x9_1).f3)] 43 (0, 0))) := ⟨by refine kq ?_; refine blk_put (cs := #[.int .i64 ((rd_T43 t221 x9_1).f0), .string ((rd_T43 t221 x9_1).f1), .int .i64 ((rd_T43 t221 x9_1).f2), .int .i64 0]) ?_ 3 _ rfl; refine kq ?_; refine blk_put (cs := #[.int .i64 ((rd_T43 t221 x9_1).f0), .string ((rd_T43 t221 x9_1).f1), .int .i64 0, .int .i64 0]) ?_ 2 _ rfl; refine kq ?_; refine blk_put (cs := #[.int .i64 ((rd_T43 t221 x9_1).f0), .string (⟨#[]⟩ : ByteArray), .int .i64 0, .int .i64 0]) ?_ 1 _ rfl; refine kq ?_; refine blk_put (cs := #[.int .i64 0, .string (⟨#[]⟩ : ByteArray), .int .i64 0, .int .i64 0]) ?_ 0 _ rfl; refine kq ?_; exact BK230.out⟩
             have n2_ : Aside0 (Below w.heap.size w ((((w73.setCell ⟨gb230, 0, none⟩ (.int .i64 ((rd_T43 t221 x9_1).f0))).setCell ⟨gb230, 1, none⟩ (.string ((rd_T43 t221 x9_1).f1))).setCell ⟨gb230, 2, none⟩ (.int .i64 ((rd_T43 t221 x9_1).f2))).setCell ⟨gb230, 3, none⟩ (.int .i64 ((rd_T43 t221 x9_1).f3)))) := ⟨(bz1 HB.out GE230.out)⟩
             (try clear HO_4)
             (try clear BK230)
             (try clear HB)
             generalize ((((w73.setCell ⟨gb230, 0, none⟩ (.int .i64 ((rd_T43 t221 x9_1).f0))).setCell ⟨gb230, 1, none⟩ (.string ((rd_T43 t221 x9_1).f1))).setCell ⟨gb230, 2, none⟩ (.int .i64 ((rd_T43 t221 x9_1).f2))).setCell ⟨gb230, 3, none⟩ (.int .i64 ((rd_T43 t221 x9_1).f3))) = w75 at n0_ n1_ n2_ ⊢
             have HO_4 := n0_
             have BK230 := n1_
             have HB := n2_
             clear n0_ n1_ n2_
             have n0_ := Aside0.mk (Kd.R_drew HO_4.out)
             have n1_ := Aside0.mk (blk_drew BK230.out)
             have n2_ := Aside0.mk (below_drew1 HB.out)
             clear HO_4
             clear BK230
             clear HB
             have HO_4 := n0_
             have BK230 := n1_
             have HB := n2_
             clear n0_ n1_ n2_
             refine start_ (n := 54) (S := fun w' => w'.cell? ⟨gb230, 0, none⟩ = some (.int .i64 ((rd_T43 t221 x9_1).f0)) /\ w'.cell? ⟨gb230, 1, none⟩ = some (.string ((rd_T43 t221 x9_1).f1)) /\ w'.cell? ⟨gb230, 2, none⟩ = some (.int .i64 ((rd_T43 t221 x9_1).f2)) /\ w'.cell? ⟨gb230, 3, none⟩ = some (.int .i64 ((rd_T43 t221 x9_1).f3))) (ds := []) (mk_ 0 54) (by kernel_rfl) rfl rfl ⟨(blk_cell BK230.out 0).trans rfl, (blk_cell BK230.out 1).trans rfl, (blk_cell BK230.out 2).trans rfl, (blk_cell BK230.out 3).trans rfl⟩ (fun hHeld => ?_); refine with_tabW laws_FnLexed.tab15 laws_FnLexed.bits15 (fun HT_ HW_ => ?_)
             generalize w75.drew = w76 at HO_4 BK230 HB hHeld ⊢
             refine pv 0 52 (mk_ 1 53) HT_ rfl rfl ?_
             refine pv 2 54 (bm_ 54 5) HT_ rfl rfl ?_
             refine tv4 1 53 (mk_ 3 51) HT_ HW_ rfl rfl hHeld ?_
             refine pv 3 55 (mk_ 4 50) HT_ rfl rfl ?_
             refine pv 4 56 (mk_ 5 49) HT_ rfl rfl ?_
             refine pv 5 57 (mk_ 6 48) HT_ rfl rfl ?_
             refine pv 7 59 (bm_ 54 191) HT_ rfl rfl ?_
             refine pv 11 63 (bm_ 54 2239) HT_ rfl rfl ?_
             refine pv 12 64 (bm_ 54 6335) HT_ rfl rfl ?_
             refine tv4 6 58 (bm_ 54 6399) HT_ HW_ rfl rfl hHeld ?_
             refine tv4 8 60 (bm_ 54 6655) HT_ HW_ rfl rfl hHeld ?_
             refine pv 9 61 (bm_ 54 7167) HT_ rfl rfl ?_
             refine pv 10 62 (mk_ 13 41) HT_ rfl rfl ?_
             refine pv 13 65 (mk_ 14 40) HT_ rfl rfl ?_
             refine pv 14 66 (mk_ 15 39) HT_ rfl rfl ?_
             refine pv 15 67 (mk_ 16 38) HT_ rfl rfl ?_
             refine pv 16 68 (mk_ 17 37) HT_ rfl rfl ?_
             refine pv 17 69 (mk_ 18 36) HT_ rfl rfl ?_
             refine pv 19 71 (bm_ 54 786431) HT_ rfl rfl ?_
             refine pv 21 73 (bm_ 54 2883583) HT_ rfl rfl ?_
             refine pv 26 78 (bm_ 54 69992447) HT_ rfl rfl ?_
             refine tv4 18 70 (bm_ 54 70254591) HT_ HW_ rfl rfl hHeld ?_
             refine tv4 20 72 (bm_ 54 71303167) HT_ HW_ rfl rfl hHeld ?_
             refine tv4 22 74 (bm_ 54 75497471) HT_ HW_ rfl rfl hHeld ?_
             refine pv 23 75 (bm_ 54 83886079) HT_ rfl rfl ?_
             refine pv 24 76 (bm_ 54 100663295) HT_ rfl rfl ?_
             refine pv 25 77 (mk_ 27 27) HT_ rfl rfl ?_
             refine tv4 27 79 (mk_ 28 26) HT_ HW_ rfl rfl hHeld ?_
             refine pv 28 80 (mk_ 29 25) HT_ rfl rfl ?_
             refine pv 29 81 (mk_ 30 24) HT_ rfl rfl ?_
             refine pv 30 82 (mk_ 31 23) HT_ rfl rfl ?_
             refine pv 31 83 (mk_ 32 22) HT_ rfl rfl ?_
             refine tv4 32 84 (mk_ 33 21) HT_ HW_ rfl rfl hHeld ?_
             refine pv 33 85 (mk_ 34 20) HT_ rfl rfl ?_
             refine pv 34 86 (mk_ 35 19) HT_ rfl rfl ?_
             refine pu 35 87 (mk_ 36 18) HT_ rfl rfl ?_
             refine pu 36 88 (mk_ 37 17) HT_ rfl rfl ?_
             refine pu 37 89 (mk_ 38 16) HT_ rfl rfl ?_
             refine pu 38 90 (mk_ 39 15) HT_ rfl rfl ?_
             refine pv 39 91 (mk_ 40 14) HT_ rfl rfl ?_
             refine pv 40 92 (mk_ 41 13) HT_ rfl rfl ?_
             refine pv 41 93 (mk_ 42 12) HT_ rfl rfl ?_
             refine pv 42 94 (mk_ 43 11) HT_ rfl rfl ?_
             refine tv4 43 95 (mk_ 44 10) HT_ HW_ rfl rfl hHeld ?_
             refine pv 44 96 (mk_ 45 9) HT_ rfl rfl ?_
             refine pv 45 97 (mk_ 46 8) HT_ rfl rfl ?_
             refine pv 46 98 (mk_ 47 7) HT_ rfl rfl ?_
             refine pv 49 101 (bm_ 54 703687441776639) HT_ rfl rfl ?_
             refine tv4 47 99 (bm_ 54 844424930131967) HT_ HW_ rfl rfl hHeld ?_
             refine tv4 50 102 (bm_ 54 1970324836974591) HT_ HW_ rfl rfl hHeld ?_
             refine one_ (i := 48) (N := some 100) (mk_ 51 3) rfl rfl (one_of HT_.out (by kernel_rfl)) (by decide) (fun K hK => ?_)
             refine goes_ Tryd.func16 (by kernel_rfl) rfl #[.int .i64 ((rd_T43 t221 x9_1).f2)] (by rfl) rfl rfl lz ?_
             with_reducible refine (impl_Dec.calls ((rd_T43 t221 x9_1).f2) t233 _ A70.out ?hT_).mono ?_
             (case hT_ => exact PW.below hT_ (bz1 HB.out GE230.out))
             rintro e w77 ⟨rfl, hb⟩
             refine ⟨_, rfl, ?_⟩
             have n0_ := qz HO_4 hb
             have n1_ := Aside0.mk (blk_below (kz BK230.out) hb)
             have n2_ := Aside0.mk (below_step (bz1 HB.out GE230.out) hb)
             clear HO_4
             clear BK230
             clear HB
             have HO_4 := n0_
             have BK230 := n1_
             have HB := n2_
             clear n0_ n1_ n2_
             (try clear hb)
             (try clear hb2)
             (try clear hk)
             (try clear hi)
             refine hK.out _ _ ⟨(blk_cell BK230.out 0).trans rfl, (blk_cell BK230.out 1).trans rfl, (blk_cell BK230.out 2).trans rfl, (blk_cell BK230.out 3).trans rfl⟩ (fun hHeld => ?_)
             clear hK K
             refine norm_ (a' := ?_) ?_ ?_
             rotate_left
             ·show Act.put _ (some 100) _ = _
              simp only [Act.put, sz1, sz2, sz3, i64_w, i32_w]
              rfl
             refine pv 51 103 (mk_ 52 2) HT_ rfl rfl ?_
             refine pv 52 104 (mk_ 53 1) HT_ rfl rfl ?_
             refine pv 53 105 (mk_ 54 0) HT_ rfl rfl ?_
             refine done_ (done_of HT_.out (by kernel_rfl)) ?_
             obtain ⟨hcz78_0, hcz78_1, hcz78_2, hcz78_3⟩ := cz4 BK230.out
             obtain ⟨hfz78_0, hfz78_1, hfz78_2, hfz78_3⟩ := fz4 BK230.out
             try go_wp2
             go_roundg k1
             case measure => have := HK1.out; omega
             case rel => exact ⟨(wrap64 (((rd_T43 t221 x9_1).f3) + (((rd_T43 t221 x9_1).f1).size : Int))), (wrap64 (x9_1 + 1)), ez, ez, H', ⟨by have := HK1.out; omega⟩, ⟨by refine rq ?_; exact Kd.R_mono HO_4.out (fun _ hk => trivial)⟩, ⟨(bz1 HB.out GE230.out)⟩⟩
            ·rw [if_neg c71] at H
             have c71b0 : (t233.toList == ((rd_T43 t221 x9_1).f1).toList) = false := beq_eq_false_iff_ne.mpr c71
             have c71b1 : (t233.toList != ((rd_T43 t221 x9_1).f1).toList) = true := bne_iff_ne.mpr c71
             obtain rfl := Option.some.inj H
             obtain ⟨Ao79, co79, eo79⟩ := Kd.R_slice HO_4.out
             subst eo79
             have p229 : 0 <= (x9_1 : Int) := oz
             have q229 : x9_1 < (t221.length : Int) := oz
             obtain ⟨ad229, e229, hx229_0, hx229_1, hx229_2, hx229_3⟩ := at_T43 (Kd.R_reads' HO_4.out).2.2 x9_1 p229 q229
             cases e229
             replace p229 := eq_true p229
             replace q229 := eq_true q229
             try go_wp2_with (first | ((with_reducible refine gate_dst (N := 10) rfl ?_); (try (refine gate_guard (by rfl) ?_; dsimp only)); refine box_event ?hg (N := 10) ?hd (cs := #[.int .i64 0, .string (⟨#[]⟩ : ByteArray), .int .i64 0, .int .i64 0]) (t := 43) ?hr ?_; (case hd => rfl); (case hg => rfl); (case hr => exact vz); intro gb230 hg w80 hbox hb; replace HO_4 := Aside0.mk (Kd.R_below (Kd.R_elderB (rz HO_4.out) gb230 (Nat.le_of_eq hg.symm)) hb); have BK230 := Aside0.mk (hbox); have GW230 := Aside0.mk ((by rw [hg]; exact (below_size (bz0 HB.out)) : w.heap.size <= gb230)); have GE230 := GW230; replace HB := Aside0.mk (below_step (bz0 HB.out) hb); clear hb hbox hg; obtain ⟨hcz81_0, hcz81_1, hcz81_2, hcz81_3⟩ := cz4 BK230.out; obtain ⟨hfz81_0, hfz81_1, hfz81_2, hfz81_3⟩ := fz4 BK230.out))
             have n0_ : Aside0 (Kd.R k43 43 ((((w80.setCell ⟨gb230, 0, none⟩ (.int .i64 ((rd_T43 t221 x9_1).f0))).setCell ⟨gb230, 1, none⟩ (.string ((rd_T43 t221 x9_1).f1))).setCell ⟨gb230, 2, none⟩ (.int .i64 ((rd_T43 t221 x9_1).f2))).setCell ⟨gb230, 3, none⟩ (.int .i64 ((rd_T43 t221 x9_1).f3))) w.heap.size (fun k_ => k_ ≠ gb230) (.slice (some ad229) t221.length co79) t221) := ⟨by refine rq ?_; first | (with_reducible exact Kd.R_mono (Kd.R_far (p := ⟨gb230, 3, none⟩) (Kd.R_far (p := ⟨gb230, 2, none⟩) (Kd.R_far (p := ⟨gb230, 1, none⟩) (Kd.R_far (p := ⟨gb230, 0, none⟩) (Kd.R_mono HO_4.out (fun k_ hk => (⟨hk, hk.2⟩ : _ /\ k_ ≠ gb230))) (fun _ hk => hk.2) (.int .i64 ((rd_T43 t221 x9_1).f0))) (fun _ hk => hk.2) (.string ((rd_T43 t221 x9_1).f1))) (fun _ hk => hk.2) (.int .i64 ((rd_T43 t221 x9_1).f2))) (fun _ hk => hk.2) (.int .i64 ((rd_T43 t221 x9_1).f3))) (fun _ hk => hk.1.2)) | exact Kd.R_mono (Kd.R_far (p := ⟨gb230, 3, none⟩) (Kd.R_drewN (Kd.R_far (p := ⟨gb230, 2, none⟩) (Kd.R_far (p := ⟨gb230, 1, none⟩) (Kd.R_far (p := ⟨gb230, 0, none⟩) (Kd.R_mono HO_4.out (fun k_ hk => (⟨hk, hk.2⟩ : _ /\ k_ ≠ gb230))) (fun _ hk => hk.2) (.int .i64 ((rd_T43 t221 x9_1).f0))) (fun _ hk => hk.2) (.string ((rd_T43 t221 x9_1).f1))) (fun _ hk => hk.2) (.int .i64 ((rd_T43 t221 x9_1).f2))) _) (fun _ hk => hk.2) (.int .i64 ((rd_T43 t221 x9_1).f3))) (fun _ hk => hk.1.2)⟩
             have n1_ : Aside0 (((((w80.setCell ⟨gb230, 0, none⟩ (.int .i64 ((rd_T43 t221 x9_1).f0))).setCell ⟨gb230, 1, none⟩ (.string ((rd_T43 t221 x9_1).f1))).setCell ⟨gb230, 2, none⟩ (.int .i64 ((rd_T43 t221 x9_1).f2))).setCell ⟨gb230, 3, none⟩ (.int .i64 ((rd_T43 t221 x9_1).f3))).heap[gb230]? = some (.cells #[.int .i64 ((rd_T43 t221 x9_1).f0), .string ((rd_T43 t221 x9_1).f1), .int .i64 ((rd_T43 t221 x9_1).f2), .int .i64 ((rd_T43 t221 x9_1).f3)] 43 (0, 0))) := ⟨by refine kq ?_; refine blk_put (cs := #[.int .i64 ((rd_T43 t221 x9_1).f0), .string ((rd_T43 t221 x9_1).f1), .int .i64 ((rd_T43 t221 x9_1).f2), .int .i64 0]) ?_ 3 _ rfl; refine kq ?_; refine blk_put (cs := #[.int .i64 ((rd_T43 t221 x9_1).f0), .string ((rd_T43 t221 x9_1).f1), .int .i64 0, .int .i64 0]) ?_ 2 _ rfl; refine kq ?_; refine blk_put (cs := #[.int .i64 ((rd_T43 t221 x9_1).f0), .string (⟨#[]⟩ : ByteArray), .int .i64 0, .int .i64 0]) ?_ 1 _ rfl; refine kq ?_; refine blk_put (cs := #[.int .i64 0, .string (⟨#[]⟩ : ByteArray), .int .i64 0, .int .i64 0]) ?_ 0 _ rfl; refine kq ?_; exact BK230.out⟩
             have n2_ : Aside0 (Below w.heap.size w ((((w80.setCell ⟨gb230, 0, none⟩ (.int .i64 ((rd_T43 t221 x9_1).f0))).setCell ⟨gb230, 1, none⟩ (.string ((rd_T43 t221 x9_1).f1))).setCell ⟨gb230, 2, none⟩ (.int .i64 ((rd_T43 t221 x9_1).f2))).setCell ⟨gb230, 3, none⟩ (.int .i64 ((rd_T43 t221 x9_1).f3)))) := ⟨(bz1 HB.out GE230.out)⟩
             (try clear HO_4)
             (try clear BK230)
             (try clear HB)
             generalize ((((w80.setCell ⟨gb230, 0, none⟩ (.int .i64 ((rd_T43 t221 x9_1).f0))).setCell ⟨gb230, 1, none⟩ (.string ((rd_T43 t221 x9_1).f1))).setCell ⟨gb230, 2, none⟩ (.int .i64 ((rd_T43 t221 x9_1).f2))).setCell ⟨gb230, 3, none⟩ (.int .i64 ((rd_T43 t221 x9_1).f3))) = w82 at n0_ n1_ n2_ ⊢
             have HO_4 := n0_
             have BK230 := n1_
             have HB := n2_
             clear n0_ n1_ n2_
             have n0_ := Aside0.mk (Kd.R_drew HO_4.out)
             have n1_ := Aside0.mk (blk_drew BK230.out)
             have n2_ := Aside0.mk (below_drew1 HB.out)
             clear HO_4
             clear BK230
             clear HB
             have HO_4 := n0_
             have BK230 := n1_
             have HB := n2_
             clear n0_ n1_ n2_
             refine start_ (n := 54) (S := fun w' => w'.cell? ⟨gb230, 0, none⟩ = some (.int .i64 ((rd_T43 t221 x9_1).f0)) /\ w'.cell? ⟨gb230, 1, none⟩ = some (.string ((rd_T43 t221 x9_1).f1)) /\ w'.cell? ⟨gb230, 2, none⟩ = some (.int .i64 ((rd_T43 t221 x9_1).f2)) /\ w'.cell? ⟨gb230, 3, none⟩ = some (.int .i64 ((rd_T43 t221 x9_1).f3))) (ds := []) (mk_ 0 54) (by kernel_rfl) rfl rfl ⟨(blk_cell BK230.out 0).trans rfl, (blk_cell BK230.out 1).trans rfl, (blk_cell BK230.out 2).trans rfl, (blk_cell BK230.out 3).trans rfl⟩ (fun hHeld => ?_); refine with_tabW laws_FnLexed.tab15 laws_FnLexed.bits15 (fun HT_ HW_ => ?_)
             generalize w82.drew = w83 at HO_4 BK230 HB hHeld ⊢
             refine pv 0 52 (mk_ 1 53) HT_ rfl rfl ?_
             refine pv 2 54 (bm_ 54 5) HT_ rfl rfl ?_
             refine tv4 1 53 (mk_ 3 51) HT_ HW_ rfl rfl hHeld ?_
             refine pv 3 55 (mk_ 4 50) HT_ rfl rfl ?_
             refine pv 4 56 (mk_ 5 49) HT_ rfl rfl ?_
             refine pv 5 57 (mk_ 6 48) HT_ rfl rfl ?_
             refine pv 7 59 (bm_ 54 191) HT_ rfl rfl ?_
             refine pv 11 63 (bm_ 54 2239) HT_ rfl rfl ?_
             refine pv 12 64 (bm_ 54 6335) HT_ rfl rfl ?_
             refine tv4 6 58 (bm_ 54 6399) HT_ HW_ rfl rfl hHeld ?_
             refine tv4 8 60 (bm_ 54 6655) HT_ HW_ rfl rfl hHeld ?_
             refine pv 9 61 (bm_ 54 7167) HT_ rfl rfl ?_
             refine pv 10 62 (mk_ 13 41) HT_ rfl rfl ?_
             refine pv 13 65 (mk_ 14 40) HT_ rfl rfl ?_
             refine pv 14 66 (mk_ 15 39) HT_ rfl rfl ?_
             refine pv 15 67 (mk_ 16 38) HT_ rfl rfl ?_
             refine pv 16 68 (mk_ 17 37) HT_ rfl rfl ?_
             refine pv 17 69 (mk_ 18 36) HT_ rfl rfl ?_
             refine pv 19 71 (bm_ 54 786431) HT_ rfl rfl ?_
             refine pv 21 73 (bm_ 54 2883583) HT_ rfl rfl ?_
             refine pv 26 78 (bm_ 54 69992447) HT_ rfl rfl ?_
             refine tv4 18 70 (bm_ 54 70254591) HT_ HW_ rfl rfl hHeld ?_
             refine tv4 20 72 (bm_ 54 71303167) HT_ HW_ rfl rfl hHeld ?_
             refine tv4 22 74 (bm_ 54 75497471) HT_ HW_ rfl rfl hHeld ?_
             refine pv 23 75 (bm_ 54 83886079) HT_ rfl rfl ?_
             refine pv 24 76 (bm_ 54 100663295) HT_ rfl rfl ?_
             refine pv 25 77 (mk_ 27 27) HT_ rfl rfl ?_
             refine tv4 27 79 (mk_ 28 26) HT_ HW_ rfl rfl hHeld ?_
             refine pv 28 80 (mk_ 29 25) HT_ rfl rfl ?_
             refine pv 29 81 (mk_ 30 24) HT_ rfl rfl ?_
             refine pv 30 82 (mk_ 31 23) HT_ rfl rfl ?_
             refine pv 31 83 (mk_ 32 22) HT_ rfl rfl ?_
             refine tv4 32 84 (mk_ 33 21) HT_ HW_ rfl rfl hHeld ?_
             refine pv 33 85 (mk_ 34 20) HT_ rfl rfl ?_
             refine pv 34 86 (mk_ 35 19) HT_ rfl rfl ?_
             refine pu 35 87 (mk_ 36 18) HT_ rfl rfl ?_
             refine pu 36 88 (mk_ 37 17) HT_ rfl rfl ?_
             refine pu 37 89 (mk_ 38 16) HT_ rfl rfl ?_
             refine pu 38 90 (mk_ 39 15) HT_ rfl rfl ?_
             refine pv 39 91 (mk_ 40 14) HT_ rfl rfl ?_
             refine pv 40 92 (mk_ 41 13) HT_ rfl rfl ?_
             refine pv 41 93 (mk_ 42 12) HT_ rfl rfl ?_
             refine pv 42 94 (mk_ 43 11) HT_ rfl rfl ?_
             refine tv4 43 95 (mk_ 44 10) HT_ HW_ rfl rfl hHeld ?_
             refine pv 44 96 (mk_ 45 9) HT_ rfl rfl ?_
             refine pv 45 97 (mk_ 46 8) HT_ rfl rfl ?_
             refine pv 46 98 (mk_ 47 7) HT_ rfl rfl ?_
             refine pv 49 101 (bm_ 54 703687441776639) HT_ rfl rfl ?_
             refine tv4 47 99 (bm_ 54 844424930131967) HT_ HW_ rfl rfl hHeld ?_
             refine tv4 50 102 (bm_ 54 1970324836974591) HT_ HW_ rfl rfl hHeld ?_
             refine one_ (i := 48) (N := some 100) (mk_ 51 3) rfl rfl (one_of HT_.out (by kernel_rfl)) (by decide) (fun K hK => ?_)
             refine goes_ Tryd.func16 (by kernel_rfl) rfl #[.int .i64 ((rd_T43 t221 x9_1).f2)] (by rfl) rfl rfl lz ?_
             with_reducible refine (impl_Dec.calls ((rd_T43 t221 x9_1).f2) t233 _ A70.out ?hT_).mono ?_
             (case hT_ => exact PW.below hT_ (bz1 HB.out GE230.out))
             rintro e w84 ⟨rfl, hb⟩
             refine ⟨_, rfl, ?_⟩
             have n0_ := qz HO_4 hb
             have n1_ := Aside0.mk (blk_below (kz BK230.out) hb)
             have n2_ := Aside0.mk (below_step (bz1 HB.out GE230.out) hb)
             clear HO_4
             clear BK230
             clear HB
             have HO_4 := n0_
             have BK230 := n1_
             have HB := n2_
             clear n0_ n1_ n2_
             (try clear hb)
             (try clear hb2)
             (try clear hk)
             (try clear hi)
             refine hK.out _ _ ⟨(blk_cell BK230.out 0).trans rfl, (blk_cell BK230.out 1).trans rfl, (blk_cell BK230.out 2).trans rfl, (blk_cell BK230.out 3).trans rfl⟩ (fun hHeld => ?_)
             clear hK K
             refine norm_ (a' := ?_) ?_ ?_
             rotate_left
             ·show Act.put _ (some 100) _ = _
              simp only [Act.put, sz1, sz2, sz3, i64_w, i32_w]
              rfl
             refine pv 51 103 (mk_ 52 2) HT_ rfl rfl ?_
             refine pv 52 104 (mk_ 53 1) HT_ rfl rfl ?_
             refine pv 53 105 (mk_ 54 0) HT_ rfl rfl ?_
             refine done_ (done_of HT_.out (by kernel_rfl)) ?_
             try go_wp2
             go_ret
             exact ⟨gz, (bz1 HB.out GE230.out)⟩
           ·rw [if_neg c69] at H
            have c69b0 : (((rd_T43 t221 x9_1).f0) == 4) = false := beq_eq_false_iff_ne.mpr c69
            have c69b1 : (((rd_T43 t221 x9_1).f0) != 4) = true := bne_iff_ne.mpr c69
            have H' := Aside0.mk H
            clear H
            obtain ⟨Ao85, co85, eo85⟩ := Kd.R_slice HO_4.out
            subst eo85
            have p229 : 0 <= (x9_1 : Int) := oz
            have q229 : x9_1 < (t221.length : Int) := oz
            obtain ⟨ad229, e229, hx229_0, hx229_1, hx229_2, hx229_3⟩ := at_T43 (Kd.R_reads' HO_4.out).2.2 x9_1 p229 q229
            cases e229
            replace p229 := eq_true p229
            replace q229 := eq_true q229
            try go_wp2_with (first | ((with_reducible refine gate_dst (N := 10) rfl ?_); (try (refine gate_guard (by rfl) ?_; dsimp only)); refine box_event ?hg (N := 10) ?hd (cs := #[.int .i64 0, .string (⟨#[]⟩ : ByteArray), .int .i64 0, .int .i64 0]) (t := 43) ?hr ?_; (case hd => rfl); (case hg => rfl); (case hr => exact vz); intro gb230 hg w86 hbox hb; replace HO_4 := Aside0.mk (Kd.R_below (Kd.R_elderB (rz HO_4.out) gb230 (Nat.le_of_eq hg.symm)) hb); have BK230 := Aside0.mk (hbox); have GW230 := Aside0.mk ((by rw [hg]; exact (below_size (bz0 HB.out)) : w.heap.size <= gb230)); have GE230 := GW230; replace HB := Aside0.mk (below_step (bz0 HB.out) hb); clear hb hbox hg; obtain ⟨hcz87_0, hcz87_1, hcz87_2, hcz87_3⟩ := cz4 BK230.out; obtain ⟨hfz87_0, hfz87_1, hfz87_2, hfz87_3⟩ := fz4 BK230.out))
            have n0_ : Aside0 (Kd.R k43 43 ((((w86.setCell ⟨gb230, 0, none⟩ (.int .i64 ((rd_T43 t221 x9_1).f0))).setCell ⟨gb230, 1, none⟩ (.string ((rd_T43 t221 x9_1).f1))).setCell ⟨gb230, 2, none⟩ (.int .i64 ((rd_T43 t221 x9_1).f2))).setCell ⟨gb230, 3, none⟩ (.int .i64 ((rd_T43 t221 x9_1).f3))) w.heap.size (fun k_ => k_ ≠ gb230) (.slice (some ad229) t221.length co85) t221) := ⟨by refine rq ?_; first | (with_reducible exact Kd.R_mono (Kd.R_far (p := ⟨gb230, 3, none⟩) (Kd.R_far (p := ⟨gb230, 2, none⟩) (Kd.R_far (p := ⟨gb230, 1, none⟩) (Kd.R_far (p := ⟨gb230, 0, none⟩) (Kd.R_mono HO_4.out (fun k_ hk => (⟨hk, hk.2⟩ : _ /\ k_ ≠ gb230))) (fun _ hk => hk.2) (.int .i64 ((rd_T43 t221 x9_1).f0))) (fun _ hk => hk.2) (.string ((rd_T43 t221 x9_1).f1))) (fun _ hk => hk.2) (.int .i64 ((rd_T43 t221 x9_1).f2))) (fun _ hk => hk.2) (.int .i64 ((rd_T43 t221 x9_1).f3))) (fun _ hk => hk.1.2)) | exact Kd.R_mono (Kd.R_far (p := ⟨gb230, 3, none⟩) (Kd.R_drewN (Kd.R_far (p := ⟨gb230, 2, none⟩) (Kd.R_far (p := ⟨gb230, 1, none⟩) (Kd.R_far (p := ⟨gb230, 0, none⟩) (Kd.R_mono HO_4.out (fun k_ hk => (⟨hk, hk.2⟩ : _ /\ k_ ≠ gb230))) (fun _ hk => hk.2) (.int .i64 ((rd_T43 t221 x9_1).f0))) (fun _ hk => hk.2) (.string ((rd_T43 t221 x9_1).f1))) (fun _ hk => hk.2) (.int .i64 ((rd_T43 t221 x9_1).f2))) _) (fun _ hk => hk.2) (.int .i64 ((rd_T43 t221 x9_1).f3))) (fun _ hk => hk.1.2)⟩
            have n1_ : Aside0 (((((w86.setCell ⟨gb230, 0, none⟩ (.int .i64 ((rd_T43 t221 x9_1).f0))).setCell ⟨gb230, 1, none⟩ (.string ((rd_T43 t221 x9_1).f1))).setCell ⟨gb230, 2, none⟩ (.int .i64 ((rd_T43 t221 x9_1).f2))).setCell ⟨gb230, 3, none⟩ (.int .i64 ((rd_T43 t221 x9_1).f3))).heap[gb230]? = some (.cells #[.int .i64 ((rd_T43 t221 x9_1).f0), .string ((rd_T43 t221 x9_1).f1), .int .i64 ((rd_T43 t221 x9_1).f2), .int .i64 ((rd_T43 t221 x9_1).f3)] 43 (0, 0))) := ⟨by refine kq ?_; refine blk_put (cs := #[.int .i64 ((rd_T43 t221 x9_1).f0), .string ((rd_T43 t221 x9_1).f1), .int .i64 ((rd_T43 t221 x9_1).f2), .int .i64 0]) ?_ 3 _ rfl; refine kq ?_; refine blk_put (cs := #[.int .i64 ((rd_T43 t221 x9_1).f0), .string ((rd_T43 t221 x9_1).f1), .int .i64 0, .int .i64 0]) ?_ 2 _ rfl; refine kq ?_; refine blk_put (cs := #[.int .i64 ((rd_T43 t221 x9_1).f0), .string (⟨#[]⟩ : ByteArray), .int .i64 0, .int .i64 0]) ?_ 1 _ rfl; refine kq ?_; refine blk_put (cs := #[.int .i64 0, .string (⟨#[]⟩ : ByteArray), .int .i64 0, .int .i64 0]) ?_ 0 _ rfl; refine kq ?_; exact BK230.out⟩
            have n2_ : Aside0 (Below w.heap.size w ((((w86.setCell ⟨gb230, 0, none⟩ (.int .i64 ((rd_T43 t221 x9_1).f0))).setCell ⟨gb230, 1, none⟩ (.string ((rd_T43 t221 x9_1).f1))).setCell ⟨gb230, 2, none⟩ (.int .i64 ((rd_T43 t221 x9_1).f2))).setCell ⟨gb230, 3, none⟩ (.int .i64 ((rd_T43 t221 x9_1).f3)))) := ⟨(bz1 HB.out GE230.out)⟩
            (try clear HO_4)
            (try clear BK230)
            (try clear HB)
            generalize ((((w86.setCell ⟨gb230, 0, none⟩ (.int .i64 ((rd_T43 t221 x9_1).f0))).setCell ⟨gb230, 1, none⟩ (.string ((rd_T43 t221 x9_1).f1))).setCell ⟨gb230, 2, none⟩ (.int .i64 ((rd_T43 t221 x9_1).f2))).setCell ⟨gb230, 3, none⟩ (.int .i64 ((rd_T43 t221 x9_1).f3))) = w88 at n0_ n1_ n2_ ⊢
            have HO_4 := n0_
            have BK230 := n1_
            have HB := n2_
            clear n0_ n1_ n2_
            have n0_ := Aside0.mk (Kd.R_drew HO_4.out)
            have n1_ := Aside0.mk (blk_drew BK230.out)
            have n2_ := Aside0.mk (below_drew1 HB.out)
            clear HO_4
            clear BK230
            clear HB
            have HO_4 := n0_
            have BK230 := n1_
            have HB := n2_
            clear n0_ n1_ n2_
            refine start_ (n := 54) (S := fun w' => w'.cell? ⟨gb230, 0, none⟩ = some (.int .i64 ((rd_T43 t221 x9_1).f0)) /\ w'.cell? ⟨gb230, 1, none⟩ = some (.string ((rd_T43 t221 x9_1).f1)) /\ w'.cell? ⟨gb230, 2, none⟩ = some (.int .i64 ((rd_T43 t221 x9_1).f2)) /\ w'.cell? ⟨gb230, 3, none⟩ = some (.int .i64 ((rd_T43 t221 x9_1).f3))) (ds := []) (mk_ 0 54) (by kernel_rfl) rfl rfl ⟨(blk_cell BK230.out 0).trans rfl, (blk_cell BK230.out 1).trans rfl, (blk_cell BK230.out 2).trans rfl, (blk_cell BK230.out 3).trans rfl⟩ (fun hHeld => ?_); refine with_tabW laws_FnLexed.tab15 laws_FnLexed.bits15 (fun HT_ HW_ => ?_)
            generalize w88.drew = w89 at HO_4 BK230 HB hHeld ⊢
            refine pv 0 52 (mk_ 1 53) HT_ rfl rfl ?_
            refine pv 2 54 (bm_ 54 5) HT_ rfl rfl ?_
            refine tv4 1 53 (mk_ 3 51) HT_ HW_ rfl rfl hHeld ?_
            refine pv 3 55 (mk_ 4 50) HT_ rfl rfl ?_
            refine pv 4 56 (mk_ 5 49) HT_ rfl rfl ?_
            refine pv 5 57 (mk_ 6 48) HT_ rfl rfl ?_
            refine pv 7 59 (bm_ 54 191) HT_ rfl rfl ?_
            refine pv 11 63 (bm_ 54 2239) HT_ rfl rfl ?_
            refine pv 12 64 (bm_ 54 6335) HT_ rfl rfl ?_
            refine tv4 6 58 (bm_ 54 6399) HT_ HW_ rfl rfl hHeld ?_
            refine tv4 8 60 (bm_ 54 6655) HT_ HW_ rfl rfl hHeld ?_
            refine pv 9 61 (bm_ 54 7167) HT_ rfl rfl ?_
            refine pv 10 62 (mk_ 13 41) HT_ rfl rfl ?_
            refine pv 13 65 (mk_ 14 40) HT_ rfl rfl ?_
            refine pv 14 66 (mk_ 15 39) HT_ rfl rfl ?_
            refine pv 15 67 (mk_ 16 38) HT_ rfl rfl ?_
            refine pv 16 68 (mk_ 17 37) HT_ rfl rfl ?_
            refine pv 17 69 (mk_ 18 36) HT_ rfl rfl ?_
            refine pv 19 71 (bm_ 54 786431) HT_ rfl rfl ?_
            refine pv 21 73 (bm_ 54 2883583) HT_ rfl rfl ?_
            refine pv 26 78 (bm_ 54 69992447) HT_ rfl rfl ?_
            refine tv4 18 70 (bm_ 54 70254591) HT_ HW_ rfl rfl hHeld ?_
            refine tv4 20 72 (bm_ 54 71303167) HT_ HW_ rfl rfl hHeld ?_
            refine tv4 22 74 (bm_ 54 75497471) HT_ HW_ rfl rfl hHeld ?_
            refine pv 23 75 (bm_ 54 83886079) HT_ rfl rfl ?_
            refine pv 24 76 (bm_ 54 100663295) HT_ rfl rfl ?_
            refine pv 25 77 (mk_ 27 27) HT_ rfl rfl ?_
            refine tv4 27 79 (mk_ 28 26) HT_ HW_ rfl rfl hHeld ?_
            refine pv 28 80 (mk_ 29 25) HT_ rfl rfl ?_
            refine pv 29 81 (mk_ 30 24) HT_ rfl rfl ?_
            refine pv 30 82 (mk_ 31 23) HT_ rfl rfl ?_
            refine pv 31 83 (mk_ 32 22) HT_ rfl rfl ?_
            refine tv4 32 84 (mk_ 33 21) HT_ HW_ rfl rfl hHeld ?_
            refine pv 33 85 (mk_ 34 20) HT_ rfl rfl ?_
            refine pv 34 86 (mk_ 35 19) HT_ rfl rfl ?_
            refine pu 35 87 (mk_ 36 18) HT_ rfl rfl ?_
            refine pu 36 88 (mk_ 37 17) HT_ rfl rfl ?_
            refine pu 37 89 (mk_ 38 16) HT_ rfl rfl ?_
            refine pu 38 90 (mk_ 39 15) HT_ rfl rfl ?_
            refine pv 39 91 (mk_ 40 14) HT_ rfl rfl ?_
            refine pv 40 92 (mk_ 41 13) HT_ rfl rfl ?_
            refine pv 41 93 (mk_ 42 12) HT_ rfl rfl ?_
            refine pv 42 94 (mk_ 43 11) HT_ rfl rfl ?_
            refine tv4 43 95 (mk_ 44 10) HT_ HW_ rfl rfl hHeld ?_
            refine pv 44 96 (mk_ 45 9) HT_ rfl rfl ?_
            refine pv 45 97 (mk_ 46 8) HT_ rfl rfl ?_
            refine pu 46 98 (mk_ 47 7) HT_ rfl rfl ?_
            refine pu 47 99 (mk_ 48 6) HT_ rfl rfl ?_
            refine pu 48 100 (mk_ 49 5) HT_ rfl rfl ?_
            refine pu 49 101 (mk_ 50 4) HT_ rfl rfl ?_
            refine pu 50 102 (mk_ 51 3) HT_ rfl rfl ?_
            refine pu 51 103 (mk_ 52 2) HT_ rfl rfl ?_
            refine pv 52 104 (mk_ 53 1) HT_ rfl rfl ?_
            refine pv 53 105 (mk_ 54 0) HT_ rfl rfl ?_
            refine done_ (done_of HT_.out (by kernel_rfl)) ?_
            obtain ⟨hcz90_0, hcz90_1, hcz90_2, hcz90_3⟩ := cz4 BK230.out
            obtain ⟨hfz90_0, hfz90_1, hfz90_2, hfz90_3⟩ := fz4 BK230.out
            try go_wp2
            go_roundg k1
            case measure => have := HK1.out; omega
            case rel => exact ⟨(wrap64 (((rd_T43 t221 x9_1).f3) + (((rd_T43 t221 x9_1).f1).size : Int))), (wrap64 (x9_1 + 1)), ez, ez, H', ⟨by have := HK1.out; omega⟩, ⟨by refine rq ?_; exact Kd.R_mono HO_4.out (fun _ hk => trivial)⟩, ⟨(bz1 HB.out GE230.out)⟩⟩
         ·rw [if_neg c38] at H
          have c38b0 : ((t220.extract (((rd_T43 t221 x9_1).f3) : Int).toNat ((wrap64 (((rd_T43 t221 x9_1).f3) + (((rd_T43 t221 x9_1).f1).size : Int))) : Int).toNat).toList == ((rd_T43 t221 x9_1).f1).toList) = false := beq_eq_false_iff_ne.mpr c38
          have c38b1 : ((t220.extract (((rd_T43 t221 x9_1).f3) : Int).toNat ((wrap64 (((rd_T43 t221 x9_1).f3) + (((rd_T43 t221 x9_1).f1).size : Int))) : Int).toNat).toList != ((rd_T43 t221 x9_1).f1).toList) = true := bne_iff_ne.mpr c38
          obtain rfl := Option.some.inj H
          obtain ⟨Ao91, co91, eo91⟩ := Kd.R_slice HO_4.out
          subst eo91
          have p229 : 0 <= (x9_1 : Int) := oz
          have q229 : x9_1 < (t221.length : Int) := oz
          obtain ⟨ad229, e229, hx229_0, hx229_1, hx229_2, hx229_3⟩ := at_T43 (Kd.R_reads' HO_4.out).2.2 x9_1 p229 q229
          cases e229
          replace p229 := eq_true p229
          replace q229 := eq_true q229
          try go_wp2_with (first | ((with_reducible refine gate_dst (N := 10) rfl ?_); (try (refine gate_guard (by rfl) ?_; dsimp only)); refine box_event ?hg (N := 10) ?hd (cs := #[.int .i64 0, .string (⟨#[]⟩ : ByteArray), .int .i64 0, .int .i64 0]) (t := 43) ?hr ?_; (case hd => rfl); (case hg => rfl); (case hr => exact vz); intro gb230 hg w92 hbox hb; replace HO_4 := Aside0.mk (Kd.R_below (Kd.R_elderB (rz HO_4.out) gb230 (Nat.le_of_eq hg.symm)) hb); have BK230 := Aside0.mk (hbox); have GW230 := Aside0.mk ((by rw [hg]; exact (below_size (bz0 HB.out)) : w.heap.size <= gb230)); have GE230 := GW230; replace HB := Aside0.mk (below_step (bz0 HB.out) hb); clear hb hbox hg; obtain ⟨hcz93_0, hcz93_1, hcz93_2, hcz93_3⟩ := cz4 BK230.out; obtain ⟨hfz93_0, hfz93_1, hfz93_2, hfz93_3⟩ := fz4 BK230.out))
          have n0_ : Aside0 (Kd.R k43 43 ((((w92.setCell ⟨gb230, 0, none⟩ (.int .i64 ((rd_T43 t221 x9_1).f0))).setCell ⟨gb230, 1, none⟩ (.string ((rd_T43 t221 x9_1).f1))).setCell ⟨gb230, 2, none⟩ (.int .i64 ((rd_T43 t221 x9_1).f2))).setCell ⟨gb230, 3, none⟩ (.int .i64 ((rd_T43 t221 x9_1).f3))) w.heap.size (fun k_ => k_ ≠ gb230) (.slice (some ad229) t221.length co91) t221) := ⟨by refine rq ?_; first | (with_reducible exact Kd.R_mono (Kd.R_far (p := ⟨gb230, 3, none⟩) (Kd.R_far (p := ⟨gb230, 2, none⟩) (Kd.R_far (p := ⟨gb230, 1, none⟩) (Kd.R_far (p := ⟨gb230, 0, none⟩) (Kd.R_mono HO_4.out (fun k_ hk => (⟨hk, hk.2⟩ : _ /\ k_ ≠ gb230))) (fun _ hk => hk.2) (.int .i64 ((rd_T43 t221 x9_1).f0))) (fun _ hk => hk.2) (.string ((rd_T43 t221 x9_1).f1))) (fun _ hk => hk.2) (.int .i64 ((rd_T43 t221 x9_1).f2))) (fun _ hk => hk.2) (.int .i64 ((rd_T43 t221 x9_1).f3))) (fun _ hk => hk.1.2)) | exact Kd.R_mono (Kd.R_far (p := ⟨gb230, 3, none⟩) (Kd.R_drewN (Kd.R_far (p := ⟨gb230, 2, none⟩) (Kd.R_far (p := ⟨gb230, 1, none⟩) (Kd.R_far (p := ⟨gb230, 0, none⟩) (Kd.R_mono HO_4.out (fun k_ hk => (⟨hk, hk.2⟩ : _ /\ k_ ≠ gb230))) (fun _ hk => hk.2) (.int .i64 ((rd_T43 t221 x9_1).f0))) (fun _ hk => hk.2) (.string ((rd_T43 t221 x9_1).f1))) (fun _ hk => hk.2) (.int .i64 ((rd_T43 t221 x9_1).f2))) _) (fun _ hk => hk.2) (.int .i64 ((rd_T43 t221 x9_1).f3))) (fun _ hk => hk.1.2)⟩
          have n1_ : Aside0 (((((w92.setCell ⟨gb230, 0, none⟩ (.int .i64 ((rd_T43 t221 x9_1).f0))).setCell ⟨gb230, 1, none⟩ (.string ((rd_T43 t221 x9_1).f1))).setCell ⟨gb230, 2, none⟩ (.int .i64 ((rd_T43 t221 x9_1).f2))).setCell ⟨gb230, 3, none⟩ (.int .i64 ((rd_T43 t221 x9_1).f3))).heap[gb230]? = some (.cells #[.int .i64 ((rd_T43 t221 x9_1).f0), .string ((rd_T43 t221 x9_1).f1), .int .i64 ((rd_T43 t221 x9_1).f2), .int .i64 ((rd_T43 t221 x9_1).f3)] 43 (0, 0))) := ⟨by refine kq ?_; refine blk_put (cs := #[.int .i64 ((rd_T43 t221 x9_1).f0), .string ((rd_T43 t221 x9_1).f1), .int .i64 ((rd_T43 t221 x9_1).f2), .int .i64 0]) ?_ 3 _ rfl; refine kq ?_; refine blk_put (cs := #[.int .i64 ((rd_T43 t221 x9_1).f0), .string ((rd_T43 t221 x9_1).f1), .int .i64 0, .int .i64 0]) ?_ 2 _ rfl; refine kq ?_; refine blk_put (cs := #[.int .i64 ((rd_T43 t221 x9_1).f0), .string (⟨#[]⟩ : ByteArray), .int .i64 0, .int .i64 0]) ?_ 1 _ rfl; refine kq ?_; refine blk_put (cs := #[.int .i64 0, .string (⟨#[]⟩ : ByteArray), .int .i64 0, .int .i64 0]) ?_ 0 _ rfl; refine kq ?_; exact BK230.out⟩
          have n2_ : Aside0 (Below w.heap.size w ((((w92.setCell ⟨gb230, 0, none⟩ (.int .i64 ((rd_T43 t221 x9_1).f0))).setCell ⟨gb230, 1, none⟩ (.string ((rd_T43 t221 x9_1).f1))).setCell ⟨gb230, 2, none⟩ (.int .i64 ((rd_T43 t221 x9_1).f2))).setCell ⟨gb230, 3, none⟩ (.int .i64 ((rd_T43 t221 x9_1).f3)))) := ⟨(bz1 HB.out GE230.out)⟩
          (try clear HO_4)
          (try clear BK230)
          (try clear HB)
          generalize ((((w92.setCell ⟨gb230, 0, none⟩ (.int .i64 ((rd_T43 t221 x9_1).f0))).setCell ⟨gb230, 1, none⟩ (.string ((rd_T43 t221 x9_1).f1))).setCell ⟨gb230, 2, none⟩ (.int .i64 ((rd_T43 t221 x9_1).f2))).setCell ⟨gb230, 3, none⟩ (.int .i64 ((rd_T43 t221 x9_1).f3))) = w94 at n0_ n1_ n2_ ⊢
          have HO_4 := n0_
          have BK230 := n1_
          have HB := n2_
          clear n0_ n1_ n2_
          have n0_ := Aside0.mk (Kd.R_drew HO_4.out)
          have n1_ := Aside0.mk (blk_drew BK230.out)
          have n2_ := Aside0.mk (below_drew1 HB.out)
          clear HO_4
          clear BK230
          clear HB
          have HO_4 := n0_
          have BK230 := n1_
          have HB := n2_
          clear n0_ n1_ n2_
          refine start_ (n := 54) (S := fun w' => w'.cell? ⟨gb230, 0, none⟩ = some (.int .i64 ((rd_T43 t221 x9_1).f0)) /\ w'.cell? ⟨gb230, 1, none⟩ = some (.string ((rd_T43 t221 x9_1).f1)) /\ w'.cell? ⟨gb230, 2, none⟩ = some (.int .i64 ((rd_T43 t221 x9_1).f2)) /\ w'.cell? ⟨gb230, 3, none⟩ = some (.int .i64 ((rd_T43 t221 x9_1).f3))) (ds := []) (mk_ 0 54) (by kernel_rfl) rfl rfl ⟨(blk_cell BK230.out 0).trans rfl, (blk_cell BK230.out 1).trans rfl, (blk_cell BK230.out 2).trans rfl, (blk_cell BK230.out 3).trans rfl⟩ (fun hHeld => ?_); refine with_tabW laws_FnLexed.tab15 laws_FnLexed.bits15 (fun HT_ HW_ => ?_)
          generalize w94.drew = w95 at HO_4 BK230 HB hHeld ⊢
          refine pv 0 52 (mk_ 1 53) HT_ rfl rfl ?_
          refine pv 2 54 (bm_ 54 5) HT_ rfl rfl ?_
          refine tv4 1 53 (mk_ 3 51) HT_ HW_ rfl rfl hHeld ?_
          refine pv 3 55 (mk_ 4 50) HT_ rfl rfl ?_
          refine pv 4 56 (mk_ 5 49) HT_ rfl rfl ?_
          refine pv 5 57 (mk_ 6 48) HT_ rfl rfl ?_
          refine pv 7 59 (bm_ 54 191) HT_ rfl rfl ?_
          refine pv 11 63 (bm_ 54 2239) HT_ rfl rfl ?_
          refine pv 12 64 (bm_ 54 6335) HT_ rfl rfl ?_
          refine tv4 6 58 (bm_ 54 6399) HT_ HW_ rfl rfl hHeld ?_
          refine tv4 8 60 (bm_ 54 6655) HT_ HW_ rfl rfl hHeld ?_
          refine pv 9 61 (bm_ 54 7167) HT_ rfl rfl ?_
          refine pv 10 62 (mk_ 13 41) HT_ rfl rfl ?_
          refine pv 13 65 (mk_ 14 40) HT_ rfl rfl ?_
          refine pv 14 66 (mk_ 15 39) HT_ rfl rfl ?_
          refine pv 15 67 (mk_ 16 38) HT_ rfl rfl ?_
          refine pv 16 68 (mk_ 17 37) HT_ rfl rfl ?_
          refine pv 17 69 (mk_ 18 36) HT_ rfl rfl ?_
          refine pv 19 71 (bm_ 54 786431) HT_ rfl rfl ?_
          refine pv 21 73 (bm_ 54 2883583) HT_ rfl rfl ?_
          refine pv 26 78 (bm_ 54 69992447) HT_ rfl rfl ?_
          refine tv4 18 70 (bm_ 54 70254591) HT_ HW_ rfl rfl hHeld ?_
          refine tv4 20 72 (bm_ 54 71303167) HT_ HW_ rfl rfl hHeld ?_
          refine tv4 22 74 (bm_ 54 75497471) HT_ HW_ rfl rfl hHeld ?_
          refine pv 23 75 (bm_ 54 83886079) HT_ rfl rfl ?_
          refine pv 24 76 (bm_ 54 100663295) HT_ rfl rfl ?_
          refine pv 25 77 (mk_ 27 27) HT_ rfl rfl ?_
          refine tv4 27 79 (mk_ 28 26) HT_ HW_ rfl rfl hHeld ?_
          refine pv 28 80 (mk_ 29 25) HT_ rfl rfl ?_
          refine pv 29 81 (mk_ 30 24) HT_ rfl rfl ?_
          refine pv 30 82 (mk_ 31 23) HT_ rfl rfl ?_
          refine pu 31 83 (mk_ 32 22) HT_ rfl rfl ?_
          refine pu 32 84 (mk_ 33 21) HT_ rfl rfl ?_
          refine pu 33 85 (mk_ 34 20) HT_ rfl rfl ?_
          refine pu 34 86 (mk_ 35 19) HT_ rfl rfl ?_
          refine pu 35 87 (mk_ 36 18) HT_ rfl rfl ?_
          refine pu 36 88 (mk_ 37 17) HT_ rfl rfl ?_
          refine pu 37 89 (mk_ 38 16) HT_ rfl rfl ?_
          refine pu 38 90 (mk_ 39 15) HT_ rfl rfl ?_
          refine pu 39 91 (mk_ 40 14) HT_ rfl rfl ?_
          refine pv 40 92 (mk_ 41 13) HT_ rfl rfl ?_
          refine pv 41 93 (mk_ 42 12) HT_ rfl rfl ?_
          refine pu 42 94 (mk_ 43 11) HT_ rfl rfl ?_
          refine pu 43 95 (mk_ 44 10) HT_ rfl rfl ?_
          refine pu 44 96 (mk_ 45 9) HT_ rfl rfl ?_
          refine pu 45 97 (mk_ 46 8) HT_ rfl rfl ?_
          refine pu 46 98 (mk_ 47 7) HT_ rfl rfl ?_
          refine pu 47 99 (mk_ 48 6) HT_ rfl rfl ?_
          refine pu 48 100 (mk_ 49 5) HT_ rfl rfl ?_
          refine pu 49 101 (mk_ 50 4) HT_ rfl rfl ?_
          refine pu 50 102 (mk_ 51 3) HT_ rfl rfl ?_
          refine pu 51 103 (mk_ 52 2) HT_ rfl rfl ?_
          refine pu 52 104 (mk_ 53 1) HT_ rfl rfl ?_
          refine pv 53 105 (mk_ 54 0) HT_ rfl rfl ?_
          refine done_ (done_of HT_.out (by kernel_rfl)) ?_
          try go_wp2
          go_ret
          exact ⟨gz, (bz1 HB.out GE230.out)⟩
      ·rw [if_neg c21] at H
       have c21b0 := decide_eq_false c21
       clear c21
       replace H := bi H
       obtain ⟨t234, A960, H⟩ := H
       try dsimp only at H
       have A96 := Aside0.mk A960
       clear A960
       replace H := bi H
       obtain ⟨⟨t235, t236⟩, A970, H⟩ := H
       try dsimp only at H
       have A97 := Aside0.mk A970
       clear A970
       have HC98 := Aside0.mk H
       clear H
       obtain ⟨Ao99, co99, eo99⟩ := Kd.R_slice HO_4.out
       subst eo99
       go_upto_region 19 with (first | ((with_reducible refine gate_callee (f := 27) rfl ?_); refine goesL_ (some 114) rfl rfl Tryd.func27 (by kernel_rfl) rfl #[.slice Ao99 t221.length co99] rfl lz ?_; (with_reducible refine (impl_Unlex.calls k1 _ _ t221 t234 _ ?side1 ?side2 A96.out).mono ?_); (case side1 => exact cz (Kd.R_reads' HO_4.out).2.2); (case side2 => exact (Kd.R_reads' HO_4.out).2.1); rintro e w100 ⟨rfl, hb⟩; refine ⟨_, rfl, ?_⟩; replace HO_4 := qz HO_4 hb; replace HB := Aside0.mk (below_step (bz0 HB.out) hb); (try clear hb); (try clear hi)) | ((with_reducible refine gate_callee (f := 21) rfl ?_); refine goesL_ (some 115) rfl rfl Tryd.func21 (by kernel_rfl) rfl #[.string t234] rfl lz ?_; (with_reducible refine (impl_Lex.calls k1 t234 t235 t236 _ A97.out ?hT_).mono ?_); (case hT_ => exact PW.below hT_ (bz0 HB.out)); rintro e w101 ⟨v237, rfl, ho0, hb⟩; refine ⟨_, rfl, ?_⟩; have HO238 := Aside0.mk (Kd.R_lower (Kd.R_new' ho0 (Kd.R_lt (rz HO_4.out))) (below_size (bz0 HB.out))); replace HO_4 := Aside0.mk (Kd.R_elder' (rz HO_4.out) (Kd.R_base ho0) hb); replace HB := Aside0.mk (below_step (bz0 HB.out) hb); (try clear hb); (try clear ho0)))
       (try simp only [Act.put, sz1, sz2, sz3])
       go_cut [126] (fun v126 wc => ∃ (kq : Nat) (x126_97 : Bool), v126 = .bool x126_97 /\ Aside0 (laws_FnLexed.j1 kq t221 t235 x126_97 = some r) /\ Aside0 (kq <= k1) /\ Aside0 (Kd.R k43 43 wc w.heap.size (fun k_ => some k_ ≠ (v237 : Value).ownBlock) (.slice Ao99 t221.length co99) t221) /\ Aside0 (Kd.R k43 43 wc w.heap.size (fun k_ => some k_ ≠ ((.slice Ao99 t221.length co99) : Value).ownBlock) v237 t235) /\ Aside0 (Below w.heap.size w wc))
       case first =>
        have H := HC98.out
        clear HC98
        by_cases c102 : t236 ≥ 0
        ·rw [if_pos c102] at H
         have c102b0 : decide (0 <= t236) = true := decide_eq_true c102
         clear c102
         (first | rw [c102b0] | (simp only [i64_w, i32_w]; rw [c102b0]) | skip)
         have H' := Aside0.mk H
         clear H
         go_wp2
         go_meet
         case rel => exact ⟨_, (true), ez, H', ⟨by have := HK1.out; first | omega | exact Nat.le_refl _⟩, ⟨by refine rq ?_; exact Kd.R_mono HO_4.out (fun _ hk => hk.2)⟩, ⟨by refine rq ?_; exact Kd.R_mono HO238.out (fun _ hk => hk.2)⟩, ⟨(bz0 HB.out)⟩⟩
        ·rw [if_neg c102] at H
         have c102b0 : decide (0 <= t236) = false := decide_eq_false c102
         clear c102
         (first | rw [c102b0] | (simp only [i64_w, i32_w]; rw [c102b0]) | skip)
         have H' := Aside0.mk H
         clear H
         obtain ⟨Ao103, co103, eo103⟩ := Kd.R_slice HO238.out
         subst eo103
         go_wp2
         go_meet
         case rel => exact ⟨_, (((t235.length : Int) != (t221.length : Int))), ez, H', ⟨by have := HK1.out; first | omega | exact Nat.le_refl _⟩, ⟨by refine rq ?_; exact Kd.R_mono HO_4.out (fun _ hk => hk.2)⟩, ⟨by refine rq ?_; exact Kd.R_mono HO238.out (fun _ hk => hk.2)⟩, ⟨(bz0 HB.out)⟩⟩
       case rest =>
        clear HC98
        try clear c1
        try clear c2
        try clear p2
        try clear q2
        try clear hx2
        try clear c3
        try clear p6
        try clear c10
        try clear c21
        try clear c21b0
        try clear c22
        try clear p22
        try clear q22
        try clear hx22
        try clear c27
        try clear c35
        try clear c36
        try clear c37
        try clear c38
        try clear c38b0
        try clear c38b1
        try clear p64
        try clear c102
        try clear c102b0
        try clear hcz90_0 hcz90_1 hcz90_2 hcz90_3
        try clear hcz93_0 hcz93_1 hcz93_2 hcz93_3
        try clear hfz90_0 hfz90_1 hfz90_2 hfz90_3
        try clear hfz93_0 hfz93_1 hfz93_2 hfz93_3
        try clear hx229_0
        try clear hx229_1
        try clear hx229_2
        try clear hx229_3
        try clear p229
        try clear q229
        obtain ⟨kq, x126_97, rfl, HA, HJ97, HO_4, HO_11, HB⟩ := hcut
        cases kq with
        | zero => exact absurd HA.out (by simp [laws_FnLexed.j1])
        | succ kj97 =>
         have H := HA.out
         clear HA
         simp only [laws_FnLexed.j1] at H
         by_cases c104 : x126_97 = true
         ·subst c104
          have H1 := hp H
          clear H
          have H := H1
          clear H1
          obtain rfl := Option.some.inj H
          go_wp2
          go_ret
          exact ⟨gz, (bz0 HB.out)⟩
         ·replace c104 := Bool.eq_false_iff.mpr c104
          subst c104
          have H1 := hq H
          clear H
          have H := H1
          clear H1
          have H' := Aside0.mk H
          clear H
          go_wp2
          go_loopg [13] kj97 (fun kq v13 w' => ∃ (x13_3 : Int), v13 = .int .i64 x13_3 /\ Aside0 (laws_FnLexed.l1 kq t221 t235 x13_3 = some r) /\ Aside0 (kq <= kj97) /\ Aside0 (Kd.R k43 43 w' w.heap.size (fun k_ => some k_ ≠ (v237 : Value).ownBlock) (.slice Ao99 t221.length co99) t221) /\ Aside0 (Kd.R k43 43 w' w.heap.size (fun k_ => some k_ ≠ ((.slice Ao99 t221.length co99) : Value).ownBlock) v237 t235) /\ Aside0 (Below w.heap.size w w'))
          case atStart => exact ⟨(0), ez, H', ⟨Nat.le_refl _⟩, ⟨by refine rq ?_; exact HO_4.out⟩, ⟨by refine rq ?_; exact HO_11.out⟩, ⟨(bz0 HB.out)⟩⟩
          case round =>
           clear H'
           try clear c1
           try clear c2
           try clear p2
           try clear q2
           try clear hx2
           try clear c3
           try clear p6
           try clear c10
           try clear c21
           try clear c21b0
           try clear c22
           try clear p22
           try clear q22
           try clear hx22
           try clear c27
           try clear c35
           try clear c36
           try clear c37
           try clear c38
           try clear c38b0
           try clear c38b1
           try clear p64
           try clear c102
           try clear c102b0
           try clear c104
           try clear hcz90_0 hcz90_1 hcz90_2 hcz90_3
           try clear hcz93_0 hcz93_1 hcz93_2 hcz93_3
           try clear hfz90_0 hfz90_1 hfz90_2 hfz90_3
           try clear hfz93_0 hfz93_1 hfz93_2 hfz93_3
           try clear hx229_0
           try clear hx229_1
           try clear hx229_2
           try clear hx229_3
           try clear p2
           try clear p22
           try clear p229
           try clear p6
           try clear p64
           try clear q2
           try clear q22
           try clear q229
           obtain ⟨x13_3, rfl, HA, HK3, HO_4, HO_11, HB⟩ := hrel
           cases gk with
           | zero => exact absurd HA.out (by simp [laws_FnLexed.l1])
           | succ k3 =>
            have H := HA.out
            clear HA
            simp only [laws_FnLexed.l1] at H
            by_cases c105 : x13_3 < (t235.length : Int)
            ·rw [if_pos c105] at H
             have c105b0 := decide_eq_true c105
             clear c105
             replace H := iz H
             obtain ⟨c106, H⟩ := H
             have c106b0 := decide_eq_true c106
             clear c106
             replace H := iz H
             obtain ⟨c107, H⟩ := H
             have c107b0 := decide_eq_true c107
             clear c107
             by_cases c108 : ((rd_T43 t235 x13_3).f0) = ((rd_T43 t221 x13_3).f0)
             ·rw [if_pos c108] at H
              have c108b0 : (((rd_T43 t235 x13_3).f0) == ((rd_T43 t221 x13_3).f0)) = true := beq_iff_eq.mpr c108
              have c108b1 : (((rd_T43 t235 x13_3).f0) != ((rd_T43 t221 x13_3).f0)) = false := bne_eq_false_iff_eq.mpr c108
              clear c108
              by_cases c109 : ((rd_T43 t235 x13_3).f1).toList = ((rd_T43 t221 x13_3).f1).toList
              ·rw [if_pos c109] at H
               have c109b0 : (((rd_T43 t235 x13_3).f1).toList == ((rd_T43 t221 x13_3).f1).toList) = true := beq_iff_eq.mpr c109
               have c109b1 : (((rd_T43 t235 x13_3).f1).toList != ((rd_T43 t221 x13_3).f1).toList) = false := bne_eq_false_iff_eq.mpr c109
               clear c109
               by_cases c110 : ((rd_T43 t235 x13_3).f2) = ((rd_T43 t221 x13_3).f2)
               ·rw [if_pos c110] at H
                have c110b0 : (((rd_T43 t235 x13_3).f2) == ((rd_T43 t221 x13_3).f2)) = true := beq_iff_eq.mpr c110
                have c110b1 : (((rd_T43 t235 x13_3).f2) != ((rd_T43 t221 x13_3).f2)) = false := bne_eq_false_iff_eq.mpr c110
                clear c110
                have H' := Aside0.mk H
                clear H
                obtain ⟨Ao111, co111, eo111⟩ := Kd.R_slice HO_11.out
                subst eo111
                try go_wp2
                have n0_ := Aside0.mk (Kd.R_drew HO_4.out)
                have n1_ := Aside0.mk (Kd.R_drew HO_11.out)
                have n2_ := Aside0.mk (below_drew1 HB.out)
                clear HO_4
                clear HO_11
                clear HB
                have HO_4 := n0_
                have HO_11 := n1_
                have HB := n2_
                clear n0_ n1_ n2_
                have p239 : 0 <= (x13_3 : Int) := oz
                have q239 : x13_3 < (t235.length : Int) := oz
                obtain ⟨ad239, e239, hx239_0, hx239_1, hx239_2, hx239_3⟩ := at_T43 (Kd.R_reads' HO_11.out).2.2 x13_3 p239 q239
                cases e239
                replace p239 := eq_true p239
                replace q239 := eq_true q239
                have p240 : 0 <= (x13_3 : Int) := oz
                have q240 : x13_3 < (t221.length : Int) := oz
                obtain ⟨ad240, e240, hx240_0, hx240_1, hx240_2, hx240_3⟩ := at_T43 (Kd.R_reads' HO_4.out).2.2 x13_3 p240 q240
                cases e240
                replace p240 := eq_true p240
                replace q240 := eq_true q240
                have p241 : 0 <= (x13_3 : Int) := oz
                have q241 : x13_3 < (t235.length : Int) := oz
                obtain ⟨ad241, e241, hx241_0, hx241_1, hx241_2, hx241_3⟩ := at_T43 (Kd.R_reads' HO_11.out).2.2 x13_3 p241 q241
                obtain rfl : ad239 = ad241 := (by injection e241)
                replace p241 := eq_true p241
                replace q241 := eq_true q241
                have p242 : 0 <= (x13_3 : Int) := oz
                have q242 : x13_3 < (t221.length : Int) := oz
                obtain ⟨ad242, e242, hx242_0, hx242_1, hx242_2, hx242_3⟩ := at_T43 (Kd.R_reads' HO_4.out).2.2 x13_3 p242 q242
                obtain rfl : ad240 = ad242 := (by injection e242)
                replace p242 := eq_true p242
                replace q242 := eq_true q242
                have p243 : 0 <= (x13_3 : Int) := oz
                have q243 : x13_3 < (t235.length : Int) := oz
                obtain ⟨ad243, e243, hx243_0, hx243_1, hx243_2, hx243_3⟩ := at_T43 (Kd.R_reads' HO_11.out).2.2 x13_3 p243 q243
                obtain rfl : ad239 = ad243 := (by injection e243)
                replace p243 := eq_true p243
                replace q243 := eq_true q243
                have p244 : 0 <= (x13_3 : Int) := oz
                have q244 : x13_3 < (t221.length : Int) := oz
                obtain ⟨ad244, e244, hx244_0, hx244_1, hx244_2, hx244_3⟩ := at_T43 (Kd.R_reads' HO_4.out).2.2 x13_3 p244 q244
                obtain rfl : ad240 = ad244 := (by injection e244)
                replace p244 := eq_true p244
                replace q244 := eq_true q244
                refine start_ (n := 37) (S := fun w' => w'.cell? (ad239.add ((x13_3).toNat * 4)) = some (.int .i64 ((rd_T43 t235 x13_3).f0)) /\ w'.cell? ⟨(ad239.add ((x13_3).toNat * 4)).block, (ad239.add ((x13_3).toNat * 4)).off + 1, none⟩ = some (.string ((rd_T43 t235 x13_3).f1)) /\ w'.cell? ⟨(ad239.add ((x13_3).toNat * 4)).block, (ad239.add ((x13_3).toNat * 4)).off + 2, none⟩ = some (.int .i64 ((rd_T43 t235 x13_3).f2)) /\ w'.cell? ⟨(ad239.add ((x13_3).toNat * 4)).block, (ad239.add ((x13_3).toNat * 4)).off + 3, none⟩ = some (.int .i64 ((rd_T43 t235 x13_3).f3)) /\ w'.cell? (ad240.add ((x13_3).toNat * 4)) = some (.int .i64 ((rd_T43 t221 x13_3).f0)) /\ w'.cell? ⟨(ad240.add ((x13_3).toNat * 4)).block, (ad240.add ((x13_3).toNat * 4)).off + 1, none⟩ = some (.string ((rd_T43 t221 x13_3).f1)) /\ w'.cell? ⟨(ad240.add ((x13_3).toNat * 4)).block, (ad240.add ((x13_3).toNat * 4)).off + 2, none⟩ = some (.int .i64 ((rd_T43 t221 x13_3).f2)) /\ w'.cell? ⟨(ad240.add ((x13_3).toNat * 4)).block, (ad240.add ((x13_3).toNat * 4)).off + 3, none⟩ = some (.int .i64 ((rd_T43 t221 x13_3).f3)) /\ w'.cell? (ad239.add ((x13_3).toNat * 4)) = some (.int .i64 ((rd_T43 t235 x13_3).f0)) /\ w'.cell? ⟨(ad239.add ((x13_3).toNat * 4)).block, (ad239.add ((x13_3).toNat * 4)).off + 1, none⟩ = some (.string ((rd_T43 t235 x13_3).f1)) /\ w'.cell? ⟨(ad239.add ((x13_3).toNat * 4)).block, (ad239.add ((x13_3).toNat * 4)).off + 2, none⟩ = some (.int .i64 ((rd_T43 t235 x13_3).f2)) /\ w'.cell? ⟨(ad239.add ((x13_3).toNat * 4)).block, (ad239.add ((x13_3).toNat * 4)).off + 3, none⟩ = some (.int .i64 ((rd_T43 t235 x13_3).f3)) /\ w'.cell? (ad240.add ((x13_3).toNat * 4)) = some (.int .i64 ((rd_T43 t221 x13_3).f0)) /\ w'.cell? ⟨(ad240.add ((x13_3).toNat * 4)).block, (ad240.add ((x13_3).toNat * 4)).off + 1, none⟩ = some (.string ((rd_T43 t221 x13_3).f1)) /\ w'.cell? ⟨(ad240.add ((x13_3).toNat * 4)).block, (ad240.add ((x13_3).toNat * 4)).off + 2, none⟩ = some (.int .i64 ((rd_T43 t221 x13_3).f2)) /\ w'.cell? ⟨(ad240.add ((x13_3).toNat * 4)).block, (ad240.add ((x13_3).toNat * 4)).off + 3, none⟩ = some (.int .i64 ((rd_T43 t221 x13_3).f3)) /\ w'.cell? (ad239.add ((x13_3).toNat * 4)) = some (.int .i64 ((rd_T43 t235 x13_3).f0)) /\ w'.cell? ⟨(ad239.add ((x13_3).toNat * 4)).block, (ad239.add ((x13_3).toNat * 4)).off + 1, none⟩ = some (.string ((rd_T43 t235 x13_3).f1)) /\ w'.cell? ⟨(ad239.add ((x13_3).toNat * 4)).block, (ad239.add ((x13_3).toNat * 4)).off + 2, none⟩ = some (.int .i64 ((rd_T43 t235 x13_3).f2)) /\ w'.cell? ⟨(ad239.add ((x13_3).toNat * 4)).block, (ad239.add ((x13_3).toNat * 4)).off + 3, none⟩ = some (.int .i64 ((rd_T43 t235 x13_3).f3)) /\ w'.cell? (ad240.add ((x13_3).toNat * 4)) = some (.int .i64 ((rd_T43 t221 x13_3).f0)) /\ w'.cell? ⟨(ad240.add ((x13_3).toNat * 4)).block, (ad240.add ((x13_3).toNat * 4)).off + 1, none⟩ = some (.string ((rd_T43 t221 x13_3).f1)) /\ w'.cell? ⟨(ad240.add ((x13_3).toNat * 4)).block, (ad240.add ((x13_3).toNat * 4)).off + 2, none⟩ = some (.int .i64 ((rd_T43 t221 x13_3).f2)) /\ w'.cell? ⟨(ad240.add ((x13_3).toNat * 4)).block, (ad240.add ((x13_3).toNat * 4)).off + 3, none⟩ = some (.int .i64 ((rd_T43 t221 x13_3).f3))) (ds := []) (mk_ 0 37) (by kernel_rfl) rfl rfl ⟨hx239_0, hx239_1, hx239_2, hx239_3, hx240_0, hx240_1, hx240_2, hx240_3, hx241_0, hx241_1, hx241_2, hx241_3, hx242_0, hx242_1, hx242_2, hx242_3, hx243_0, hx243_1, hx243_2, hx243_3, hx244_0, hx244_1, hx244_2, hx244_3⟩ (fun hHeld => ?_); refine with_tabW laws_FnLexed.tab24 laws_FnLexed.bits24 (fun HT_ HW_ => ?_)
                generalize wr.drew = w112 at HO_4 HO_11 HB hx239_0 hx239_1 hx239_2 hx239_3 hx240_0 hx240_1 hx240_2 hx240_3 hx241_0 hx241_1 hx241_2 hx241_3 hx242_0 hx242_1 hx242_2 hx242_3 hx243_0 hx243_1 hx243_2 hx243_3 hx244_0 hx244_1 hx244_2 hx244_3 hHeld ⊢
                refine pv 0 133 (mk_ 1 36) HT_ rfl rfl ?_
                refine pv 1 134 (mk_ 2 35) HT_ rfl rfl ?_
                refine pv 2 135 (mk_ 3 34) HT_ rfl rfl ?_
                refine pv 3 136 (mk_ 4 33) HT_ rfl rfl ?_
                refine pv 5 138 (bm_ 37 47) HT_ rfl rfl ?_
                refine pv 6 139 (bm_ 37 111) HT_ rfl rfl ?_
                refine pv 7 140 (bm_ 37 239) HT_ rfl rfl ?_
                refine pv 8 141 (bm_ 37 495) HT_ rfl rfl ?_
                refine tv24 4 137 (mk_ 9 28) HT_ HW_ rfl rfl hHeld ?_
                refine tv24 9 142 (mk_ 10 27) HT_ HW_ rfl rfl hHeld ?_
                refine pv 10 143 (mk_ 11 26) HT_ rfl rfl ?_
                refine pv 11 144 (mk_ 12 25) HT_ rfl rfl ?_
                refine pv 12 145 (mk_ 13 24) HT_ rfl rfl ?_
                refine pv 13 146 (mk_ 14 23) HT_ rfl rfl ?_
                refine pv 14 147 (mk_ 15 22) HT_ rfl rfl ?_
                refine pv 15 148 (mk_ 16 21) HT_ rfl rfl ?_
                refine pv 17 150 (bm_ 37 196607) HT_ rfl rfl ?_
                refine pv 18 151 (bm_ 37 458751) HT_ rfl rfl ?_
                refine pv 19 152 (bm_ 37 983039) HT_ rfl rfl ?_
                refine pv 20 153 (bm_ 37 2031615) HT_ rfl rfl ?_
                refine tv24 16 149 (mk_ 21 16) HT_ HW_ rfl rfl hHeld ?_
                refine tv24 21 154 (mk_ 22 15) HT_ HW_ rfl rfl hHeld ?_
                refine pv 22 155 (mk_ 23 14) HT_ rfl rfl ?_
                refine pv 23 156 (mk_ 24 13) HT_ rfl rfl ?_
                refine pv 24 157 (mk_ 25 12) HT_ rfl rfl ?_
                refine pv 25 158 (mk_ 26 11) HT_ rfl rfl ?_
                refine pv 26 159 (mk_ 27 10) HT_ rfl rfl ?_
                refine pv 27 160 (mk_ 28 9) HT_ rfl rfl ?_
                refine pv 28 161 (mk_ 29 8) HT_ rfl rfl ?_
                refine pv 30 163 (bm_ 37 1610612735) HT_ rfl rfl ?_
                refine pv 31 164 (bm_ 37 3758096383) HT_ rfl rfl ?_
                refine pv 32 165 (bm_ 37 8053063679) HT_ rfl rfl ?_
                refine pv 33 166 (bm_ 37 16642998271) HT_ rfl rfl ?_
                refine tv24 29 162 (mk_ 34 3) HT_ HW_ rfl rfl hHeld ?_
                refine tv24 34 167 (mk_ 35 2) HT_ HW_ rfl rfl hHeld ?_
                refine pv 35 168 (mk_ 36 1) HT_ rfl rfl ?_
                refine pv 36 169 (mk_ 37 0) HT_ rfl rfl ?_
                refine done_ (done_of HT_.out (by kernel_rfl)) ?_
                try go_wp2
                go_roundg k3
                case measure => have := HK1.out; have := HJ97.out; have := HK3.out; omega
                case rel => exact ⟨(wrap64 (x13_3 + 1)), ez, H', ⟨by have := HK1.out; have := HJ97.out; have := HK3.out; omega⟩, ⟨by refine rq ?_; exact HO_4.out⟩, ⟨by refine rq ?_; exact HO_11.out⟩, ⟨(bz0 HB.out)⟩⟩
               ·rw [if_neg c110] at H
                have c110b0 : (((rd_T43 t235 x13_3).f2) == ((rd_T43 t221 x13_3).f2)) = false := beq_eq_false_iff_ne.mpr c110
                have c110b1 : (((rd_T43 t235 x13_3).f2) != ((rd_T43 t221 x13_3).f2)) = true := bne_iff_ne.mpr c110
                obtain rfl := Option.some.inj H
                obtain ⟨Ao113, co113, eo113⟩ := Kd.R_slice HO_11.out
                subst eo113
                try go_wp2
                have n0_ := Aside0.mk (Kd.R_drew HO_4.out)
                have n1_ := Aside0.mk (Kd.R_drew HO_11.out)
                have n2_ := Aside0.mk (below_drew1 HB.out)
                clear HO_4
                clear HO_11
                clear HB
                have HO_4 := n0_
                have HO_11 := n1_
                have HB := n2_
                clear n0_ n1_ n2_
                have p239 : 0 <= (x13_3 : Int) := oz
                have q239 : x13_3 < (t235.length : Int) := oz
                obtain ⟨ad239, e239, hx239_0, hx239_1, hx239_2, hx239_3⟩ := at_T43 (Kd.R_reads' HO_11.out).2.2 x13_3 p239 q239
                cases e239
                replace p239 := eq_true p239
                replace q239 := eq_true q239
                have p240 : 0 <= (x13_3 : Int) := oz
                have q240 : x13_3 < (t221.length : Int) := oz
                obtain ⟨ad240, e240, hx240_0, hx240_1, hx240_2, hx240_3⟩ := at_T43 (Kd.R_reads' HO_4.out).2.2 x13_3 p240 q240
                cases e240
                replace p240 := eq_true p240
                replace q240 := eq_true q240
                have p241 : 0 <= (x13_3 : Int) := oz
                have q241 : x13_3 < (t235.length : Int) := oz
                obtain ⟨ad241, e241, hx241_0, hx241_1, hx241_2, hx241_3⟩ := at_T43 (Kd.R_reads' HO_11.out).2.2 x13_3 p241 q241
                obtain rfl : ad239 = ad241 := (by injection e241)
                replace p241 := eq_true p241
                replace q241 := eq_true q241
                have p242 : 0 <= (x13_3 : Int) := oz
                have q242 : x13_3 < (t221.length : Int) := oz
                obtain ⟨ad242, e242, hx242_0, hx242_1, hx242_2, hx242_3⟩ := at_T43 (Kd.R_reads' HO_4.out).2.2 x13_3 p242 q242
                obtain rfl : ad240 = ad242 := (by injection e242)
                replace p242 := eq_true p242
                replace q242 := eq_true q242
                have p243 : 0 <= (x13_3 : Int) := oz
                have q243 : x13_3 < (t235.length : Int) := oz
                obtain ⟨ad243, e243, hx243_0, hx243_1, hx243_2, hx243_3⟩ := at_T43 (Kd.R_reads' HO_11.out).2.2 x13_3 p243 q243
                obtain rfl : ad239 = ad243 := (by injection e243)
                replace p243 := eq_true p243
                replace q243 := eq_true q243
                have p244 : 0 <= (x13_3 : Int) := oz
                have q244 : x13_3 < (t221.length : Int) := oz
                obtain ⟨ad244, e244, hx244_0, hx244_1, hx244_2, hx244_3⟩ := at_T43 (Kd.R_reads' HO_4.out).2.2 x13_3 p244 q244
                obtain rfl : ad240 = ad244 := (by injection e244)
                replace p244 := eq_true p244
                replace q244 := eq_true q244
                refine start_ (n := 37) (S := fun w' => w'.cell? (ad239.add ((x13_3).toNat * 4)) = some (.int .i64 ((rd_T43 t235 x13_3).f0)) /\ w'.cell? ⟨(ad239.add ((x13_3).toNat * 4)).block, (ad239.add ((x13_3).toNat * 4)).off + 1, none⟩ = some (.string ((rd_T43 t235 x13_3).f1)) /\ w'.cell? ⟨(ad239.add ((x13_3).toNat * 4)).block, (ad239.add ((x13_3).toNat * 4)).off + 2, none⟩ = some (.int .i64 ((rd_T43 t235 x13_3).f2)) /\ w'.cell? ⟨(ad239.add ((x13_3).toNat * 4)).block, (ad239.add ((x13_3).toNat * 4)).off + 3, none⟩ = some (.int .i64 ((rd_T43 t235 x13_3).f3)) /\ w'.cell? (ad240.add ((x13_3).toNat * 4)) = some (.int .i64 ((rd_T43 t221 x13_3).f0)) /\ w'.cell? ⟨(ad240.add ((x13_3).toNat * 4)).block, (ad240.add ((x13_3).toNat * 4)).off + 1, none⟩ = some (.string ((rd_T43 t221 x13_3).f1)) /\ w'.cell? ⟨(ad240.add ((x13_3).toNat * 4)).block, (ad240.add ((x13_3).toNat * 4)).off + 2, none⟩ = some (.int .i64 ((rd_T43 t221 x13_3).f2)) /\ w'.cell? ⟨(ad240.add ((x13_3).toNat * 4)).block, (ad240.add ((x13_3).toNat * 4)).off + 3, none⟩ = some (.int .i64 ((rd_T43 t221 x13_3).f3)) /\ w'.cell? (ad239.add ((x13_3).toNat * 4)) = some (.int .i64 ((rd_T43 t235 x13_3).f0)) /\ w'.cell? ⟨(ad239.add ((x13_3).toNat * 4)).block, (ad239.add ((x13_3).toNat * 4)).off + 1, none⟩ = some (.string ((rd_T43 t235 x13_3).f1)) /\ w'.cell? ⟨(ad239.add ((x13_3).toNat * 4)).block, (ad239.add ((x13_3).toNat * 4)).off + 2, none⟩ = some (.int .i64 ((rd_T43 t235 x13_3).f2)) /\ w'.cell? ⟨(ad239.add ((x13_3).toNat * 4)).block, (ad239.add ((x13_3).toNat * 4)).off + 3, none⟩ = some (.int .i64 ((rd_T43 t235 x13_3).f3)) /\ w'.cell? (ad240.add ((x13_3).toNat * 4)) = some (.int .i64 ((rd_T43 t221 x13_3).f0)) /\ w'.cell? ⟨(ad240.add ((x13_3).toNat * 4)).block, (ad240.add ((x13_3).toNat * 4)).off + 1, none⟩ = some (.string ((rd_T43 t221 x13_3).f1)) /\ w'.cell? ⟨(ad240.add ((x13_3).toNat * 4)).block, (ad240.add ((x13_3).toNat * 4)).off + 2, none⟩ = some (.int .i64 ((rd_T43 t221 x13_3).f2)) /\ w'.cell? ⟨(ad240.add ((x13_3).toNat * 4)).block, (ad240.add ((x13_3).toNat * 4)).off + 3, none⟩ = some (.int .i64 ((rd_T43 t221 x13_3).f3)) /\ w'.cell? (ad239.add ((x13_3).toNat * 4)) = some (.int .i64 ((rd_T43 t235 x13_3).f0)) /\ w'.cell? ⟨(ad239.add ((x13_3).toNat * 4)).block, (ad239.add ((x13_3).toNat * 4)).off + 1, none⟩ = some (.string ((rd_T43 t235 x13_3).f1)) /\ w'.cell? ⟨(ad239.add ((x13_3).toNat * 4)).block, (ad239.add ((x13_3).toNat * 4)).off + 2, none⟩ = some (.int .i64 ((rd_T43 t235 x13_3).f2)) /\ w'.cell? ⟨(ad239.add ((x13_3).toNat * 4)).block, (ad239.add ((x13_3).toNat * 4)).off + 3, none⟩ = some (.int .i64 ((rd_T43 t235 x13_3).f3)) /\ w'.cell? (ad240.add ((x13_3).toNat * 4)) = some (.int .i64 ((rd_T43 t221 x13_3).f0)) /\ w'.cell? ⟨(ad240.add ((x13_3).toNat * 4)).block, (ad240.add ((x13_3).toNat * 4)).off + 1, none⟩ = some (.string ((rd_T43 t221 x13_3).f1)) /\ w'.cell? ⟨(ad240.add ((x13_3).toNat * 4)).block, (ad240.add ((x13_3).toNat * 4)).off + 2, none⟩ = some (.int .i64 ((rd_T43 t221 x13_3).f2)) /\ w'.cell? ⟨(ad240.add ((x13_3).toNat * 4)).block, (ad240.add ((x13_3).toNat * 4)).off + 3, none⟩ = some (.int .i64 ((rd_T43 t221 x13_3).f3))) (ds := []) (mk_ 0 37) (by kernel_rfl) rfl rfl ⟨hx239_0, hx239_1, hx239_2, hx239_3, hx240_0, hx240_1, hx240_2, hx240_3, hx241_0, hx241_1, hx241_2, hx241_3, hx242_0, hx242_1, hx242_2, hx242_3, hx243_0, hx243_1, hx243_2, hx243_3, hx244_0, hx244_1, hx244_2, hx244_3⟩ (fun hHeld => ?_); refine with_tabW laws_FnLexed.tab24 laws_FnLexed.bits24 (fun HT_ HW_ => ?_)
                generalize wr.drew = w114 at HO_4 HO_11 HB hx239_0 hx239_1 hx239_2 hx239_3 hx240_0 hx240_1 hx240_2 hx240_3 hx241_0 hx241_1 hx241_2 hx241_3 hx242_0 hx242_1 hx242_2 hx242_3 hx243_0 hx243_1 hx243_2 hx243_3 hx244_0 hx244_1 hx244_2 hx244_3 hHeld ⊢
                refine pv 0 133 (mk_ 1 36) HT_ rfl rfl ?_
                refine pv 1 134 (mk_ 2 35) HT_ rfl rfl ?_
                refine pv 2 135 (mk_ 3 34) HT_ rfl rfl ?_
                refine pv 3 136 (mk_ 4 33) HT_ rfl rfl ?_
                refine pv 5 138 (bm_ 37 47) HT_ rfl rfl ?_
                refine pv 6 139 (bm_ 37 111) HT_ rfl rfl ?_
                refine pv 7 140 (bm_ 37 239) HT_ rfl rfl ?_
                refine pv 8 141 (bm_ 37 495) HT_ rfl rfl ?_
                refine tv24 4 137 (mk_ 9 28) HT_ HW_ rfl rfl hHeld ?_
                refine tv24 9 142 (mk_ 10 27) HT_ HW_ rfl rfl hHeld ?_
                refine pv 10 143 (mk_ 11 26) HT_ rfl rfl ?_
                refine pv 11 144 (mk_ 12 25) HT_ rfl rfl ?_
                refine pv 12 145 (mk_ 13 24) HT_ rfl rfl ?_
                refine pv 13 146 (mk_ 14 23) HT_ rfl rfl ?_
                refine pv 14 147 (mk_ 15 22) HT_ rfl rfl ?_
                refine pv 15 148 (mk_ 16 21) HT_ rfl rfl ?_
                refine pv 17 150 (bm_ 37 196607) HT_ rfl rfl ?_
                refine pv 18 151 (bm_ 37 458751) HT_ rfl rfl ?_
                refine pv 19 152 (bm_ 37 983039) HT_ rfl rfl ?_
                refine pv 20 153 (bm_ 37 2031615) HT_ rfl rfl ?_
                refine tv24 16 149 (mk_ 21 16) HT_ HW_ rfl rfl hHeld ?_
                refine tv24 21 154 (mk_ 22 15) HT_ HW_ rfl rfl hHeld ?_
                refine pv 22 155 (mk_ 23 14) HT_ rfl rfl ?_
                refine pv 23 156 (mk_ 24 13) HT_ rfl rfl ?_
                refine pv 24 157 (mk_ 25 12) HT_ rfl rfl ?_
                refine pv 25 158 (mk_ 26 11) HT_ rfl rfl ?_
                refine pv 26 159 (mk_ 27 10) HT_ rfl rfl ?_
                refine pv 27 160 (mk_ 28 9) HT_ rfl rfl ?_
                refine pv 28 161 (mk_ 29 8) HT_ rfl rfl ?_
                refine pv 30 163 (bm_ 37 1610612735) HT_ rfl rfl ?_
                refine pv 31 164 (bm_ 37 3758096383) HT_ rfl rfl ?_
                refine pv 32 165 (bm_ 37 8053063679) HT_ rfl rfl ?_
                refine pv 33 166 (bm_ 37 16642998271) HT_ rfl rfl ?_
                refine tv24 29 162 (mk_ 34 3) HT_ HW_ rfl rfl hHeld ?_
                refine tv24 34 167 (mk_ 35 2) HT_ HW_ rfl rfl hHeld ?_
                refine pv 35 168 (mk_ 36 1) HT_ rfl rfl ?_
                refine pv 36 169 (mk_ 37 0) HT_ rfl rfl ?_
                refine done_ (done_of HT_.out (by kernel_rfl)) ?_
                try go_wp2
                go_ret
                exact ⟨gz, (bz0 HB.out)⟩
              ·rw [if_neg c109] at H
               have c109b0 : (((rd_T43 t235 x13_3).f1).toList == ((rd_T43 t221 x13_3).f1).toList) = false := beq_eq_false_iff_ne.mpr c109
               have c109b1 : (((rd_T43 t235 x13_3).f1).toList != ((rd_T43 t221 x13_3).f1).toList) = true := bne_iff_ne.mpr c109
               obtain rfl := Option.some.inj H
               obtain ⟨Ao115, co115, eo115⟩ := Kd.R_slice HO_11.out
               subst eo115
               try go_wp2
               have n0_ := Aside0.mk (Kd.R_drew HO_4.out)
               have n1_ := Aside0.mk (Kd.R_drew HO_11.out)
               have n2_ := Aside0.mk (below_drew1 HB.out)
               clear HO_4
               clear HO_11
               clear HB
               have HO_4 := n0_
               have HO_11 := n1_
               have HB := n2_
               clear n0_ n1_ n2_
               have p239 : 0 <= (x13_3 : Int) := oz
               have q239 : x13_3 < (t235.length : Int) := oz
               obtain ⟨ad239, e239, hx239_0, hx239_1, hx239_2, hx239_3⟩ := at_T43 (Kd.R_reads' HO_11.out).2.2 x13_3 p239 q239
               cases e239
               replace p239 := eq_true p239
               replace q239 := eq_true q239
               have p240 : 0 <= (x13_3 : Int) := oz
               have q240 : x13_3 < (t221.length : Int) := oz
               obtain ⟨ad240, e240, hx240_0, hx240_1, hx240_2, hx240_3⟩ := at_T43 (Kd.R_reads' HO_4.out).2.2 x13_3 p240 q240
               cases e240
               replace p240 := eq_true p240
               replace q240 := eq_true q240
               have p241 : 0 <= (x13_3 : Int) := oz
               have q241 : x13_3 < (t235.length : Int) := oz
               obtain ⟨ad241, e241, hx241_0, hx241_1, hx241_2, hx241_3⟩ := at_T43 (Kd.R_reads' HO_11.out).2.2 x13_3 p241 q241
               obtain rfl : ad239 = ad241 := (by injection e241)
               replace p241 := eq_true p241
               replace q241 := eq_true q241
               have p242 : 0 <= (x13_3 : Int) := oz
               have q242 : x13_3 < (t221.length : Int) := oz
               obtain ⟨ad242, e242, hx242_0, hx242_1, hx242_2, hx242_3⟩ := at_T43 (Kd.R_reads' HO_4.out).2.2 x13_3 p242 q242
               obtain rfl : ad240 = ad242 := (by injection e242)
               replace p242 := eq_true p242
               replace q242 := eq_true q242
               refine start_ (n := 37) (S := fun w' => w'.cell? (ad239.add ((x13_3).toNat * 4)) = some (.int .i64 ((rd_T43 t235 x13_3).f0)) /\ w'.cell? ⟨(ad239.add ((x13_3).toNat * 4)).block, (ad239.add ((x13_3).toNat * 4)).off + 1, none⟩ = some (.string ((rd_T43 t235 x13_3).f1)) /\ w'.cell? ⟨(ad239.add ((x13_3).toNat * 4)).block, (ad239.add ((x13_3).toNat * 4)).off + 2, none⟩ = some (.int .i64 ((rd_T43 t235 x13_3).f2)) /\ w'.cell? ⟨(ad239.add ((x13_3).toNat * 4)).block, (ad239.add ((x13_3).toNat * 4)).off + 3, none⟩ = some (.int .i64 ((rd_T43 t235 x13_3).f3)) /\ w'.cell? (ad240.add ((x13_3).toNat * 4)) = some (.int .i64 ((rd_T43 t221 x13_3).f0)) /\ w'.cell? ⟨(ad240.add ((x13_3).toNat * 4)).block, (ad240.add ((x13_3).toNat * 4)).off + 1, none⟩ = some (.string ((rd_T43 t221 x13_3).f1)) /\ w'.cell? ⟨(ad240.add ((x13_3).toNat * 4)).block, (ad240.add ((x13_3).toNat * 4)).off + 2, none⟩ = some (.int .i64 ((rd_T43 t221 x13_3).f2)) /\ w'.cell? ⟨(ad240.add ((x13_3).toNat * 4)).block, (ad240.add ((x13_3).toNat * 4)).off + 3, none⟩ = some (.int .i64 ((rd_T43 t221 x13_3).f3)) /\ w'.cell? (ad239.add ((x13_3).toNat * 4)) = some (.int .i64 ((rd_T43 t235 x13_3).f0)) /\ w'.cell? ⟨(ad239.add ((x13_3).toNat * 4)).block, (ad239.add ((x13_3).toNat * 4)).off + 1, none⟩ = some (.string ((rd_T43 t235 x13_3).f1)) /\ w'.cell? ⟨(ad239.add ((x13_3).toNat * 4)).block, (ad239.add ((x13_3).toNat * 4)).off + 2, none⟩ = some (.int .i64 ((rd_T43 t235 x13_3).f2)) /\ w'.cell? ⟨(ad239.add ((x13_3).toNat * 4)).block, (ad239.add ((x13_3).toNat * 4)).off + 3, none⟩ = some (.int .i64 ((rd_T43 t235 x13_3).f3)) /\ w'.cell? (ad240.add ((x13_3).toNat * 4)) = some (.int .i64 ((rd_T43 t221 x13_3).f0)) /\ w'.cell? ⟨(ad240.add ((x13_3).toNat * 4)).block, (ad240.add ((x13_3).toNat * 4)).off + 1, none⟩ = some (.string ((rd_T43 t221 x13_3).f1)) /\ w'.cell? ⟨(ad240.add ((x13_3).toNat * 4)).block, (ad240.add ((x13_3).toNat * 4)).off + 2, none⟩ = some (.int .i64 ((rd_T43 t221 x13_3).f2)) /\ w'.cell? ⟨(ad240.add ((x13_3).toNat * 4)).block, (ad240.add ((x13_3).toNat * 4)).off + 3, none⟩ = some (.int .i64 ((rd_T43 t221 x13_3).f3))) (ds := []) (mk_ 0 37) (by kernel_rfl) rfl rfl ⟨hx239_0, hx239_1, hx239_2, hx239_3, hx240_0, hx240_1, hx240_2, hx240_3, hx241_0, hx241_1, hx241_2, hx241_3, hx242_0, hx242_1, hx242_2, hx242_3⟩ (fun hHeld => ?_); refine with_tabW laws_FnLexed.tab24 laws_FnLexed.bits24 (fun HT_ HW_ => ?_)
               generalize wr.drew = w116 at HO_4 HO_11 HB hx239_0 hx239_1 hx239_2 hx239_3 hx240_0 hx240_1 hx240_2 hx240_3 hx241_0 hx241_1 hx241_2 hx241_3 hx242_0 hx242_1 hx242_2 hx242_3 hHeld ⊢
               refine pv 0 133 (mk_ 1 36) HT_ rfl rfl ?_
               refine pv 1 134 (mk_ 2 35) HT_ rfl rfl ?_
               refine pv 2 135 (mk_ 3 34) HT_ rfl rfl ?_
               refine pv 3 136 (mk_ 4 33) HT_ rfl rfl ?_
               refine pv 5 138 (bm_ 37 47) HT_ rfl rfl ?_
               refine pv 6 139 (bm_ 37 111) HT_ rfl rfl ?_
               refine pv 7 140 (bm_ 37 239) HT_ rfl rfl ?_
               refine pv 8 141 (bm_ 37 495) HT_ rfl rfl ?_
               refine tv16 4 137 (mk_ 9 28) HT_ HW_ rfl rfl hHeld ?_
               refine tv16 9 142 (mk_ 10 27) HT_ HW_ rfl rfl hHeld ?_
               refine pv 10 143 (mk_ 11 26) HT_ rfl rfl ?_
               refine pv 11 144 (mk_ 12 25) HT_ rfl rfl ?_
               refine pv 12 145 (mk_ 13 24) HT_ rfl rfl ?_
               refine pv 13 146 (mk_ 14 23) HT_ rfl rfl ?_
               refine pv 14 147 (mk_ 15 22) HT_ rfl rfl ?_
               refine pv 15 148 (mk_ 16 21) HT_ rfl rfl ?_
               refine pv 17 150 (bm_ 37 196607) HT_ rfl rfl ?_
               refine pv 18 151 (bm_ 37 458751) HT_ rfl rfl ?_
               refine pv 19 152 (bm_ 37 983039) HT_ rfl rfl ?_
               refine pv 20 153 (bm_ 37 2031615) HT_ rfl rfl ?_
               refine tv16 16 149 (mk_ 21 16) HT_ HW_ rfl rfl hHeld ?_
               refine tv16 21 154 (mk_ 22 15) HT_ HW_ rfl rfl hHeld ?_
               refine pv 22 155 (mk_ 23 14) HT_ rfl rfl ?_
               refine pv 23 156 (mk_ 24 13) HT_ rfl rfl ?_
               refine pv 24 157 (mk_ 25 12) HT_ rfl rfl ?_
               refine pu 25 158 (mk_ 26 11) HT_ rfl rfl ?_
               refine pu 26 159 (mk_ 27 10) HT_ rfl rfl ?_
               refine pu 27 160 (mk_ 28 9) HT_ rfl rfl ?_
               refine pu 28 161 (mk_ 29 8) HT_ rfl rfl ?_
               refine pu 29 162 (mk_ 30 7) HT_ rfl rfl ?_
               refine pu 30 163 (mk_ 31 6) HT_ rfl rfl ?_
               refine pu 31 164 (mk_ 32 5) HT_ rfl rfl ?_
               refine pu 32 165 (mk_ 33 4) HT_ rfl rfl ?_
               refine pu 33 166 (mk_ 34 3) HT_ rfl rfl ?_
               refine pu 34 167 (mk_ 35 2) HT_ rfl rfl ?_
               refine pu 35 168 (mk_ 36 1) HT_ rfl rfl ?_
               refine pv 36 169 (mk_ 37 0) HT_ rfl rfl ?_
               refine done_ (done_of HT_.out (by kernel_rfl)) ?_
               try go_wp2
               go_ret
               exact ⟨gz, (bz0 HB.out)⟩
             ·rw [if_neg c108] at H
              have c108b0 : (((rd_T43 t235 x13_3).f0) == ((rd_T43 t221 x13_3).f0)) = false := beq_eq_false_iff_ne.mpr c108
              have c108b1 : (((rd_T43 t235 x13_3).f0) != ((rd_T43 t221 x13_3).f0)) = true := bne_iff_ne.mpr c108
              obtain rfl := Option.some.inj H
              obtain ⟨Ao117, co117, eo117⟩ := Kd.R_slice HO_11.out
              subst eo117
              try go_wp2
              have n0_ := Aside0.mk (Kd.R_drew HO_4.out)
              have n1_ := Aside0.mk (Kd.R_drew HO_11.out)
              have n2_ := Aside0.mk (below_drew1 HB.out)
              clear HO_4
              clear HO_11
              clear HB
              have HO_4 := n0_
              have HO_11 := n1_
              have HB := n2_
              clear n0_ n1_ n2_
              have p239 : 0 <= (x13_3 : Int) := oz
              have q239 : x13_3 < (t235.length : Int) := oz
              obtain ⟨ad239, e239, hx239_0, hx239_1, hx239_2, hx239_3⟩ := at_T43 (Kd.R_reads' HO_11.out).2.2 x13_3 p239 q239
              cases e239
              replace p239 := eq_true p239
              replace q239 := eq_true q239
              have p240 : 0 <= (x13_3 : Int) := oz
              have q240 : x13_3 < (t221.length : Int) := oz
              obtain ⟨ad240, e240, hx240_0, hx240_1, hx240_2, hx240_3⟩ := at_T43 (Kd.R_reads' HO_4.out).2.2 x13_3 p240 q240
              cases e240
              replace p240 := eq_true p240
              replace q240 := eq_true q240
              refine start_ (n := 37) (S := fun w' => w'.cell? (ad239.add ((x13_3).toNat * 4)) = some (.int .i64 ((rd_T43 t235 x13_3).f0)) /\ w'.cell? ⟨(ad239.add ((x13_3).toNat * 4)).block, (ad239.add ((x13_3).toNat * 4)).off + 1, none⟩ = some (.string ((rd_T43 t235 x13_3).f1)) /\ w'.cell? ⟨(ad239.add ((x13_3).toNat * 4)).block, (ad239.add ((x13_3).toNat * 4)).off + 2, none⟩ = some (.int .i64 ((rd_T43 t235 x13_3).f2)) /\ w'.cell? ⟨(ad239.add ((x13_3).toNat * 4)).block, (ad239.add ((x13_3).toNat * 4)).off + 3, none⟩ = some (.int .i64 ((rd_T43 t235 x13_3).f3)) /\ w'.cell? (ad240.add ((x13_3).toNat * 4)) = some (.int .i64 ((rd_T43 t221 x13_3).f0)) /\ w'.cell? ⟨(ad240.add ((x13_3).toNat * 4)).block, (ad240.add ((x13_3).toNat * 4)).off + 1, none⟩ = some (.string ((rd_T43 t221 x13_3).f1)) /\ w'.cell? ⟨(ad240.add ((x13_3).toNat * 4)).block, (ad240.add ((x13_3).toNat * 4)).off + 2, none⟩ = some (.int .i64 ((rd_T43 t221 x13_3).f2)) /\ w'.cell? ⟨(ad240.add ((x13_3).toNat * 4)).block, (ad240.add ((x13_3).toNat * 4)).off + 3, none⟩ = some (.int .i64 ((rd_T43 t221 x13_3).f3))) (ds := []) (mk_ 0 37) (by kernel_rfl) rfl rfl ⟨hx239_0, hx239_1, hx239_2, hx239_3, hx240_0, hx240_1, hx240_2, hx240_3⟩ (fun hHeld => ?_); refine with_tabW laws_FnLexed.tab24 laws_FnLexed.bits24 (fun HT_ HW_ => ?_)
              generalize wr.drew = w118 at HO_4 HO_11 HB hx239_0 hx239_1 hx239_2 hx239_3 hx240_0 hx240_1 hx240_2 hx240_3 hHeld ⊢
              refine pv 0 133 (mk_ 1 36) HT_ rfl rfl ?_
              refine pv 1 134 (mk_ 2 35) HT_ rfl rfl ?_
              refine pv 2 135 (mk_ 3 34) HT_ rfl rfl ?_
              refine pv 3 136 (mk_ 4 33) HT_ rfl rfl ?_
              refine pv 5 138 (bm_ 37 47) HT_ rfl rfl ?_
              refine pv 6 139 (bm_ 37 111) HT_ rfl rfl ?_
              refine pv 7 140 (bm_ 37 239) HT_ rfl rfl ?_
              refine pv 8 141 (bm_ 37 495) HT_ rfl rfl ?_
              refine tv8 4 137 (mk_ 9 28) HT_ HW_ rfl rfl hHeld ?_
              refine tv8 9 142 (mk_ 10 27) HT_ HW_ rfl rfl hHeld ?_
              refine pv 10 143 (mk_ 11 26) HT_ rfl rfl ?_
              refine pv 11 144 (mk_ 12 25) HT_ rfl rfl ?_
              refine pu 12 145 (mk_ 13 24) HT_ rfl rfl ?_
              refine pu 13 146 (mk_ 14 23) HT_ rfl rfl ?_
              refine pu 14 147 (mk_ 15 22) HT_ rfl rfl ?_
              refine pu 15 148 (mk_ 16 21) HT_ rfl rfl ?_
              refine pu 16 149 (mk_ 17 20) HT_ rfl rfl ?_
              refine pu 17 150 (mk_ 18 19) HT_ rfl rfl ?_
              refine pu 18 151 (mk_ 19 18) HT_ rfl rfl ?_
              refine pu 19 152 (mk_ 20 17) HT_ rfl rfl ?_
              refine pu 20 153 (mk_ 21 16) HT_ rfl rfl ?_
              refine pu 21 154 (mk_ 22 15) HT_ rfl rfl ?_
              refine pu 22 155 (mk_ 23 14) HT_ rfl rfl ?_
              refine pv 23 156 (mk_ 24 13) HT_ rfl rfl ?_
              refine pv 24 157 (mk_ 25 12) HT_ rfl rfl ?_
              refine pu 25 158 (mk_ 26 11) HT_ rfl rfl ?_
              refine pu 26 159 (mk_ 27 10) HT_ rfl rfl ?_
              refine pu 27 160 (mk_ 28 9) HT_ rfl rfl ?_
              refine pu 28 161 (mk_ 29 8) HT_ rfl rfl ?_
              refine pu 29 162 (mk_ 30 7) HT_ rfl rfl ?_
              refine pu 30 163 (mk_ 31 6) HT_ rfl rfl ?_
              refine pu 31 164 (mk_ 32 5) HT_ rfl rfl ?_
              refine pu 32 165 (mk_ 33 4) HT_ rfl rfl ?_
              refine pu 33 166 (mk_ 34 3) HT_ rfl rfl ?_
              refine pu 34 167 (mk_ 35 2) HT_ rfl rfl ?_
              refine pu 35 168 (mk_ 36 1) HT_ rfl rfl ?_
              refine pv 36 169 (mk_ 37 0) HT_ rfl rfl ?_
              refine done_ (done_of HT_.out (by kernel_rfl)) ?_
              try go_wp2
              go_ret
              exact ⟨gz, (bz0 HB.out)⟩
            ·rw [if_neg c105] at H
             have c105b0 := decide_eq_false c105
             clear c105
             obtain rfl := Option.some.inj H
             obtain ⟨Ao119, co119, eo119⟩ := Kd.R_slice HO_11.out
             subst eo119
             go_wp2
             go_ret
             exact ⟨gz, (bz0 HB.out)⟩
  ·rw [if_neg c7] at H
   have c7b0 : (t222 == t226) = false := beq_eq_false_iff_ne.mpr c7
   have c7b1 : (t222 != t226) = true := bne_iff_ne.mpr c7
   obtain rfl := Option.some.inj H
   go_enter Tryd.func6, Tryd.ntmps6
   go_wp2_with (first | ((with_reducible refine gate_callee (f := 9) rfl ?_); refine goesL_ (some 15) rfl rfl Tryd.func9 (by kernel_rfl) rfl #[.slice A0 l0.length c0] rfl lz ?_; (with_reducible refine (laws_big.calls _ _ l0 false _ ?side1 ?side2 A2.out).mono ?_); (case side1 => repeat (first | exact HR0.out | (with_reducible refine Kd.C_alloc ?_ _) | (with_reducible refine Kd.C_drewN ?_ _) | (with_reducible refine Kd.C_drew ?_))); (case side2 => exact HC0.out); rintro e w' ⟨rfl, ⟨nd, rfl⟩⟩; refine ⟨_, rfl, ?_⟩) | ((with_reducible refine gate_callee (f := 25) rfl ?_); refine goesL_ (some 17) rfl rfl Tryd.func25 (by kernel_rfl) rfl #[.slice A0 l0.length c0] rfl lz ?_; (with_reducible refine (spec_DrawLex.calls k _ _ l0 t220 _ ?side1 ?side2 A4.out).mono ?_); (case side1 => repeat (first | exact HR0.out | (with_reducible refine Kd.C_alloc ?_ _) | (with_reducible refine Kd.C_drewN ?_ _) | (with_reducible refine Kd.C_drew ?_))); (case side2 => exact HC0.out); rintro e w120 ⟨rfl, hb⟩; refine ⟨_, rfl, ?_⟩; replace HB := Aside0.mk (below_step (bz0 HB.out) hb); (try clear hb); (try clear hi)) | ((with_reducible refine gate_callee (f := 21) rfl ?_); refine goesL_ (some 20) rfl rfl Tryd.func21 (by kernel_rfl) rfl #[.string t220] rfl lz ?_; (with_reducible refine (impl_Lex.calls k t220 t221 t222 _ A5.out ?hT_).mono ?_); (case hT_ => exact PW.below hT_ (bz0 HB.out)); rintro e w121 ⟨v223, rfl, ho0, hb⟩; refine ⟨_, rfl, ?_⟩; have HO224 := Aside0.mk (Kd.R_lower ho0 (below_size (bz0 HB.out))); replace HB := Aside0.mk (below_step (bz0 HB.out) hb); (try clear hb); (try clear ho0)) | ((with_reducible refine gate_callee (f := 20) rfl ?_); refine goesL_ (some 25) rfl rfl Tryd.func20 (by kernel_rfl) rfl #[.string t220] rfl lz ?_; (with_reducible refine (spec_Lex.calls k t220 t225 t226 _ A6.out).mono ?_); rintro e w122 ⟨v227, rfl, ho0, hb⟩; refine ⟨_, rfl, ?_⟩; have HO228 := Aside0.mk (Kd.R_lower (Kd.R_new' ho0 (Kd.R_lt (rz HO224.out))) (below_size (bz0 HB.out))); replace HO224 := Aside0.mk (Kd.R_elder' (rz HO224.out) (Kd.R_base ho0) hb); replace HB := Aside0.mk (below_step (bz0 HB.out) hb); (try clear hb); (try clear ho0)))
   go_ret
   exact ⟨gz, (bz0 HB.out)⟩
def laws_FnLexed.Pure : Prop := ∀ (l0 : List Int), l0.length <= maxLen -> l0.length * 1 <= 140737488351232 -> (∀ x ∈ l0, (Lit.int .u8 x).wf = true) -> ∃ k, laws_FnLexed.f k l0 = some true
end Go.Proofs.YtdjamdnjkdllgaaDoor.PFnLexed
