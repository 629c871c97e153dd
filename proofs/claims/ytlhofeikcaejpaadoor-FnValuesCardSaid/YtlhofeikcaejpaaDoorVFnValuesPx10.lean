/- PFnValuesx10, of the words and walks that the law FnValues needs; made by this session's program out of printed texts. -/

import Derived.Test.YtlhofeikcaejpaaDoorVFnValuesPx0
import Derived.Test.YtlhofeikcaejpaaDoorVFnValuesPx1
import Derived.Test.YtlhofeikcaejpaaDoorVFnValuesPx2
import Derived.Test.YtlhofeikcaejpaaDoorVFnValuesPx4
import Derived.Test.YtlhofeikcaejpaaDoorVFnValuesPx6
import Derived.Test.YtlhofeikcaejpaaDoorVFnValuesPx7
import Derived.Test.YtlhofeikcaejpaaDoorVFnValuesPx8
import Derived.Test.YtlhofeikcaejpaaDoorVFnValuesPx9
namespace Go.Proofs.YtlhofeikcaejpaaDoor.PFnValues
open Go.RowKit Go.Proofs.YtlhofeikcaejpaaDoorW.PrintWords Go.Proofs.YtlhofeikcaejpaaDoorW.PrintLast Go.Proofs.YtlhofeikcaejpaaDoorW.PrintMore
attribute [local go_sem] max2_int min2_int max_two min_two max_three min_three max_four min_four
set_option linter.unusedVariables false
set_option linter.unusedSimpArgs false
attribute [local go_sem high] eqA35
mutual
def laws_FnValues.j0 : Nat -> List Int -> Int -> Bool -> Bool -> List (S41) -> List (S86) -> List (S47) -> List (S35) -> Int -> Int -> Int -> Int -> Option (Bool)
 | 0, _, _, _, _, _, _, _, _, _, _, _, _ => none
 | k + 1, x0, x4, x7, x50, x389000, x389001, x389002, x389003, x390000, x390001, x394000, x394001 => if x50 = true then (some false) else ((spec_HeapOk.f k x389000 x389001 x389002 x389003).bind fun t399 => (if t399 = true then (if x4 ≥ 0 then (laws_FnValues.j1 k x0 x4 x7 (decide (x4 < (x389000.length : Int))) x389000 x389001 x389002 x389003 x390000 x390001 x394000 x394001) else (laws_FnValues.j1 k x0 x4 x7 false x389000 x389001 x389002 x389003 x390000 x390001 x394000 x394001)) else (laws_FnValues.j1 k x0 x4 x7 false x389000 x389001 x389002 x389003 x390000 x390001 x394000 x394001)))
def laws_FnValues.j1 : Nat -> List Int -> Int -> Bool -> Bool -> List (S41) -> List (S86) -> List (S47) -> List (S35) -> Int -> Int -> Int -> Int -> Option (Bool)
 | 0, _, _, _, _, _, _, _, _, _, _, _, _ => none
 | k + 1, x0, x4, x7, x63, x389000, x389001, x389002, x389003, x390000, x390001, x394000, x394001 => if x63 = true then (if 0 <= x4 then (if x4 < (x389000.length : Int) then (if ((rd_T41 x389000 x4).f0) = x390000 then (if ((rd_T41 x389000 x4).f1) = x390001 then (if x7 = true then (laws_FnValues.j2 k x0 x7 (!(x394000 == ((rd_T41 x389000 x4).f2.f0)) || (!(x394001 == ((rd_T41 x389000 x4).f2.f1)))) x389000 x389001 x389002 x389003 x390000 x390001 x394000 x394001 ((rd_T41 x389000 x4).f0) ((rd_T41 x389000 x4).f1) ((rd_T41 x389000 x4).f2.f0) ((rd_T41 x389000 x4).f2.f1) ((rd_T41 x389000 x4).f3)) else (laws_FnValues.j2 k x0 x7 true x389000 x389001 x389002 x389003 x390000 x390001 x394000 x394001 ((rd_T41 x389000 x4).f0) ((rd_T41 x389000 x4).f1) ((rd_T41 x389000 x4).f2.f0) ((rd_T41 x389000 x4).f2.f1) ((rd_T41 x389000 x4).f3))) else (laws_FnValues.j2 k x0 x7 false x389000 x389001 x389002 x389003 x390000 x390001 x394000 x394001 ((rd_T41 x389000 x4).f0) ((rd_T41 x389000 x4).f1) ((rd_T41 x389000 x4).f2.f0) ((rd_T41 x389000 x4).f2.f1) ((rd_T41 x389000 x4).f3))) else (laws_FnValues.j2 k x0 x7 false x389000 x389001 x389002 x389003 x390000 x390001 x394000 x394001 ((rd_T41 x389000 x4).f0) ((rd_T41 x389000 x4).f1) ((rd_T41 x389000 x4).f2.f0) ((rd_T41 x389000 x4).f2.f1) ((rd_T41 x389000 x4).f3))) else (none)) else (none)) else (laws_FnValues.j3 k x0)
def laws_FnValues.j3 : Nat -> List Int -> Option (Bool)
 | 0, _ => none
 | k + 1, x0 => (spec_DrawShowVal.f k x0).bind fun bt406 => ((impl_ShowVal.f k bt406.1 bt406.2.1 bt406.2.2.1 bt406.2.2.2.1 bt406.2.2.2.2.1 bt406.2.2.2.2.2.1 bt406.2.2.2.2.2.2).bind fun t423 => ((spec_HeapOk.f k bt406.1 bt406.2.1 bt406.2.2.1 bt406.2.2.2.1).bind fun t424 => (if t424 = true then ((spec_ValOk.f k bt406.1 bt406.2.1 bt406.2.2.1 bt406.2.2.2.1 bt406.2.2.2.2.1 bt406.2.2.2.2.2.1).bind fun t425 => (if t425 = true then (if bt406.2.2.2.2.2.2 < 0 then (laws_FnValues.j4 k bt406.2.2.2.2.2.2 t423 true bt406.1 bt406.2.1 bt406.2.2.1 bt406.2.2.2.1 bt406.2.2.2.2.1 bt406.2.2.2.2.2.1) else (laws_FnValues.j4 k bt406.2.2.2.2.2.2 t423 (decide (bt406.2.2.2.2.2.2 > 8)) bt406.1 bt406.2.1 bt406.2.2.1 bt406.2.2.2.1 bt406.2.2.2.2.1 bt406.2.2.2.2.2.1)) else (laws_FnValues.j4 k bt406.2.2.2.2.2.2 t423 true bt406.1 bt406.2.1 bt406.2.2.1 bt406.2.2.2.1 bt406.2.2.2.2.1 bt406.2.2.2.2.2.1))) else (laws_FnValues.j4 k bt406.2.2.2.2.2.2 t423 true bt406.1 bt406.2.1 bt406.2.2.1 bt406.2.2.2.1 bt406.2.2.2.2.1 bt406.2.2.2.2.2.1))))
def laws_FnValues.j4 : Nat -> Int -> ByteArray -> Bool -> List (S41) -> List (S86) -> List (S47) -> List (S35) -> Int -> Int -> Option (Bool)
 | 0, _, _, _, _, _, _, _, _, _ => none
 | k + 1, x15, x16, x147, x422000, x422001, x422002, x422003, x423000, x423001 => if x147 = true then (some (x16.toList == ([] : List UInt8))) else (if x423000 = 0 then ((impl_Dec.f x423001).bind fun t426 => (some (x16.toList == t426.toList))) else (if x423000 = 3 then (laws_FnValues.j5 k x15 x16 (x423000 == 3) x422000 x422001 x422002 x422003 x423000 x423001) else (laws_FnValues.j5 k x15 x16 (x423000 == 4) x422000 x422001 x422002 x422003 x423000 x423001)))
def laws_FnValues.j5 : Nat -> Int -> ByteArray -> Bool -> List (S41) -> List (S86) -> List (S47) -> List (S35) -> Int -> Int -> Option (Bool)
 | 0, _, _, _, _, _, _, _, _, _ => none
 | k + 1, x15, x16, x159, x422000, x422001, x422002, x422003, x423000, x423001 => if x159 = true then (if x15 = 0 then (some (x16.toList == ([95] : List UInt8))) else ((laws_map2.f x423000).bind fun t427 => (if 0 <= x423001 then (if x423001 < (x422002.length : Int) then ((impl_ShowVal.f k x422000 x422001 x422002 x422003 ((rd_T47 x422002 x423001).f0.f0) ((rd_T47 x422002 x423001).f0.f1) (wrap64 (x15 - 1))).bind fun t429 => (if t427.size + t429.size <= 9223372036854775807 then (if (t427 ++ t429).size + 1 <= 9223372036854775807 then ((impl_ShowVal.f k x422000 x422001 x422002 x422003 ((rd_T47 x422002 x423001).f1.f0) ((rd_T47 x422002 x423001).f1.f1) (wrap64 (x15 - 1))).bind fun t431 => (if ((t427 ++ t429) ++ (⟨#[32]⟩ : ByteArray)).size + t431.size <= 9223372036854775807 then (if (((t427 ++ t429) ++ (⟨#[32]⟩ : ByteArray)) ++ t431).size + 1 <= 9223372036854775807 then (some (x16.toList == ((((t427 ++ t429) ++ (⟨#[32]⟩ : ByteArray)) ++ t431) ++ (⟨#[41]⟩ : ByteArray)).toList)) else (none)) else (none))) else (none)) else (none))) else (none)) else (none)))) else (if x16.toList = ([102, 117, 110] : List UInt8) then (some true) else (if x16.toList = ([110, 105, 108] : List UInt8) then (some true) else (some (x16.toList == ([114, 101, 102] : List UInt8)))))
def laws_FnValues.j2 : Nat -> List Int -> Bool -> Bool -> List (S41) -> List (S86) -> List (S47) -> List (S35) -> Int -> Int -> Int -> Int -> Int -> Int -> Int -> Int -> Int -> Option (Bool)
 | 0, _, _, _, _, _, _, _, _, _, _, _, _, _, _, _, _ => none
 | k + 1, x0, x7, x90, x389000, x389001, x389002, x389003, x390000, x390001, x394000, x394001, x402000, x402001, x402002, x402003, x402004 => if x90 = true then (some false) else ((impl_LookUp.f k x389000 x389001 x389002 x389003 x402004 x390000 x390001).bind fun bt402 => (if x402000 = x390000 then (if x402001 = x390001 then (laws_FnValues.j3 k x0) else (if (bt402.2.2 != x7) = true then (some false) else (if (!(bt402.1 == x394000) || (!(bt402.2.1 == x394001))) = true then (some false) else (laws_FnValues.j3 k x0)))) else (if (bt402.2.2 != x7) = true then (some false) else (if (!(bt402.1 == x394000) || (!(bt402.2.1 == x394001))) = true then (some false) else (laws_FnValues.j3 k x0)))))
end
def laws_FnValues.f (k : Nat) (l0 : List Int) : Option (Bool) := (laws_big.f l0).bind fun t372 => (if t372 = true then (some true) else ((spec_DrawLookUp.f k l0).bind fun bt373 => ((impl_LookUp.f k bt373.1 bt373.2.1 bt373.2.2.1 bt373.2.2.2.1 bt373.2.2.2.2.1 bt373.2.2.2.2.2.1 bt373.2.2.2.2.2.2).bind fun bt390 => ((spec_LookUp.f k bt373.1 bt373.2.1 bt373.2.2.1 bt373.2.2.2.1 bt373.2.2.2.2.1 bt373.2.2.2.2.2.1 bt373.2.2.2.2.2.2).bind fun bt394 => (if (bt390.2.2 != bt394.2.2) = true then (laws_FnValues.j0 k l0 bt373.2.2.2.2.1 bt390.2.2 true bt373.1 bt373.2.1 bt373.2.2.1 bt373.2.2.2.1 bt373.2.2.2.2.2.1 bt373.2.2.2.2.2.2 bt390.1 bt390.2.1) else (if bt390.2.2 = true then ((impl_ValOk.f k bt373.1 bt373.2.1 bt373.2.2.1 bt373.2.2.2.1 bt390.1 bt390.2.1).bind fun t398 => (laws_FnValues.j0 k l0 bt373.2.2.2.2.1 bt390.2.2 (!t398) bt373.1 bt373.2.1 bt373.2.2.1 bt373.2.2.2.1 bt373.2.2.2.2.2.1 bt373.2.2.2.2.2.2 bt390.1 bt390.2.1)) else (laws_FnValues.j0 k l0 bt373.2.2.2.2.1 bt390.2.2 false bt373.1 bt373.2.1 bt373.2.2.1 bt373.2.2.2.1 bt373.2.2.2.2.2.1 bt373.2.2.2.2.2.2 bt390.1 bt390.2.1)))))))
theorem laws_FnValues.mono_l : ∀ k, (∀ y0 y1 y2 y3 y4 y5 y6 y7 y8 y9 y10 y11, LeO (laws_FnValues.j0 k y0 y1 y2 y3 y4 y5 y6 y7 y8 y9 y10 y11) (laws_FnValues.j0 (k + 1) y0 y1 y2 y3 y4 y5 y6 y7 y8 y9 y10 y11)) /\ (∀ y0 y1 y2 y3 y4 y5 y6 y7 y8 y9 y10 y11, LeO (laws_FnValues.j1 k y0 y1 y2 y3 y4 y5 y6 y7 y8 y9 y10 y11) (laws_FnValues.j1 (k + 1) y0 y1 y2 y3 y4 y5 y6 y7 y8 y9 y10 y11)) /\ (∀ y0, LeO (laws_FnValues.j3 k y0) (laws_FnValues.j3 (k + 1) y0)) /\ (∀ y0 y1 y2 y3 y4 y5 y6 y7 y8, LeO (laws_FnValues.j4 k y0 y1 y2 y3 y4 y5 y6 y7 y8) (laws_FnValues.j4 (k + 1) y0 y1 y2 y3 y4 y5 y6 y7 y8)) /\ (∀ y0 y1 y2 y3 y4 y5 y6 y7 y8, LeO (laws_FnValues.j5 k y0 y1 y2 y3 y4 y5 y6 y7 y8) (laws_FnValues.j5 (k + 1) y0 y1 y2 y3 y4 y5 y6 y7 y8)) /\ (∀ y0 y1 y2 y3 y4 y5 y6 y7 y8 y9 y10 y11 y12 y13 y14 y15, LeO (laws_FnValues.j2 k y0 y1 y2 y3 y4 y5 y6 y7 y8 y9 y10 y11 y12 y13 y14 y15) (laws_FnValues.j2 (k + 1) y0 y1 y2 y3 y4 y5 y6 y7 y8 y9 y10 y11 y12 y13 y14 y15))
 | 0 => ⟨fun _ _ _ _ _ _ _ _ _ _ _ _ r h => by simp [laws_FnValues.j0] at h, fun _ _ _ _ _ _ _ _ _ _ _ _ r h => by simp [laws_FnValues.j1] at h, fun _ r h => by simp [laws_FnValues.j3] at h, fun _ _ _ _ _ _ _ _ _ r h => by simp [laws_FnValues.j4] at h, fun _ _ _ _ _ _ _ _ _ r h => by simp [laws_FnValues.j5] at h, fun _ _ _ _ _ _ _ _ _ _ _ _ _ _ _ _ r h => by simp [laws_FnValues.j2] at h⟩
 | k + 1 => by
  obtain ⟨ih0, ih1, ih2, ih3, ih4, ih5⟩ := laws_FnValues.mono_l k
  refine ⟨?_, ?_, ?_, ?_, ?_, ?_⟩
  ·intro y0 y1 y2 y3 y4 y5 y6 y7 y8 y9 y10 y11
   unfold laws_FnValues.j0
   with_reducible repeat' first | exact ih0 _ _ _ _ _ _ _ _ _ _ _ _ | exact ih1 _ _ _ _ _ _ _ _ _ _ _ _ | exact ih2 _ | exact ih3 _ _ _ _ _ _ _ _ _ | exact ih4 _ _ _ _ _ _ _ _ _ | exact ih5 _ _ _ _ _ _ _ _ _ _ _ _ _ _ _ _ | exact impl_LookUp.mono _ _ _ _ _ _ _ _ | exact impl_ShowVal.mono _ _ _ _ _ _ _ _ | exact impl_ValOk.mono _ _ _ _ _ _ _ | exact spec_DrawLookUp.mono _ _ | exact spec_DrawShowVal.mono _ _ | exact spec_HeapOk.mono _ _ _ _ _ | exact spec_LookUp.mono _ _ _ _ _ _ _ _ | exact spec_ValOk.mono _ _ _ _ _ _ _ | exact lrz _ | exact lnz _ | refine liz ?_ ?_ | refine lbz ?_ fun _ => ?_
  ·intro y0 y1 y2 y3 y4 y5 y6 y7 y8 y9 y10 y11
   unfold laws_FnValues.j1
   with_reducible repeat' first | exact ih0 _ _ _ _ _ _ _ _ _ _ _ _ | exact ih1 _ _ _ _ _ _ _ _ _ _ _ _ | exact ih2 _ | exact ih3 _ _ _ _ _ _ _ _ _ | exact ih4 _ _ _ _ _ _ _ _ _ | exact ih5 _ _ _ _ _ _ _ _ _ _ _ _ _ _ _ _ | exact impl_LookUp.mono _ _ _ _ _ _ _ _ | exact impl_ShowVal.mono _ _ _ _ _ _ _ _ | exact impl_ValOk.mono _ _ _ _ _ _ _ | exact spec_DrawLookUp.mono _ _ | exact spec_DrawShowVal.mono _ _ | exact spec_HeapOk.mono _ _ _ _ _ | exact spec_LookUp.mono _ _ _ _ _ _ _ _ | exact spec_ValOk.mono _ _ _ _ _ _ _ | exact lrz _ | exact lnz _ | refine liz ?_ ?_ | refine lbz ?_ fun _ => ?_
  ·intro y0
   unfold laws_FnValues.j3
   with_reducible repeat' first | exact ih0 _ _ _ _ _ _ _ _ _ _ _ _ | exact ih1 _ _ _ _ _ _ _ _ _ _ _ _ | exact ih2 _ | exact ih3 _ _ _ _ _ _ _ _ _ | exact ih4 _ _ _ _ _ _ _ _ _ | exact ih5 _ _ _ _ _ _ _ _ _ _ _ _ _ _ _ _ | exact impl_LookUp.mono _ _ _ _ _ _ _ _ | exact impl_ShowVal.mono _ _ _ _ _ _ _ _ | exact impl_ValOk.mono _ _ _ _ _ _ _ | exact spec_DrawLookUp.mono _ _ | exact spec_DrawShowVal.mono _ _ | exact spec_HeapOk.mono _ _ _ _ _ | exact spec_LookUp.mono _ _ _ _ _ _ _ _ | exact spec_ValOk.mono _ _ _ _ _ _ _ | exact lrz _ | exact lnz _ | refine liz ?_ ?_ | refine lbz ?_ fun _ => ?_
  ·intro y0 y1 y2 y3 y4 y5 y6 y7 y8
   unfold laws_FnValues.j4
   with_reducible repeat' first | exact ih0 _ _ _ _ _ _ _ _ _ _ _ _ | exact ih1 _ _ _ _ _ _ _ _ _ _ _ _ | exact ih2 _ | exact ih3 _ _ _ _ _ _ _ _ _ | exact ih4 _ _ _ _ _ _ _ _ _ | exact ih5 _ _ _ _ _ _ _ _ _ _ _ _ _ _ _ _ | exact impl_LookUp.mono _ _ _ _ _ _ _ _ | exact impl_ShowVal.mono _ _ _ _ _ _ _ _ | exact impl_ValOk.mono _ _ _ _ _ _ _ | exact spec_DrawLookUp.mono _ _ | exact spec_DrawShowVal.mono _ _ | exact spec_HeapOk.mono _ _ _ _ _ | exact spec_LookUp.mono _ _ _ _ _ _ _ _ | exact spec_ValOk.mono _ _ _ _ _ _ _ | exact lrz _ | exact lnz _ | refine liz ?_ ?_ | refine lbz ?_ fun _ => ?_
  ·intro y0 y1 y2 y3 y4 y5 y6 y7 y8
   unfold laws_FnValues.j5
   with_reducible repeat' first | exact ih0 _ _ _ _ _ _ _ _ _ _ _ _ | exact ih1 _ _ _ _ _ _ _ _ _ _ _ _ | exact ih2 _ | exact ih3 _ _ _ _ _ _ _ _ _ | exact ih4 _ _ _ _ _ _ _ _ _ | exact ih5 _ _ _ _ _ _ _ _ _ _ _ _ _ _ _ _ | exact impl_LookUp.mono _ _ _ _ _ _ _ _ | exact impl_ShowVal.mono _ _ _ _ _ _ _ _ | exact impl_ValOk.mono _ _ _ _ _ _ _ | exact spec_DrawLookUp.mono _ _ | exact spec_DrawShowVal.mono _ _ | exact spec_HeapOk.mono _ _ _ _ _ | exact spec_LookUp.mono _ _ _ _ _ _ _ _ | exact spec_ValOk.mono _ _ _ _ _ _ _ | exact lrz _ | exact lnz _ | refine liz ?_ ?_ | refine lbz ?_ fun _ => ?_
  ·intro y0 y1 y2 y3 y4 y5 y6 y7 y8 y9 y10 y11 y12 y13 y14 y15
   unfold laws_FnValues.j2
   with_reducible repeat' first | exact ih0 _ _ _ _ _ _ _ _ _ _ _ _ | exact ih1 _ _ _ _ _ _ _ _ _ _ _ _ | exact ih2 _ | exact ih3 _ _ _ _ _ _ _ _ _ | exact ih4 _ _ _ _ _ _ _ _ _ | exact ih5 _ _ _ _ _ _ _ _ _ _ _ _ _ _ _ _ | exact impl_LookUp.mono _ _ _ _ _ _ _ _ | exact impl_ShowVal.mono _ _ _ _ _ _ _ _ | exact impl_ValOk.mono _ _ _ _ _ _ _ | exact spec_DrawLookUp.mono _ _ | exact spec_DrawShowVal.mono _ _ | exact spec_HeapOk.mono _ _ _ _ _ | exact spec_LookUp.mono _ _ _ _ _ _ _ _ | exact spec_ValOk.mono _ _ _ _ _ _ _ | exact lrz _ | exact lnz _ | refine liz ?_ ?_ | refine lbz ?_ fun _ => ?_
theorem laws_FnValues.mono : ∀ a0 k, LeO (laws_FnValues.f k a0) (laws_FnValues.f (k + 1) a0) := by
 intro a0 k
 obtain ⟨ih0, ih1, ih2, ih3, ih4, ih5⟩ := laws_FnValues.mono_l k
 unfold laws_FnValues.f
 with_reducible repeat' first | exact ih0 _ _ _ _ _ _ _ _ _ _ _ _ | exact ih1 _ _ _ _ _ _ _ _ _ _ _ _ | exact ih2 _ | exact ih3 _ _ _ _ _ _ _ _ _ | exact ih4 _ _ _ _ _ _ _ _ _ | exact ih5 _ _ _ _ _ _ _ _ _ _ _ _ _ _ _ _ | exact impl_LookUp.mono _ _ _ _ _ _ _ _ | exact impl_ShowVal.mono _ _ _ _ _ _ _ _ | exact impl_ValOk.mono _ _ _ _ _ _ _ | exact spec_DrawLookUp.mono _ _ | exact spec_DrawShowVal.mono _ _ | exact spec_HeapOk.mono _ _ _ _ _ | exact spec_LookUp.mono _ _ _ _ _ _ _ _ | exact spec_ValOk.mono _ _ _ _ _ _ _ | exact lrz _ | exact lnz _ | refine liz ?_ ?_ | refine lbz ?_ fun _ => ?_
def laws_FnValues.T26 : Bool × List (List Nat × List Nat) := (true, [([], []), ([], []), ([1], [1]), ([2], [2]), ([], []), ([], []), ([5], [5]), ([], []), ([7], [7]), ([6, 8], [6, 8]), ([9], [9]), ([10], [10]), ([], []), ([12], [12]), ([4, 11, 13, 3], [4, 11, 13]), ([3, 14], [3, 14]), ([15], [15]), ([], []), ([], []), ([18], [18]), ([], []), ([20], [20]), ([19, 21], [19, 21]), ([22], [22]), ([23], [23]), ([], []), ([25], [25]), ([17, 24, 26, 14], [17, 24, 26]), ([16, 27], [16, 27]), ([28], [28]), ([0, 29], [0, 29]), ([30, 27, 0, 1, 2, 3, 4, 5, 6, 7, 8, 9, 10, 11, 12, 13, 14, 15, 16, 17, 18, 19, 20, 21, 22, 23, 24, 25, 26, 27, 28, 29, 30], [30])])
def laws_FnValues.B26 : List Nat := [0, 0, 2, 6, 0, 0, 32, 0, 128, 480, 992, 2016, 0, 4096, 16382, 32766, 65534, 0, 0, 262144, 0, 1048576, 3932160, 8126464, 16515072, 0, 33554432, 134119422, 268435454, 536870910, 1073741823, 2147483647]
theorem laws_FnValues.tab26 : rtab .any (opsOf Tryd.f3 26) = laws_FnValues.T26 := by kernel_rfl
theorem laws_FnValues.bits26 : waitsOk laws_FnValues.T26.2 laws_FnValues.B26 = true := by kernel_rfl
set_option maxHeartbeats 80000000 in
set_option maxRecDepth 100000 in
theorem laws_FnValues.calls (k : Nat) (A0 : Option Addr) (c0 : Nat) (l0 : List Int) (r : Bool) (w : World) (hr0 : Kd.C (Kd.int .u8) w A0 l0.length l0) (hc0 : l0.length <= c0) (h : laws_FnValues.f k l0 = some r) (hT_ : PW w) :
  Calls Tryd.prog 3 #[.slice A0 l0.length c0] w fun e w' => e = .returned (.bool r) /\ Below w.heap.size w w' := by
 have hu29 := Tryd.underlying29
 have hu31 := Tryd.underlying31
 have hu35 := Tryd.underlying35
 have hu41 := Tryd.underlying41
 have HR0 := Aside0.mk hr0
 have HC0 := Aside0.mk hc0
 clear hr0 hc0
 have HB := Aside0.mk (Below.refl w.heap.size w)
 have H : ((laws_big.f l0).bind fun t372 => (if t372 = true then (some true) else ((spec_DrawLookUp.f k l0).bind fun bt373 => ((impl_LookUp.f k bt373.1 bt373.2.1 bt373.2.2.1 bt373.2.2.2.1 bt373.2.2.2.2.1 bt373.2.2.2.2.2.1 bt373.2.2.2.2.2.2).bind fun bt390 => ((spec_LookUp.f k bt373.1 bt373.2.1 bt373.2.2.1 bt373.2.2.2.1 bt373.2.2.2.2.1 bt373.2.2.2.2.2.1 bt373.2.2.2.2.2.2).bind fun bt394 => (if (bt390.2.2 != bt394.2.2) = true then (laws_FnValues.j0 k l0 bt373.2.2.2.2.1 bt390.2.2 true bt373.1 bt373.2.1 bt373.2.2.1 bt373.2.2.2.1 bt373.2.2.2.2.2.1 bt373.2.2.2.2.2.2 bt390.1 bt390.2.1) else (if bt390.2.2 = true then ((impl_ValOk.f k bt373.1 bt373.2.1 bt373.2.2.1 bt373.2.2.2.1 bt390.1 bt390.2.1).bind fun t398 => (laws_FnValues.j0 k l0 bt373.2.2.2.2.1 bt390.2.2 (!t398) bt373.1 bt373.2.1 bt373.2.2.1 bt373.2.2.2.1 bt373.2.2.2.2.2.1 bt373.2.2.2.2.2.2 bt390.1 bt390.2.1)) else (laws_FnValues.j0 k l0 bt373.2.2.2.2.1 bt390.2.2 false bt373.1 bt373.2.1 bt373.2.2.1 bt373.2.2.2.1 bt373.2.2.2.2.2.1 bt373.2.2.2.2.2.2 bt390.1 bt390.2.1)))))))) = some r := h
 clear h
 replace H := bi H
 obtain ⟨t372, A20, H⟩ := H
 try dsimp only at H
 have A2 := Aside0.mk A20
 clear A20
 by_cases c3 : t372 = true
 ·subst c3
  have H1 := hp H
  clear H
  have H := H1
  clear H1
  obtain rfl := Option.some.inj H
  go_enter Tryd.func3, Tryd.ntmps3
  go_wp2_with (first | ((with_reducible refine gate_callee (f := 9) rfl ?_); refine goesL_ (some 18) rfl rfl Tryd.func9 (by kernel_rfl) rfl #[.slice A0 l0.length c0] rfl lz ?_; (with_reducible refine (laws_big.calls _ _ l0 true _ ?side1 ?side2 A2.out).mono ?_); (case side1 => repeat (first | exact HR0.out | (with_reducible refine Kd.C_alloc ?_ _) | (with_reducible refine Kd.C_drewN ?_ _) | (with_reducible refine Kd.C_drew ?_))); (case side2 => exact HC0.out); rintro e w' ⟨rfl, ⟨nd, rfl⟩⟩; refine ⟨_, rfl, ?_⟩))
  go_ret
  exact ⟨gz, (bz0 HB.out)⟩
 ·replace c3 := Bool.eq_false_iff.mpr c3
  subst c3
  have H1 := hq H
  clear H
  have H := H1
  clear H1
  replace H := bi H
  obtain ⟨⟨t373, t376, t379, t382, t385, t386, t387⟩, A40, H⟩ := H
  try dsimp only at H
  have A4 := Aside0.mk A40
  clear A40
  replace H := bi H
  obtain ⟨⟨t390, t391, t392⟩, A50, H⟩ := H
  try dsimp only at H
  have A5 := Aside0.mk A50
  clear A50
  replace H := bi H
  obtain ⟨⟨t394, t395, t396⟩, A60, H⟩ := H
  try dsimp only at H
  have A6 := Aside0.mk A60
  clear A60
  have HC7 := Aside0.mk H
  clear H
  go_enter Tryd.func3, Tryd.ntmps3
  go_upto_region 6 with (first | ((with_reducible refine gate_callee (f := 9) rfl ?_); refine goesL_ (some 18) rfl rfl Tryd.func9 (by kernel_rfl) rfl #[.slice A0 l0.length c0] rfl lz ?_; (with_reducible refine (laws_big.calls _ _ l0 false _ ?side1 ?side2 A2.out).mono ?_); (case side1 => repeat (first | exact HR0.out | (with_reducible refine Kd.C_alloc ?_ _) | (with_reducible refine Kd.C_drewN ?_ _) | (with_reducible refine Kd.C_drew ?_))); (case side2 => exact HC0.out); rintro e w' ⟨rfl, ⟨nd, rfl⟩⟩; refine ⟨_, rfl, ?_⟩) | ((with_reducible refine gate_callee (f := 10) rfl ?_); refine goesL_ (some 21) rfl rfl Tryd.func10 (by kernel_rfl) rfl #[.slice A0 l0.length c0] rfl lz ?_; (with_reducible refine (spec_DrawLookUp.calls k _ _ l0 t373 t376 t379 t382 t385 t386 t387 _ ?side1 ?side2 A4.out).mono ?_); (case side1 => repeat (first | exact HR0.out | (with_reducible refine Kd.C_alloc ?_ _) | (with_reducible refine Kd.C_drewN ?_ _) | (with_reducible refine Kd.C_drew ?_))); (case side2 => exact HC0.out); rintro e w8 ⟨v374, v377, v380, v383, rfl, ho0, ho1, ho2, ho3, hb⟩; refine ⟨_, rfl, ?_⟩; have HO375 := Aside0.mk (Kd.R_lower ho0 (below_size (bz0 HB.out))); have HO378 := Aside0.mk (Kd.R_lower ho1 (below_size (bz0 HB.out))); have HO381 := Aside0.mk (Kd.R_lower ho2 (below_size (bz0 HB.out))); have HO384 := Aside0.mk (Kd.R_lower ho3 (below_size (bz0 HB.out))); replace HB := Aside0.mk (below_step (bz0 HB.out) hb); (try clear hb); (try clear hk); (try clear ho0); (try clear ho1); (try clear ho2); (try clear ho3)) | ((with_reducible refine gate_dst (N := 3) rfl ?_); (try (refine gate_guard (by rfl) ?_; dsimp only)); refine box_event ?hg (N := 3) ?hd (cs := #[.slice none 0 0, .slice none 0 0, .slice none 0 0, .slice none 0 0]) (t := 29) ?hr ?_; (case hd => rfl); (case hg => rfl); (case hr => exact vz); intro gb388 hg w9 hbox hb; replace HO375 := qz HO375 hb; replace HO378 := qz HO378 hb; replace HO381 := qz HO381 hb; replace HO384 := qz HO384 hb; have BK388 := Aside0.mk (hbox); have GW388 := Aside0.mk ((by rw [hg]; exact (below_size (bz0 HB.out)) : w.heap.size <= gb388)); have GE388 := GW388; replace HB := Aside0.mk (below_step (bz0 HB.out) hb); clear hb hbox hg) | ((with_reducible refine gate_dst (N := 5) rfl ?_); (try (refine gate_guard (by rfl) ?_; dsimp only)); refine box_event ?hg (N := 5) ?hd (cs := #[.int .i64 0, .int .i64 0]) (t := 31) ?hr ?_; (case hd => rfl); (case hg => rfl); (case hr => exact vz); intro gb389 hg w10 hbox hb; replace HO375 := qz HO375 hb; replace HO378 := qz HO378 hb; replace HO381 := qz HO381 hb; replace HO384 := qz HO384 hb; have BK389 := Aside0.mk (hbox); have GW389 := Aside0.mk ((by rw [hg]; exact (below_size (bz1 HB.out GE388.out)) : w.heap.size <= gb389)); have GE389 := GW389; replace HB := Aside0.mk (below_step (bz1 HB.out GE388.out) hb); have NB388_389 := Aside0.mk ((by rw [hg]; exact Nat.ne_of_lt (blk_lt (kz BK388.out)) : gb388 ≠ gb389)); have NB389_388 := Aside0.mk ((by rw [hg]; exact Nat.ne_of_gt (blk_lt (kz BK388.out)) : gb389 ≠ gb388)); replace BK388 := Aside0.mk (blk_below (kz BK388.out) hb); clear hb hbox hg; obtain ⟨Ao11, co11, eo11⟩ := Kd.R_slice HO375.out; subst eo11; have hnb12 := NB388_389.out; have hnc12 := NB389_388.out; obtain ⟨hcz13_0, hcz13_1, hcz13_2, hcz13_3⟩ := cz4 BK388.out; obtain ⟨hfz13_0, hfz13_1, hfz13_2, hfz13_3⟩ := fz4 BK388.out; obtain ⟨Ao14, co14, eo14⟩ := Kd.R_slice HO378.out; subst eo14; obtain ⟨Ao15, co15, eo15⟩ := Kd.R_slice HO381.out; subst eo15; obtain ⟨Ao16, co16, eo16⟩ := Kd.R_slice HO384.out; subst eo16; obtain ⟨hcz17_0, hcz17_1⟩ := cz2 BK389.out; obtain ⟨hfz17_0, hfz17_1⟩ := fz2 BK389.out) | ((with_reducible refine gate_callee (f := 11) rfl ?_); refine goesL_ (some 29) rfl rfl Tryd.func11 (by kernel_rfl) rfl #[.agg #[.slice Ao11 t373.length co11, .slice Ao14 t376.length co14, .slice Ao15 t379.length co15, .slice Ao16 t382.length co16], .int .i64 t385, .agg #[.int .i64 t386, .int .i64 t387]] rfl lz ?_; (with_reducible refine (impl_LookUp.calls k _ _ t373 _ _ t376 _ _ t379 _ _ t382 t385 t386 t387 t390 t391 t392 _ ?side1 ?side2 ?side3 ?side4 ?side5 ?side6 ?side7 ?side8 A5.out).mono ?_); (case side1 => refine (Kd.R_reads' (e := 41) (base := w.heap.size) (ok := fun k_ => True) (n := t373.length) (c := co11) ?_).2.2; exact (by refine rq ?_; exact (Kd.R_mono (Kd.R_mono (Kd.R_far (p := ⟨gb389, 1, none⟩) (Kd.R_far (p := ⟨gb389, 0, none⟩) (Kd.R_far (p := ⟨gb388, 3, none⟩) (Kd.R_far (p := ⟨gb388, 2, none⟩) (Kd.R_far (p := ⟨gb388, 1, none⟩) (Kd.R_far (p := ⟨gb388, 0, none⟩) (Kd.R_types (Kd.R_types HO375.out BK388.out (by decide)) BK389.out (by decide)) (fun _ hk => hk.1.2) (.slice Ao11 t373.length co11)) (fun _ hk => hk.1.2) (.slice Ao14 t376.length co14)) (fun _ hk => hk.1.2) (.slice Ao15 t379.length co15)) (fun _ hk => hk.1.2) (.slice Ao16 t382.length co16)) (fun _ hk => hk.2) (.int .i64 t386)) (fun _ hk => hk.2) (.int .i64 t387)) (fun _ h_ => h_.1)) (fun _ h_ => h_.1)))); (case side2 => exact (Kd.R_reads' HO375.out).2.1); (case side3 => refine (Kd.R_reads' (e := 86) (base := w.heap.size) (ok := fun k_ => True) (n := t376.length) (c := co14) ?_).2.2; exact (by refine rq ?_; exact (Kd.R_mono (Kd.R_mono (Kd.R_far (p := ⟨gb389, 1, none⟩) (Kd.R_far (p := ⟨gb389, 0, none⟩) (Kd.R_far (p := ⟨gb388, 3, none⟩) (Kd.R_far (p := ⟨gb388, 2, none⟩) (Kd.R_far (p := ⟨gb388, 1, none⟩) (Kd.R_far (p := ⟨gb388, 0, none⟩) (Kd.R_types (Kd.R_types HO378.out BK388.out (by decide)) BK389.out (by decide)) (fun _ hk => hk.1.2) (.slice Ao11 t373.length co11)) (fun _ hk => hk.1.2) (.slice Ao14 t376.length co14)) (fun _ hk => hk.1.2) (.slice Ao15 t379.length co15)) (fun _ hk => hk.1.2) (.slice Ao16 t382.length co16)) (fun _ hk => hk.2) (.int .i64 t386)) (fun _ hk => hk.2) (.int .i64 t387)) (fun _ h_ => h_.1)) (fun _ h_ => h_.1)))); (case side4 => exact (Kd.R_reads' HO378.out).2.1); (case side5 => refine (Kd.R_reads' (e := 47) (base := w.heap.size) (ok := fun k_ => True) (n := t379.length) (c := co15) ?_).2.2; exact (by refine rq ?_; exact (Kd.R_mono (Kd.R_mono (Kd.R_far (p := ⟨gb389, 1, none⟩) (Kd.R_far (p := ⟨gb389, 0, none⟩) (Kd.R_far (p := ⟨gb388, 3, none⟩) (Kd.R_far (p := ⟨gb388, 2, none⟩) (Kd.R_far (p := ⟨gb388, 1, none⟩) (Kd.R_far (p := ⟨gb388, 0, none⟩) (Kd.R_types (Kd.R_types HO381.out BK388.out (by decide)) BK389.out (by decide)) (fun _ hk => hk.1.2) (.slice Ao11 t373.length co11)) (fun _ hk => hk.1.2) (.slice Ao14 t376.length co14)) (fun _ hk => hk.1.2) (.slice Ao15 t379.length co15)) (fun _ hk => hk.1.2) (.slice Ao16 t382.length co16)) (fun _ hk => hk.2) (.int .i64 t386)) (fun _ hk => hk.2) (.int .i64 t387)) (fun _ h_ => h_.1)) (fun _ h_ => h_.1)))); (case side6 => exact (Kd.R_reads' HO381.out).2.1); (case side7 => refine (Kd.R_reads' (e := 35) (base := w.heap.size) (ok := fun k_ => True) (n := t382.length) (c := co16) ?_).2.2; exact (by refine rq ?_; exact (Kd.R_mono (Kd.R_mono (Kd.R_far (p := ⟨gb389, 1, none⟩) (Kd.R_far (p := ⟨gb389, 0, none⟩) (Kd.R_far (p := ⟨gb388, 3, none⟩) (Kd.R_far (p := ⟨gb388, 2, none⟩) (Kd.R_far (p := ⟨gb388, 1, none⟩) (Kd.R_far (p := ⟨gb388, 0, none⟩) (Kd.R_types (Kd.R_types HO384.out BK388.out (by decide)) BK389.out (by decide)) (fun _ hk => hk.1.2) (.slice Ao11 t373.length co11)) (fun _ hk => hk.1.2) (.slice Ao14 t376.length co14)) (fun _ hk => hk.1.2) (.slice Ao15 t379.length co15)) (fun _ hk => hk.1.2) (.slice Ao16 t382.length co16)) (fun _ hk => hk.2) (.int .i64 t386)) (fun _ hk => hk.2) (.int .i64 t387)) (fun _ h_ => h_.1)) (fun _ h_ => h_.1)))); (case side8 => exact (Kd.R_reads' HO384.out).2.1); rintro e w18 ⟨rfl, hb⟩; refine ⟨_, rfl, ?_⟩; replace HO375 := Aside0.mk (Kd.R_below (by refine rq ?_; exact (Kd.R_mono (Kd.R_mono (Kd.R_far (p := ⟨gb389, 1, none⟩) (Kd.R_far (p := ⟨gb389, 0, none⟩) (Kd.R_far (p := ⟨gb388, 3, none⟩) (Kd.R_far (p := ⟨gb388, 2, none⟩) (Kd.R_far (p := ⟨gb388, 1, none⟩) (Kd.R_far (p := ⟨gb388, 0, none⟩) (Kd.R_types (Kd.R_types HO375.out BK388.out (by decide)) BK389.out (by decide)) (fun _ hk => hk.1.2) (.slice Ao11 t373.length co11)) (fun _ hk => hk.1.2) (.slice Ao14 t376.length co14)) (fun _ hk => hk.1.2) (.slice Ao15 t379.length co15)) (fun _ hk => hk.1.2) (.slice Ao16 t382.length co16)) (fun _ hk => hk.2) (.int .i64 t386)) (fun _ hk => hk.2) (.int .i64 t387)) (fun _ h_ => h_.1)) (fun _ h_ => h_.1))) hb); replace HO378 := Aside0.mk (Kd.R_below (by refine rq ?_; exact (Kd.R_mono (Kd.R_mono (Kd.R_far (p := ⟨gb389, 1, none⟩) (Kd.R_far (p := ⟨gb389, 0, none⟩) (Kd.R_far (p := ⟨gb388, 3, none⟩) (Kd.R_far (p := ⟨gb388, 2, none⟩) (Kd.R_far (p := ⟨gb388, 1, none⟩) (Kd.R_far (p := ⟨gb388, 0, none⟩) (Kd.R_types (Kd.R_types HO378.out BK388.out (by decide)) BK389.out (by decide)) (fun _ hk => hk.1.2) (.slice Ao11 t373.length co11)) (fun _ hk => hk.1.2) (.slice Ao14 t376.length co14)) (fun _ hk => hk.1.2) (.slice Ao15 t379.length co15)) (fun _ hk => hk.1.2) (.slice Ao16 t382.length co16)) (fun _ hk => hk.2) (.int .i64 t386)) (fun _ hk => hk.2) (.int .i64 t387)) (fun _ h_ => h_.1)) (fun _ h_ => h_.1))) hb); replace HO381 := Aside0.mk (Kd.R_below (by refine rq ?_; exact (Kd.R_mono (Kd.R_mono (Kd.R_far (p := ⟨gb389, 1, none⟩) (Kd.R_far (p := ⟨gb389, 0, none⟩) (Kd.R_far (p := ⟨gb388, 3, none⟩) (Kd.R_far (p := ⟨gb388, 2, none⟩) (Kd.R_far (p := ⟨gb388, 1, none⟩) (Kd.R_far (p := ⟨gb388, 0, none⟩) (Kd.R_types (Kd.R_types HO381.out BK388.out (by decide)) BK389.out (by decide)) (fun _ hk => hk.1.2) (.slice Ao11 t373.length co11)) (fun _ hk => hk.1.2) (.slice Ao14 t376.length co14)) (fun _ hk => hk.1.2) (.slice Ao15 t379.length co15)) (fun _ hk => hk.1.2) (.slice Ao16 t382.length co16)) (fun _ hk => hk.2) (.int .i64 t386)) (fun _ hk => hk.2) (.int .i64 t387)) (fun _ h_ => h_.1)) (fun _ h_ => h_.1))) hb); replace HO384 := Aside0.mk (Kd.R_below (by refine rq ?_; exact (Kd.R_mono (Kd.R_mono (Kd.R_far (p := ⟨gb389, 1, none⟩) (Kd.R_far (p := ⟨gb389, 0, none⟩) (Kd.R_far (p := ⟨gb388, 3, none⟩) (Kd.R_far (p := ⟨gb388, 2, none⟩) (Kd.R_far (p := ⟨gb388, 1, none⟩) (Kd.R_far (p := ⟨gb388, 0, none⟩) (Kd.R_types (Kd.R_types HO384.out BK388.out (by decide)) BK389.out (by decide)) (fun _ hk => hk.1.2) (.slice Ao11 t373.length co11)) (fun _ hk => hk.1.2) (.slice Ao14 t376.length co14)) (fun _ hk => hk.1.2) (.slice Ao15 t379.length co15)) (fun _ hk => hk.1.2) (.slice Ao16 t382.length co16)) (fun _ hk => hk.2) (.int .i64 t386)) (fun _ hk => hk.2) (.int .i64 t387)) (fun _ h_ => h_.1)) (fun _ h_ => h_.1))) hb); replace BK388 := Aside0.mk (blk_below (g := gb388) (o := .cells #[.slice Ao11 t373.length co11, .slice Ao14 t376.length co14, .slice Ao15 t379.length co15, .slice Ao16 t382.length co16] 29 (0, 0)) (by refine kq ?_; refine blk_far ?_ NB388_389.out _; refine kq ?_; refine blk_far ?_ NB388_389.out _; refine kq ?_; refine blk_put (cs := #[.slice Ao11 t373.length co11, .slice Ao14 t376.length co14, .slice Ao15 t379.length co15, .slice none 0 0]) ?_ 3 _ rfl; refine kq ?_; refine blk_put (cs := #[.slice Ao11 t373.length co11, .slice Ao14 t376.length co14, .slice none 0 0, .slice none 0 0]) ?_ 2 _ rfl; refine kq ?_; refine blk_put (cs := #[.slice Ao11 t373.length co11, .slice none 0 0, .slice none 0 0, .slice none 0 0]) ?_ 1 _ rfl; refine kq ?_; refine blk_put (cs := #[.slice none 0 0, .slice none 0 0, .slice none 0 0, .slice none 0 0]) ?_ 0 _ rfl; refine kq ?_; exact BK388.out) hb); replace BK389 := Aside0.mk (blk_below (g := gb389) (o := .cells #[.int .i64 t386, .int .i64 t387] 31 (0, 0)) (by refine kq ?_; refine blk_put (cs := #[.int .i64 t386, .int .i64 0]) ?_ 1 _ rfl; refine kq ?_; refine blk_put (cs := #[.int .i64 0, .int .i64 0]) ?_ 0 _ rfl; refine kq ?_; refine blk_far ?_ NB389_388.out _; refine kq ?_; refine blk_far ?_ NB389_388.out _; refine kq ?_; refine blk_far ?_ NB389_388.out _; refine kq ?_; refine blk_far ?_ NB389_388.out _; refine kq ?_; exact BK389.out) hb); replace HB := Aside0.mk (below_step (bz2 HB.out GE388.out GE389.out) hb); (try clear hb); (try clear hk); (try clear hi)) | ((with_reducible refine gate_dst (N := 6) rfl ?_); (try (refine gate_guard (by rfl) ?_; dsimp only)); refine box_event ?hg (N := 6) ?hd (cs := #[.int .i64 0, .int .i64 0]) (t := 35) ?hr ?_; (case hd => rfl); (case hg => rfl); (case hr => exact vz); intro gb393 hg w19 hbox hb; replace HO375 := qz HO375 hb; replace HO378 := qz HO378 hb; replace HO381 := qz HO381 hb; replace HO384 := Aside0.mk (Kd.R_below (Kd.R_elderB (rz HO384.out) gb393 (Nat.le_of_eq hg.symm)) hb); have BK393 := Aside0.mk (hbox); have GW393 := Aside0.mk ((by rw [hg]; exact (below_size (bz2 HB.out GE388.out GE389.out)) : w.heap.size <= gb393)); have GE393 := GW393; replace HB := Aside0.mk (below_step (bz2 HB.out GE388.out GE389.out) hb); have NB388_393 := Aside0.mk ((by rw [hg]; exact Nat.ne_of_lt (blk_lt (kz BK388.out)) : gb388 ≠ gb393)); have NB393_388 := Aside0.mk ((by rw [hg]; exact Nat.ne_of_gt (blk_lt (kz BK388.out)) : gb393 ≠ gb388)); replace BK388 := Aside0.mk (blk_below (kz BK388.out) hb); have NB389_393 := Aside0.mk ((by rw [hg]; exact Nat.ne_of_lt (blk_lt (kz BK389.out)) : gb389 ≠ gb393)); have NB393_389 := Aside0.mk ((by rw [hg]; exact Nat.ne_of_gt (blk_lt (kz BK389.out)) : gb393 ≠ gb389)); replace BK389 := Aside0.mk (blk_below (kz BK389.out) hb); clear hb hbox hg; have hnb20 := NB393_388.out; have hnc20 := NB388_393.out; have hnb21 := NB393_389.out; have hnc21 := NB389_393.out; obtain ⟨hcz22_0, hcz22_1⟩ := cz2 BK393.out; obtain ⟨hfz22_0, hfz22_1⟩ := fz2 BK393.out; obtain ⟨hcz23_0, hcz23_1, hcz23_2, hcz23_3⟩ := cz4 BK388.out; obtain ⟨hfz23_0, hfz23_1, hfz23_2, hfz23_3⟩ := fz4 BK388.out; obtain ⟨hcz24_0, hcz24_1⟩ := cz2 BK389.out; obtain ⟨hfz24_0, hfz24_1⟩ := fz2 BK389.out) | ((with_reducible refine gate_callee (f := 12) rfl ?_); refine goesL_ (some 36) rfl rfl Tryd.func12 (by kernel_rfl) rfl #[.agg #[.slice Ao11 t373.length co11, .slice Ao14 t376.length co14, .slice Ao15 t379.length co15, .slice Ao16 t382.length co16], .int .i64 t385, .agg #[.int .i64 t386, .int .i64 t387]] rfl lz ?_; (with_reducible refine (spec_LookUp.calls k _ _ t373 _ _ t376 _ _ t379 _ _ t382 t385 t386 t387 t394 t395 t396 _ ?side1 ?side2 ?side3 ?side4 ?side5 ?side6 ?side7 ?side8 A6.out).mono ?_); (case side1 => refine (Kd.R_reads' (e := 41) (base := w.heap.size) (ok := fun k_ => True) (n := t373.length) (c := co11) ?_).2.2; exact (by refine rq ?_; exact (Kd.R_mono (Kd.R_far (p := ⟨gb393, 1, none⟩) (Kd.R_far (p := ⟨gb393, 0, none⟩) (Kd.R_types HO375.out BK393.out (by decide)) (fun _ hk => hk.2) (.int .i64 t390)) (fun _ hk => hk.2) (.int .i64 t391)) (fun _ h_ => h_.1)))); (case side2 => exact (Kd.R_reads' HO375.out).2.1); (case side3 => refine (Kd.R_reads' (e := 86) (base := w.heap.size) (ok := fun k_ => True) (n := t376.length) (c := co14) ?_).2.2; exact (by refine rq ?_; exact (Kd.R_mono (Kd.R_far (p := ⟨gb393, 1, none⟩) (Kd.R_far (p := ⟨gb393, 0, none⟩) (Kd.R_types HO378.out BK393.out (by decide)) (fun _ hk => hk.2) (.int .i64 t390)) (fun _ hk => hk.2) (.int .i64 t391)) (fun _ h_ => h_.1)))); (case side4 => exact (Kd.R_reads' HO378.out).2.1); (case side5 => refine (Kd.R_reads' (e := 47) (base := w.heap.size) (ok := fun k_ => True) (n := t379.length) (c := co15) ?_).2.2; exact (by refine rq ?_; exact (Kd.R_mono (Kd.R_far (p := ⟨gb393, 1, none⟩) (Kd.R_far (p := ⟨gb393, 0, none⟩) (Kd.R_types HO381.out BK393.out (by decide)) (fun _ hk => hk.2) (.int .i64 t390)) (fun _ hk => hk.2) (.int .i64 t391)) (fun _ h_ => h_.1)))); (case side6 => exact (Kd.R_reads' HO381.out).2.1); (case side7 => refine (Kd.R_reads' (e := 35) (base := w.heap.size) (ok := fun k_ => (True /\ k_ ≠ gb393)) (n := t382.length) (c := co16) ?_).2.2; exact (by refine rq ?_; exact (Kd.R_mono (Kd.R_far (p := ⟨gb393, 1, none⟩) (Kd.R_far (p := ⟨gb393, 0, none⟩) (Kd.R_mono HO384.out (fun k_ hk => (⟨hk, hk.2⟩ : _ /\ k_ ≠ gb393))) (fun _ hk => hk.2) (.int .i64 t390)) (fun _ hk => hk.2) (.int .i64 t391)) (fun _ h_ => h_.1)))); (case side8 => exact (Kd.R_reads' HO384.out).2.1); rintro e w25 ⟨rfl, hb⟩; refine ⟨_, rfl, ?_⟩; replace HO375 := Aside0.mk (Kd.R_below (by refine rq ?_; exact (Kd.R_mono (Kd.R_far (p := ⟨gb393, 1, none⟩) (Kd.R_far (p := ⟨gb393, 0, none⟩) (Kd.R_types HO375.out BK393.out (by decide)) (fun _ hk => hk.2) (.int .i64 t390)) (fun _ hk => hk.2) (.int .i64 t391)) (fun _ h_ => h_.1))) hb); replace HO378 := Aside0.mk (Kd.R_below (by refine rq ?_; exact (Kd.R_mono (Kd.R_far (p := ⟨gb393, 1, none⟩) (Kd.R_far (p := ⟨gb393, 0, none⟩) (Kd.R_types HO378.out BK393.out (by decide)) (fun _ hk => hk.2) (.int .i64 t390)) (fun _ hk => hk.2) (.int .i64 t391)) (fun _ h_ => h_.1))) hb); replace HO381 := Aside0.mk (Kd.R_below (by refine rq ?_; exact (Kd.R_mono (Kd.R_far (p := ⟨gb393, 1, none⟩) (Kd.R_far (p := ⟨gb393, 0, none⟩) (Kd.R_types HO381.out BK393.out (by decide)) (fun _ hk => hk.2) (.int .i64 t390)) (fun _ hk => hk.2) (.int .i64 t391)) (fun _ h_ => h_.1))) hb); replace HO384 := Aside0.mk (Kd.R_below (by refine rq ?_; exact (Kd.R_mono (Kd.R_far (p := ⟨gb393, 1, none⟩) (Kd.R_far (p := ⟨gb393, 0, none⟩) (Kd.R_mono HO384.out (fun k_ hk => (⟨hk, hk.2⟩ : _ /\ k_ ≠ gb393))) (fun _ hk => hk.2) (.int .i64 t390)) (fun _ hk => hk.2) (.int .i64 t391)) (fun _ h_ => h_.1))) hb); replace BK388 := Aside0.mk (blk_below (g := gb388) (o := .cells #[.slice Ao11 t373.length co11, .slice Ao14 t376.length co14, .slice Ao15 t379.length co15, .slice Ao16 t382.length co16] 29 (0, 0)) (by refine kq ?_; refine blk_far ?_ NB388_393.out _; refine kq ?_; refine blk_far ?_ NB388_393.out _; refine kq ?_; exact BK388.out) hb); replace BK389 := Aside0.mk (blk_below (g := gb389) (o := .cells #[.int .i64 t386, .int .i64 t387] 31 (0, 0)) (by refine kq ?_; refine blk_far ?_ NB389_393.out _; refine kq ?_; refine blk_far ?_ NB389_393.out _; refine kq ?_; exact BK389.out) hb); replace BK393 := Aside0.mk (blk_below (g := gb393) (o := .cells #[.int .i64 t390, .int .i64 t391] 35 (0, 0)) (by refine kq ?_; refine blk_put (cs := #[.int .i64 t390, .int .i64 0]) ?_ 1 _ rfl; refine kq ?_; refine blk_put (cs := #[.int .i64 0, .int .i64 0]) ?_ 0 _ rfl; refine kq ?_; exact BK393.out) hb); replace HB := Aside0.mk (below_step (bz3 HB.out GE388.out GE389.out GE393.out) hb); (try clear hb); (try clear hk); (try clear hi)) | ((with_reducible refine gate_dst (N := 8) rfl ?_); (try (refine gate_guard (by rfl) ?_; dsimp only)); refine box_event ?hg (N := 8) ?hd (cs := #[.int .i64 0, .int .i64 0]) (t := 35) ?hr ?_; (case hd => rfl); (case hg => rfl); (case hr => exact vz); intro gb397 hg w26 hbox hb; replace HO375 := qz HO375 hb; replace HO378 := qz HO378 hb; replace HO381 := qz HO381 hb; replace HO384 := Aside0.mk (Kd.R_below (Kd.R_elderB (rz HO384.out) gb397 (Nat.le_of_eq hg.symm)) hb); have BK397 := Aside0.mk (hbox); have GW397 := Aside0.mk ((by rw [hg]; exact (below_size (bz3 HB.out GE388.out GE389.out GE393.out)) : w.heap.size <= gb397)); have GE397 := GW397; replace HB := Aside0.mk (below_step (bz3 HB.out GE388.out GE389.out GE393.out) hb); have NB388_397 := Aside0.mk ((by rw [hg]; exact Nat.ne_of_lt (blk_lt (kz BK388.out)) : gb388 ≠ gb397)); have NB397_388 := Aside0.mk ((by rw [hg]; exact Nat.ne_of_gt (blk_lt (kz BK388.out)) : gb397 ≠ gb388)); replace BK388 := Aside0.mk (blk_below (kz BK388.out) hb); have NB389_397 := Aside0.mk ((by rw [hg]; exact Nat.ne_of_lt (blk_lt (kz BK389.out)) : gb389 ≠ gb397)); have NB397_389 := Aside0.mk ((by rw [hg]; exact Nat.ne_of_gt (blk_lt (kz BK389.out)) : gb397 ≠ gb389)); replace BK389 := Aside0.mk (blk_below (kz BK389.out) hb); have NB393_397 := Aside0.mk ((by rw [hg]; exact Nat.ne_of_lt (blk_lt (kz BK393.out)) : gb393 ≠ gb397)); have NB397_393 := Aside0.mk ((by rw [hg]; exact Nat.ne_of_gt (blk_lt (kz BK393.out)) : gb397 ≠ gb393)); replace BK393 := Aside0.mk (blk_below (kz BK393.out) hb); clear hb hbox hg; have hnb27 := NB397_388.out; have hnc27 := NB388_397.out; have hnb28 := NB397_389.out; have hnc28 := NB389_397.out; have hnb29 := NB397_393.out; have hnc29 := NB393_397.out; obtain ⟨hcz30_0, hcz30_1⟩ := cz2 BK397.out; obtain ⟨hfz30_0, hfz30_1⟩ := fz2 BK397.out))
  (try simp only [Act.put, sz1, sz2, sz3])
  go_cut [50] (fun v50 wc => ∃ (kq : Nat) (x50_6 : Bool), v50 = .bool x50_6 /\ Aside0 (laws_FnValues.j0 kq l0 t385 t392 x50_6 t373 t376 t379 t382 t386 t387 t390 t391 = some r) /\ Aside0 (kq <= k) /\ Aside0 (Kd.R k41 41 wc w.heap.size (fun _ => True) (.slice Ao11 t373.length co11) t373) /\ Aside0 (Kd.R k86 86 wc w.heap.size (fun _ => True) (.slice Ao14 t376.length co14) t376) /\ Aside0 (Kd.R k47 47 wc w.heap.size (fun _ => True) (.slice Ao15 t379.length co15) t379) /\ Aside0 (Kd.R k35 35 wc w.heap.size (fun k_ => k_ ≠ gb393 /\ k_ ≠ gb397) (.slice Ao16 t382.length co16) t382) /\ Aside0 (wc.heap[gb388]? = some (.cells #[(.slice Ao11 t373.length co11), (.slice Ao14 t376.length co14), (.slice Ao15 t379.length co15), (.slice Ao16 t382.length co16)] 29 (0, 0))) /\ Aside0 (wc.heap[gb389]? = some (.cells #[.int .i64 t386, .int .i64 t387] 31 (0, 0))) /\ Aside0 (wc.heap[gb393]? = some (.cells #[.int .i64 t390, .int .i64 t391] 35 (0, 0))) /\ Aside0 (wc.heap[gb397]? = some (.cells #[.int .i64 t394, .int .i64 t395] 35 (0, 0))) /\ Aside0 (Below w.heap.size w wc))
  case first => as_aux_lemma =>
   have H := HC7.out
   clear HC7
   by_cases c31 : (t392 != t396) = true
   ·rw [if_pos c31] at H
    have c31b0 : (t392 != t396) = true := c31
    (try (have c31b1 : decide (t392 = t396) = false := by simpa using c31))
    (try (have c31b2 : (t392 == t396) = false := by simpa using c31))
    (try (have c31b3 : ¬ (t392 = t396) := by simpa using c31))
    clear c31
    (first | rw [c31b0] | (simp only [i64_w, i32_w]; rw [c31b0]) | skip)
    have H' := Aside0.mk H
    clear H
    go_wp2
    go_meet
    case rel => exact ⟨_, (true), ez, H', ⟨by first | omega | exact Nat.le_refl _⟩, ⟨by refine rq ?_; first | (with_reducible exact Kd.R_mono (Kd.R_far (p := ⟨gb397, 1, none⟩) (Kd.R_far (p := ⟨gb397, 0, none⟩) (Kd.R_types HO375.out BK397.out (by decide)) (fun _ hk => hk.2) (.int .i64 t394)) (fun _ hk => hk.2) (.int .i64 t395)) (fun _ hk => trivial)) | exact Kd.R_mono (Kd.R_far (p := ⟨gb397, 1, none⟩) (Kd.R_drewN (Kd.R_far (p := ⟨gb397, 0, none⟩) (Kd.R_types HO375.out BK397.out (by decide)) (fun _ hk => hk.2) (.int .i64 t394)) _) (fun _ hk => hk.2) (.int .i64 t395)) (fun _ hk => trivial)⟩, ⟨by refine rq ?_; first | (with_reducible exact Kd.R_mono (Kd.R_far (p := ⟨gb397, 1, none⟩) (Kd.R_far (p := ⟨gb397, 0, none⟩) (Kd.R_types HO378.out BK397.out (by decide)) (fun _ hk => hk.2) (.int .i64 t394)) (fun _ hk => hk.2) (.int .i64 t395)) (fun _ hk => trivial)) | exact Kd.R_mono (Kd.R_far (p := ⟨gb397, 1, none⟩) (Kd.R_drewN (Kd.R_far (p := ⟨gb397, 0, none⟩) (Kd.R_types HO378.out BK397.out (by decide)) (fun _ hk => hk.2) (.int .i64 t394)) _) (fun _ hk => hk.2) (.int .i64 t395)) (fun _ hk => trivial)⟩, ⟨by refine rq ?_; first | (with_reducible exact Kd.R_mono (Kd.R_far (p := ⟨gb397, 1, none⟩) (Kd.R_far (p := ⟨gb397, 0, none⟩) (Kd.R_types HO381.out BK397.out (by decide)) (fun _ hk => hk.2) (.int .i64 t394)) (fun _ hk => hk.2) (.int .i64 t395)) (fun _ hk => trivial)) | exact Kd.R_mono (Kd.R_far (p := ⟨gb397, 1, none⟩) (Kd.R_drewN (Kd.R_far (p := ⟨gb397, 0, none⟩) (Kd.R_types HO381.out BK397.out (by decide)) (fun _ hk => hk.2) (.int .i64 t394)) _) (fun _ hk => hk.2) (.int .i64 t395)) (fun _ hk => trivial)⟩, ⟨by refine rq ?_; first | (with_reducible exact Kd.R_mono (Kd.R_far (p := ⟨gb397, 1, none⟩) (Kd.R_far (p := ⟨gb397, 0, none⟩) (Kd.R_mono HO384.out (fun k_ hk => (⟨hk, hk.2⟩ : _ /\ k_ ≠ gb397))) (fun _ hk => hk.2) (.int .i64 t394)) (fun _ hk => hk.2) (.int .i64 t395)) (fun _ hk => ⟨hk.1.1.2, hk.1.2⟩)) | exact Kd.R_mono (Kd.R_far (p := ⟨gb397, 1, none⟩) (Kd.R_drewN (Kd.R_far (p := ⟨gb397, 0, none⟩) (Kd.R_mono HO384.out (fun k_ hk => (⟨hk, hk.2⟩ : _ /\ k_ ≠ gb397))) (fun _ hk => hk.2) (.int .i64 t394)) _) (fun _ hk => hk.2) (.int .i64 t395)) (fun _ hk => ⟨hk.1.1.2, hk.1.2⟩)⟩, ⟨by refine kq ?_; refine blk_far ?_ NB388_397.out _; refine kq ?_; refine blk_far ?_ NB388_397.out _; refine kq ?_; exact BK388.out⟩, ⟨by refine kq ?_; refine blk_far ?_ NB389_397.out _; refine kq ?_; refine blk_far ?_ NB389_397.out _; refine kq ?_; exact BK389.out⟩, ⟨by refine kq ?_; refine blk_far ?_ NB393_397.out _; refine kq ?_; refine blk_far ?_ NB393_397.out _; refine kq ?_; exact BK393.out⟩, ⟨by refine kq ?_; refine blk_put (cs := #[.int .i64 t394, .int .i64 0]) ?_ 1 _ rfl; refine kq ?_; refine blk_put (cs := #[.int .i64 0, .int .i64 0]) ?_ 0 _ rfl; refine kq ?_; exact BK397.out⟩, ⟨(bz4 HB.out GE388.out GE389.out GE393.out GE397.out)⟩⟩
   ·rw [if_neg c31] at H
    have c31b0 : (t392 != t396) = false := by simpa using c31
    (try (have c31b1 : decide (t392 = t396) = true := by simpa using c31))
    (try (have c31b2 : (t392 == t396) = true := by simpa using c31))
    clear c31
    (first | rw [c31b0] | (simp only [i64_w, i32_w]; rw [c31b0]) | skip)
    by_cases c32 : t392 = true
    ·subst c32
     have H1 := hp H
     clear H
     have H := H1
     clear H1
     replace H := bi H
     obtain ⟨t398, A330, H⟩ := H
     try dsimp only at H
     have A33 := Aside0.mk A330
     clear A330
     have H' := Aside0.mk H
     clear H
     have hnb34 := NB388_389.out
     have hnc34 := NB389_388.out
     have hnb35 := NB388_393.out
     have hnc35 := NB393_388.out
     have hnb36 := NB388_397.out
     have hnc36 := NB397_388.out
     obtain ⟨hcz37_0, hcz37_1, hcz37_2, hcz37_3⟩ := cz4 BK388.out
     obtain ⟨hfz37_0, hfz37_1, hfz37_2, hfz37_3⟩ := fz4 BK388.out
     have hnb38 := NB393_389.out
     have hnc38 := NB389_393.out
     have hnb39 := NB393_397.out
     have hnc39 := NB397_393.out
     obtain ⟨hcz40_0, hcz40_1⟩ := cz2 BK393.out
     obtain ⟨hfz40_0, hfz40_1⟩ := fz2 BK393.out
     go_wp2_with (first | (go_at_call 13; (with_reducible refine (impl_ValOk.calls k _ _ t373 _ _ t376 _ _ t379 _ _ t382 t390 t391 t398 _ ?side1 ?side2 ?side3 ?side4 ?side5 ?side6 ?side7 ?side8 A33.out).mono ?_); (case side1 => refine (Kd.R_reads' (e := 41) (base := w.heap.size) (ok := fun k_ => True) (n := t373.length) (c := co11) ?_).2.2; exact (by refine rq ?_; exact (Kd.R_mono (Kd.R_far (p := ⟨gb397, 1, none⟩) (Kd.R_far (p := ⟨gb397, 0, none⟩) (Kd.R_types HO375.out BK397.out (by decide)) (fun _ hk => hk.2) (.int .i64 t394)) (fun _ hk => hk.2) (.int .i64 t395)) (fun _ h_ => h_.1)))); (case side2 => exact (Kd.R_reads' HO375.out).2.1); (case side3 => refine (Kd.R_reads' (e := 86) (base := w.heap.size) (ok := fun k_ => True) (n := t376.length) (c := co14) ?_).2.2; exact (by refine rq ?_; exact (Kd.R_mono (Kd.R_far (p := ⟨gb397, 1, none⟩) (Kd.R_far (p := ⟨gb397, 0, none⟩) (Kd.R_types HO378.out BK397.out (by decide)) (fun _ hk => hk.2) (.int .i64 t394)) (fun _ hk => hk.2) (.int .i64 t395)) (fun _ h_ => h_.1)))); (case side4 => exact (Kd.R_reads' HO378.out).2.1); (case side5 => refine (Kd.R_reads' (e := 47) (base := w.heap.size) (ok := fun k_ => True) (n := t379.length) (c := co15) ?_).2.2; exact (by refine rq ?_; exact (Kd.R_mono (Kd.R_far (p := ⟨gb397, 1, none⟩) (Kd.R_far (p := ⟨gb397, 0, none⟩) (Kd.R_types HO381.out BK397.out (by decide)) (fun _ hk => hk.2) (.int .i64 t394)) (fun _ hk => hk.2) (.int .i64 t395)) (fun _ h_ => h_.1)))); (case side6 => exact (Kd.R_reads' HO381.out).2.1); (case side7 => refine (Kd.R_reads' (e := 35) (base := w.heap.size) (ok := fun k_ => ((True /\ k_ ≠ gb393) /\ k_ ≠ gb397)) (n := t382.length) (c := co16) ?_).2.2; exact (by refine rq ?_; exact (Kd.R_mono (Kd.R_far (p := ⟨gb397, 1, none⟩) (Kd.R_far (p := ⟨gb397, 0, none⟩) (Kd.R_mono HO384.out (fun k_ hk => (⟨hk, hk.2⟩ : _ /\ k_ ≠ gb397))) (fun _ hk => hk.2) (.int .i64 t394)) (fun _ hk => hk.2) (.int .i64 t395)) (fun _ h_ => h_.1)))); (case side8 => exact (Kd.R_reads' HO384.out).2.1); rintro e w41 ⟨rfl, hb⟩; replace HO375 := Aside0.mk (Kd.R_below (by refine rq ?_; exact (Kd.R_mono (Kd.R_far (p := ⟨gb397, 1, none⟩) (Kd.R_far (p := ⟨gb397, 0, none⟩) (Kd.R_types HO375.out BK397.out (by decide)) (fun _ hk => hk.2) (.int .i64 t394)) (fun _ hk => hk.2) (.int .i64 t395)) (fun _ h_ => h_.1))) hb); replace HO378 := Aside0.mk (Kd.R_below (by refine rq ?_; exact (Kd.R_mono (Kd.R_far (p := ⟨gb397, 1, none⟩) (Kd.R_far (p := ⟨gb397, 0, none⟩) (Kd.R_types HO378.out BK397.out (by decide)) (fun _ hk => hk.2) (.int .i64 t394)) (fun _ hk => hk.2) (.int .i64 t395)) (fun _ h_ => h_.1))) hb); replace HO381 := Aside0.mk (Kd.R_below (by refine rq ?_; exact (Kd.R_mono (Kd.R_far (p := ⟨gb397, 1, none⟩) (Kd.R_far (p := ⟨gb397, 0, none⟩) (Kd.R_types HO381.out BK397.out (by decide)) (fun _ hk => hk.2) (.int .i64 t394)) (fun _ hk => hk.2) (.int .i64 t395)) (fun _ h_ => h_.1))) hb); replace HO384 := Aside0.mk (Kd.R_below (by refine rq ?_; exact (Kd.R_mono (Kd.R_far (p := ⟨gb397, 1, none⟩) (Kd.R_far (p := ⟨gb397, 0, none⟩) (Kd.R_mono HO384.out (fun k_ hk => (⟨hk, hk.2⟩ : _ /\ k_ ≠ gb397))) (fun _ hk => hk.2) (.int .i64 t394)) (fun _ hk => hk.2) (.int .i64 t395)) (fun _ h_ => h_.1))) hb); replace BK388 := Aside0.mk (blk_below (g := gb388) (o := .cells #[.slice Ao11 t373.length co11, .slice Ao14 t376.length co14, .slice Ao15 t379.length co15, .slice Ao16 t382.length co16] 29 (0, 0)) (by refine kq ?_; refine blk_far ?_ NB388_397.out _; refine kq ?_; refine blk_far ?_ NB388_397.out _; refine kq ?_; exact BK388.out) hb); replace BK389 := Aside0.mk (blk_below (g := gb389) (o := .cells #[.int .i64 t386, .int .i64 t387] 31 (0, 0)) (by refine kq ?_; refine blk_far ?_ NB389_397.out _; refine kq ?_; refine blk_far ?_ NB389_397.out _; refine kq ?_; exact BK389.out) hb); replace BK393 := Aside0.mk (blk_below (g := gb393) (o := .cells #[.int .i64 t390, .int .i64 t391] 35 (0, 0)) (by refine kq ?_; refine blk_far ?_ NB393_397.out _; refine kq ?_; refine blk_far ?_ NB393_397.out _; refine kq ?_; exact BK393.out) hb); replace BK397 := Aside0.mk (blk_below (g := gb397) (o := .cells #[.int .i64 t394, .int .i64 t395] 35 (0, 0)) (by refine kq ?_; refine blk_put (cs := #[.int .i64 t394, .int .i64 0]) ?_ 1 _ rfl; refine kq ?_; refine blk_put (cs := #[.int .i64 0, .int .i64 0]) ?_ 0 _ rfl; refine kq ?_; exact BK397.out) hb); replace HB := Aside0.mk (below_step (bz4 HB.out GE388.out GE389.out GE393.out GE397.out) hb); (try clear hb); (try clear hk); (try clear hi)))
     go_meet
     case rel => exact ⟨_, (!t398), ez, H', ⟨by first | omega | exact Nat.le_refl _⟩, ⟨by refine rq ?_; exact HO375.out⟩, ⟨by refine rq ?_; exact HO378.out⟩, ⟨by refine rq ?_; exact HO381.out⟩, ⟨by refine rq ?_; exact Kd.R_mono HO384.out (fun _ hk => ⟨hk.1.2, hk.2⟩)⟩, ⟨by refine kq ?_; exact BK388.out⟩, ⟨by refine kq ?_; exact BK389.out⟩, ⟨by refine kq ?_; exact BK393.out⟩, ⟨by refine kq ?_; exact BK397.out⟩, ⟨(bz4 HB.out GE388.out GE389.out GE393.out GE397.out)⟩⟩
    ·replace c32 := Bool.eq_false_iff.mpr c32
     subst c32
     have H1 := hq H
     clear H
     have H := H1
     clear H1
     have H' := Aside0.mk H
     clear H
     go_wp2
     go_meet
     case rel => exact ⟨_, (false), ez, H', ⟨by first | omega | exact Nat.le_refl _⟩, ⟨by refine rq ?_; first | (with_reducible exact Kd.R_mono (Kd.R_far (p := ⟨gb397, 1, none⟩) (Kd.R_far (p := ⟨gb397, 0, none⟩) (Kd.R_types HO375.out BK397.out (by decide)) (fun _ hk => hk.2) (.int .i64 t394)) (fun _ hk => hk.2) (.int .i64 t395)) (fun _ hk => trivial)) | exact Kd.R_mono (Kd.R_far (p := ⟨gb397, 1, none⟩) (Kd.R_drewN (Kd.R_far (p := ⟨gb397, 0, none⟩) (Kd.R_types HO375.out BK397.out (by decide)) (fun _ hk => hk.2) (.int .i64 t394)) _) (fun _ hk => hk.2) (.int .i64 t395)) (fun _ hk => trivial)⟩, ⟨by refine rq ?_; first | (with_reducible exact Kd.R_mono (Kd.R_far (p := ⟨gb397, 1, none⟩) (Kd.R_far (p := ⟨gb397, 0, none⟩) (Kd.R_types HO378.out BK397.out (by decide)) (fun _ hk => hk.2) (.int .i64 t394)) (fun _ hk => hk.2) (.int .i64 t395)) (fun _ hk => trivial)) | exact Kd.R_mono (Kd.R_far (p := ⟨gb397, 1, none⟩) (Kd.R_drewN (Kd.R_far (p := ⟨gb397, 0, none⟩) (Kd.R_types HO378.out BK397.out (by decide)) (fun _ hk => hk.2) (.int .i64 t394)) _) (fun _ hk => hk.2) (.int .i64 t395)) (fun _ hk => trivial)⟩, ⟨by refine rq ?_; first | (with_reducible exact Kd.R_mono (Kd.R_far (p := ⟨gb397, 1, none⟩) (Kd.R_far (p := ⟨gb397, 0, none⟩) (Kd.R_types HO381.out BK397.out (by decide)) (fun _ hk => hk.2) (.int .i64 t394)) (fun _ hk => hk.2) (.int .i64 t395)) (fun _ hk => trivial)) | exact Kd.R_mono (Kd.R_far (p := ⟨gb397, 1, none⟩) (Kd.R_drewN (Kd.R_far (p := ⟨gb397, 0, none⟩) (Kd.R_types HO381.out BK397.out (by decide)) (fun _ hk => hk.2) (.int .i64 t394)) _) (fun _ hk => hk.2) (.int .i64 t395)) (fun _ hk => trivial)⟩, ⟨by refine rq ?_; first | (with_reducible exact Kd.R_mono (Kd.R_far (p := ⟨gb397, 1, none⟩) (Kd.R_far (p := ⟨gb397, 0, none⟩) (Kd.R_mono HO384.out (fun k_ hk => (⟨hk, hk.2⟩ : _ /\ k_ ≠ gb397))) (fun _ hk => hk.2) (.int .i64 t394)) (fun _ hk => hk.2) (.int .i64 t395)) (fun _ hk => ⟨hk.1.1.2, hk.1.2⟩)) | exact Kd.R_mono (Kd.R_far (p := ⟨gb397, 1, none⟩) (Kd.R_drewN (Kd.R_far (p := ⟨gb397, 0, none⟩) (Kd.R_mono HO384.out (fun k_ hk => (⟨hk, hk.2⟩ : _ /\ k_ ≠ gb397))) (fun _ hk => hk.2) (.int .i64 t394)) _) (fun _ hk => hk.2) (.int .i64 t395)) (fun _ hk => ⟨hk.1.1.2, hk.1.2⟩)⟩, ⟨by refine kq ?_; refine blk_far ?_ NB388_397.out _; refine kq ?_; refine blk_far ?_ NB388_397.out _; refine kq ?_; exact BK388.out⟩, ⟨by refine kq ?_; refine blk_far ?_ NB389_397.out _; refine kq ?_; refine blk_far ?_ NB389_397.out _; refine kq ?_; exact BK389.out⟩, ⟨by refine kq ?_; refine blk_far ?_ NB393_397.out _; refine kq ?_; refine blk_far ?_ NB393_397.out _; refine kq ?_; exact BK393.out⟩, ⟨by refine kq ?_; refine blk_put (cs := #[.int .i64 t394, .int .i64 0]) ?_ 1 _ rfl; refine kq ?_; refine blk_put (cs := #[.int .i64 0, .int .i64 0]) ?_ 0 _ rfl; refine kq ?_; exact BK397.out⟩, ⟨(bz4 HB.out GE388.out GE389.out GE393.out GE397.out)⟩⟩
  case rest =>
   clear HC7
   try clear c1
   try clear c2
   try clear p2
   try clear c3
   try clear c9
   try clear c10
   try clear c11
   try clear c12
   try clear c20
   try clear c21
   try clear c27
   try clear c28
   try clear c29
   try clear c31
   try clear c31b0
   try clear c31b1
   try clear c31b2
   try clear c32
   try clear c34
   try clear c35
   try clear c36
   try clear c38
   try clear c39
   try clear hcz13_0 hcz13_1 hcz13_2 hcz13_3
   try clear hcz17_0 hcz17_1
   try clear hcz22_0 hcz22_1
   try clear hcz23_0 hcz23_1 hcz23_2 hcz23_3
   try clear hcz24_0 hcz24_1
   try clear hcz30_0 hcz30_1
   try clear hcz37_0 hcz37_1 hcz37_2 hcz37_3
   try clear hcz40_0 hcz40_1
   try clear hfz13_0 hfz13_1 hfz13_2 hfz13_3
   try clear hfz17_0 hfz17_1
   try clear hfz22_0 hfz22_1
   try clear hfz23_0 hfz23_1 hfz23_2 hfz23_3
   try clear hfz24_0 hfz24_1
   try clear hfz30_0 hfz30_1
   try clear hfz37_0 hfz37_1 hfz37_2 hfz37_3
   try clear hfz40_0 hfz40_1
   obtain ⟨kq, x50_6, rfl, HA, HJ6, HO_389000, HO_389001, HO_389002, HO_389003, BK388, BK389, BK393, BK397, HB⟩ := hcut
   cases kq with
   | zero => exact absurd HA.out (by simp [laws_FnValues.j0])
   | succ kj6 =>
    have H := HA.out
    clear HA
    simp only [laws_FnValues.j0] at H
    by_cases c42 : x50_6 = true
    · as_aux_lemma =>
     subst c42
     have H1 := hp H
     clear H
     have H := H1
     clear H1
     obtain rfl := Option.some.inj H
     go_wp2
     go_ret
     exact ⟨gz, (bz4 HB.out GE388.out GE389.out GE393.out GE397.out)⟩
    ·replace c42 := Bool.eq_false_iff.mpr c42
     subst c42
     have H1 := hq H
     clear H
     have H := H1
     clear H1
     have HC43 := Aside0.mk H
     clear H
     go_upto_region 8 with (fail)
     go_cut [63] (fun v63 wc => ∃ (kq : Nat) (x63_42 : Bool), v63 = .bool x63_42 /\ Aside0 (laws_FnValues.j1 kq l0 t385 t392 x63_42 t373 t376 t379 t382 t386 t387 t390 t391 = some r) /\ Aside0 (kq <= kj6) /\ Aside0 (Kd.R k41 41 wc w.heap.size (fun _ => True) (.slice Ao11 t373.length co11) t373) /\ Aside0 (Kd.R k86 86 wc w.heap.size (fun _ => True) (.slice Ao14 t376.length co14) t376) /\ Aside0 (Kd.R k47 47 wc w.heap.size (fun _ => True) (.slice Ao15 t379.length co15) t379) /\ Aside0 (Kd.R k35 35 wc w.heap.size (fun k_ => k_ ≠ gb393 /\ k_ ≠ gb397) (.slice Ao16 t382.length co16) t382) /\ Aside0 (wc.heap[gb388]? = some (.cells #[(.slice Ao11 t373.length co11), (.slice Ao14 t376.length co14), (.slice Ao15 t379.length co15), (.slice Ao16 t382.length co16)] 29 (0, 0))) /\ Aside0 (wc.heap[gb389]? = some (.cells #[.int .i64 t386, .int .i64 t387] 31 (0, 0))) /\ Aside0 (wc.heap[gb393]? = some (.cells #[.int .i64 t390, .int .i64 t391] 35 (0, 0))) /\ Aside0 (wc.heap[gb397]? = some (.cells #[.int .i64 t394, .int .i64 t395] 35 (0, 0))) /\ Aside0 (Below w.heap.size w wc))
     case first => as_aux_lemma =>
      have H := HC43.out
      clear HC43
      replace H := bi H
      obtain ⟨t399, A440, H⟩ := H
      try dsimp only at H
      have A44 := Aside0.mk A440
      clear A440
      by_cases c45 : t399 = true
      ·subst c45
       have H1 := hp H
       clear H
       have H := H1
       clear H1
       by_cases c46 : t385 ≥ 0
       ·rw [if_pos c46] at H
        have c46b0 : decide (0 <= t385) = true := decide_eq_true c46
        clear c46
        (first | rw [c46b0] | (simp only [i64_w, i32_w]; rw [c46b0]) | skip)
        have H' := Aside0.mk H
        clear H
        have hnb47 := NB388_389.out
        have hnc47 := NB389_388.out
        have hnb48 := NB388_393.out
        have hnc48 := NB393_388.out
        have hnb49 := NB388_397.out
        have hnc49 := NB397_388.out
        obtain ⟨hcz50_0, hcz50_1, hcz50_2, hcz50_3⟩ := cz4 BK388.out
        obtain ⟨hfz50_0, hfz50_1, hfz50_2, hfz50_3⟩ := fz4 BK388.out
        go_wp2_with (first | ((with_reducible refine gate_callee (f := 14) rfl ?_); refine goesL_ (some 52) rfl rfl Tryd.func14 (by kernel_rfl) rfl #[.agg #[.slice Ao11 t373.length co11, .slice Ao14 t376.length co14, .slice Ao15 t379.length co15, .slice Ao16 t382.length co16]] rfl lz ?_; (with_reducible refine (spec_HeapOk.calls kj6 _ _ t373 _ _ t376 _ _ t379 _ _ t382 true _ ?side1 ?side2 ?side3 ?side4 ?side5 ?side6 ?side7 ?side8 A44.out).mono ?_); (case side1 => exact cz (Kd.R_reads' HO_389000.out).2.2); (case side2 => exact (Kd.R_reads' HO_389000.out).2.1); (case side3 => exact cz (Kd.R_reads' HO_389001.out).2.2); (case side4 => exact (Kd.R_reads' HO_389001.out).2.1); (case side5 => exact cz (Kd.R_reads' HO_389002.out).2.2); (case side6 => exact (Kd.R_reads' HO_389002.out).2.1); (case side7 => exact cz (Kd.R_reads' HO_389003.out).2.2); (case side8 => exact (Kd.R_reads' HO_389003.out).2.1); rintro e w51 ⟨rfl, hb⟩; refine ⟨_, rfl, ?_⟩; replace HO_389000 := qz HO_389000 hb; replace HO_389001 := qz HO_389001 hb; replace HO_389002 := qz HO_389002 hb; replace HO_389003 := qz HO_389003 hb; replace BK388 := Aside0.mk (blk_below (kz BK388.out) hb); replace BK389 := Aside0.mk (blk_below (kz BK389.out) hb); replace BK393 := Aside0.mk (blk_below (kz BK393.out) hb); replace BK397 := Aside0.mk (blk_below (kz BK397.out) hb); replace HB := Aside0.mk (below_step (bz4 HB.out GE388.out GE389.out GE393.out GE397.out) hb); (try clear hb); obtain ⟨hcz52_0, hcz52_1, hcz52_2, hcz52_3⟩ := cz4 BK388.out; obtain ⟨hfz52_0, hfz52_1, hfz52_2, hfz52_3⟩ := fz4 BK388.out))
        go_meet
        case rel => exact ⟨_, (decide (t385 < (t373.length : Int))), ez, H', ⟨by have := HJ6.out; first | omega | exact Nat.le_refl _⟩, ⟨by refine rq ?_; exact HO_389000.out⟩, ⟨by refine rq ?_; exact HO_389001.out⟩, ⟨by refine rq ?_; exact HO_389002.out⟩, ⟨by refine rq ?_; exact HO_389003.out⟩, ⟨by refine kq ?_; exact BK388.out⟩, ⟨by refine kq ?_; exact BK389.out⟩, ⟨by refine kq ?_; exact BK393.out⟩, ⟨by refine kq ?_; exact BK397.out⟩, ⟨(bz4 HB.out GE388.out GE389.out GE393.out GE397.out)⟩⟩
       ·rw [if_neg c46] at H
        have c46b0 : decide (0 <= t385) = false := decide_eq_false c46
        clear c46
        (first | rw [c46b0] | (simp only [i64_w, i32_w]; rw [c46b0]) | skip)
        have H' := Aside0.mk H
        clear H
        have hnb53 := NB388_389.out
        have hnc53 := NB389_388.out
        have hnb54 := NB388_393.out
        have hnc54 := NB393_388.out
        have hnb55 := NB388_397.out
        have hnc55 := NB397_388.out
        obtain ⟨hcz56_0, hcz56_1, hcz56_2, hcz56_3⟩ := cz4 BK388.out
        obtain ⟨hfz56_0, hfz56_1, hfz56_2, hfz56_3⟩ := fz4 BK388.out
        go_wp2_with (first | ((with_reducible refine gate_callee (f := 14) rfl ?_); refine goesL_ (some 52) rfl rfl Tryd.func14 (by kernel_rfl) rfl #[.agg #[.slice Ao11 t373.length co11, .slice Ao14 t376.length co14, .slice Ao15 t379.length co15, .slice Ao16 t382.length co16]] rfl lz ?_; (with_reducible refine (spec_HeapOk.calls kj6 _ _ t373 _ _ t376 _ _ t379 _ _ t382 true _ ?side1 ?side2 ?side3 ?side4 ?side5 ?side6 ?side7 ?side8 A44.out).mono ?_); (case side1 => exact cz (Kd.R_reads' HO_389000.out).2.2); (case side2 => exact (Kd.R_reads' HO_389000.out).2.1); (case side3 => exact cz (Kd.R_reads' HO_389001.out).2.2); (case side4 => exact (Kd.R_reads' HO_389001.out).2.1); (case side5 => exact cz (Kd.R_reads' HO_389002.out).2.2); (case side6 => exact (Kd.R_reads' HO_389002.out).2.1); (case side7 => exact cz (Kd.R_reads' HO_389003.out).2.2); (case side8 => exact (Kd.R_reads' HO_389003.out).2.1); rintro e w57 ⟨rfl, hb⟩; refine ⟨_, rfl, ?_⟩; replace HO_389000 := qz HO_389000 hb; replace HO_389001 := qz HO_389001 hb; replace HO_389002 := qz HO_389002 hb; replace HO_389003 := qz HO_389003 hb; replace BK388 := Aside0.mk (blk_below (kz BK388.out) hb); replace BK389 := Aside0.mk (blk_below (kz BK389.out) hb); replace BK393 := Aside0.mk (blk_below (kz BK393.out) hb); replace BK397 := Aside0.mk (blk_below (kz BK397.out) hb); replace HB := Aside0.mk (below_step (bz4 HB.out GE388.out GE389.out GE393.out GE397.out) hb); (try clear hb); (try clear hi)))
        go_meet
        case rel => exact ⟨_, (false), ez, H', ⟨by have := HJ6.out; first | omega | exact Nat.le_refl _⟩, ⟨by refine rq ?_; exact HO_389000.out⟩, ⟨by refine rq ?_; exact HO_389001.out⟩, ⟨by refine rq ?_; exact HO_389002.out⟩, ⟨by refine rq ?_; exact HO_389003.out⟩, ⟨by refine kq ?_; exact BK388.out⟩, ⟨by refine kq ?_; exact BK389.out⟩, ⟨by refine kq ?_; exact BK393.out⟩, ⟨by refine kq ?_; exact BK397.out⟩, ⟨(bz4 HB.out GE388.out GE389.out GE393.out GE397.out)⟩⟩
      ·replace c45 := Bool.eq_false_iff.mpr c45
       subst c45
       have H1 := hq H
       clear H
       have H := H1
       clear H1
       have H' := Aside0.mk H
       clear H
       have hnb58 := NB388_389.out
       have hnc58 := NB389_388.out
       have hnb59 := NB388_393.out
       have hnc59 := NB393_388.out
       have hnb60 := NB388_397.out
       have hnc60 := NB397_388.out
       obtain ⟨hcz61_0, hcz61_1, hcz61_2, hcz61_3⟩ := cz4 BK388.out
       obtain ⟨hfz61_0, hfz61_1, hfz61_2, hfz61_3⟩ := fz4 BK388.out
       go_wp2_with (first | ((with_reducible refine gate_callee (f := 14) rfl ?_); refine goesL_ (some 52) rfl rfl Tryd.func14 (by kernel_rfl) rfl #[.agg #[.slice Ao11 t373.length co11, .slice Ao14 t376.length co14, .slice Ao15 t379.length co15, .slice Ao16 t382.length co16]] rfl lz ?_; (with_reducible refine (spec_HeapOk.calls kj6 _ _ t373 _ _ t376 _ _ t379 _ _ t382 false _ ?side1 ?side2 ?side3 ?side4 ?side5 ?side6 ?side7 ?side8 A44.out).mono ?_); (case side1 => exact cz (Kd.R_reads' HO_389000.out).2.2); (case side2 => exact (Kd.R_reads' HO_389000.out).2.1); (case side3 => exact cz (Kd.R_reads' HO_389001.out).2.2); (case side4 => exact (Kd.R_reads' HO_389001.out).2.1); (case side5 => exact cz (Kd.R_reads' HO_389002.out).2.2); (case side6 => exact (Kd.R_reads' HO_389002.out).2.1); (case side7 => exact cz (Kd.R_reads' HO_389003.out).2.2); (case side8 => exact (Kd.R_reads' HO_389003.out).2.1); rintro e w62 ⟨rfl, hb⟩; refine ⟨_, rfl, ?_⟩; replace HO_389000 := qz HO_389000 hb; replace HO_389001 := qz HO_389001 hb; replace HO_389002 := qz HO_389002 hb; replace HO_389003 := qz HO_389003 hb; replace BK388 := Aside0.mk (blk_below (kz BK388.out) hb); replace BK389 := Aside0.mk (blk_below (kz BK389.out) hb); replace BK393 := Aside0.mk (blk_below (kz BK393.out) hb); replace BK397 := Aside0.mk (blk_below (kz BK397.out) hb); replace HB := Aside0.mk (below_step (bz4 HB.out GE388.out GE389.out GE393.out GE397.out) hb); (try clear hb); (try clear hi)))
       go_meet
       case rel => exact ⟨_, (false), ez, H', ⟨by have := HJ6.out; first | omega | exact Nat.le_refl _⟩, ⟨by refine rq ?_; exact HO_389000.out⟩, ⟨by refine rq ?_; exact HO_389001.out⟩, ⟨by refine rq ?_; exact HO_389002.out⟩, ⟨by refine rq ?_; exact HO_389003.out⟩, ⟨by refine kq ?_; exact BK388.out⟩, ⟨by refine kq ?_; exact BK389.out⟩, ⟨by refine kq ?_; exact BK393.out⟩, ⟨by refine kq ?_; exact BK397.out⟩, ⟨(bz4 HB.out GE388.out GE389.out GE393.out GE397.out)⟩⟩
     case rest =>
      clear HC43
      try clear c1
      try clear c2
      try clear p2
      try clear c3
      try clear c4
      try clear c5
      try clear c6
      try clear c9
      try clear c10
      try clear c11
      try clear c12
      try clear c14
      try clear c20
      try clear c21
      try clear c27
      try clear c28
      try clear c29
      try clear c31
      try clear c31b0
      try clear c31b1
      try clear c31b2
      try clear c32
      try clear c34
      try clear c35
      try clear c36
      try clear c38
      try clear c39
      try clear c42
      try clear c45
      try clear c46
      try clear c46b0
      try clear c47
      try clear c48
      try clear c49
      try clear c53
      try clear c54
      try clear c55
      try clear c58
      try clear c59
      try clear c60
      try clear hcz13_0 hcz13_1 hcz13_2 hcz13_3
      try clear hcz17_0 hcz17_1
      try clear hcz22_0 hcz22_1
      try clear hcz23_0 hcz23_1 hcz23_2 hcz23_3
      try clear hcz24_0 hcz24_1
      try clear hcz30_0 hcz30_1
      try clear hcz37_0 hcz37_1 hcz37_2 hcz37_3
      try clear hcz40_0 hcz40_1
      try clear hcz50_0 hcz50_1 hcz50_2 hcz50_3
      try clear hcz52_0 hcz52_1 hcz52_2 hcz52_3
      try clear hcz56_0 hcz56_1 hcz56_2 hcz56_3
      try clear hcz61_0 hcz61_1 hcz61_2 hcz61_3
      try clear hfz13_0 hfz13_1 hfz13_2 hfz13_3
      try clear hfz17_0 hfz17_1
      try clear hfz22_0 hfz22_1
      try clear hfz23_0 hfz23_1 hfz23_2 hfz23_3
      try clear hfz24_0 hfz24_1
      try clear hfz30_0 hfz30_1
      try clear hfz37_0 hfz37_1 hfz37_2 hfz37_3
      try clear hfz40_0 hfz40_1
      try clear hfz50_0 hfz50_1 hfz50_2 hfz50_3
      try clear hfz52_0 hfz52_1 hfz52_2 hfz52_3
      try clear hfz56_0 hfz56_1 hfz56_2 hfz56_3
      try clear hfz61_0 hfz61_1 hfz61_2 hfz61_3
      try clear p2
      obtain ⟨kq, x63_42, rfl, HA, HJ42, HO_389000, HO_389001, HO_389002, HO_389003, BK388, BK389, BK393, BK397, HB⟩ := hcut
      cases kq with
      | zero => exact absurd HA.out (by simp [laws_FnValues.j1])
      | succ kj42 =>
       have H := HA.out
       clear HA
       simp only [laws_FnValues.j1] at H
       have HC63 := Aside0.mk H
       clear H
       go_upto_if 63 with (fail)
       go_cut [] (fun wc => ∃ (kq : Nat), Aside0 (laws_FnValues.j3 kq l0 = some r) /\ Aside0 (kq <= kj42) /\ Aside0 (Kd.R k41 41 wc w.heap.size (fun _ => True) (.slice Ao11 t373.length co11) t373) /\ Aside0 (Kd.R k86 86 wc w.heap.size (fun _ => True) (.slice Ao14 t376.length co14) t376) /\ Aside0 (Kd.R k47 47 wc w.heap.size (fun _ => True) (.slice Ao15 t379.length co15) t379) /\ Aside0 (Kd.R k35 35 wc w.heap.size (fun k_ => k_ ≠ gb393 /\ k_ ≠ gb397) (.slice Ao16 t382.length co16) t382) /\ Aside0 (wc.heap[gb388]? = some (.cells #[(.slice Ao11 t373.length co11), (.slice Ao14 t376.length co14), (.slice Ao15 t379.length co15), (.slice Ao16 t382.length co16)] 29 (0, 0))) /\ Aside0 (wc.heap[gb389]? = some (.cells #[.int .i64 t386, .int .i64 t387] 31 (0, 0))) /\ Aside0 (wc.heap[gb393]? = some (.cells #[.int .i64 t390, .int .i64 t391] 35 (0, 0))) /\ Aside0 (wc.heap[gb397]? = some (.cells #[.int .i64 t394, .int .i64 t395] 35 (0, 0))) /\ Aside0 (Below w.heap.size w wc))
       case first =>
        have H := HC63.out
        clear HC63
        by_cases c64 : x63_42 = true
        ·subst c64
         have H1 := hp H
         clear H
         have H := H1
         clear H1
         replace H := iz H
         obtain ⟨c65, H⟩ := H
         have c65b0 := decide_eq_true c65
         clear c65
         (first | rw [c65b0] | (simp only [i64_w, i32_w]; rw [c65b0]) | skip)
         replace H := iz H
         obtain ⟨c66, H⟩ := H
         have c66b0 := decide_eq_true c66
         clear c66
         have HC67 := Aside0.mk H
         clear H
         have hnb68 := NB388_389.out
         have hnc68 := NB389_388.out
         have hnb69 := NB388_393.out
         have hnc69 := NB393_388.out
         have hnb70 := NB388_397.out
         have hnc70 := NB397_388.out
         obtain ⟨hcz71_0, hcz71_1, hcz71_2, hcz71_3⟩ := cz4 BK388.out
         obtain ⟨hfz71_0, hfz71_1, hfz71_2, hfz71_3⟩ := fz4 BK388.out
         have p400 : 0 <= (t385 : Int) := oz
         have q400 : t385 < (t373.length : Int) := oz
         obtain ⟨ad400, e400, hx400_0, hx400_1, hx400_2, hx400_3, hx400_4⟩ := at_T41 (Kd.R_reads' HO_389000.out).2.2 t385 p400 q400
         cases e400
         replace p400 := eq_true p400
         replace q400 := eq_true q400
         go_upto_region 10 with (first | ((with_reducible refine gate_dst (N := 10) rfl ?_); (try (refine gate_guard (by rfl) ?_; dsimp only)); refine box_event ?hg (N := 10) ?hd (cs := #[.int .i64 0, .int .i64 0, .int .i64 0, .int .i64 0, .int .i64 0]) (t := 41) ?hr ?_; (case hd => rfl); (case hg => rfl); (case hr => exact vz); intro gb401 hg w72 hbox hb; replace HO_389000 := Aside0.mk (Kd.R_below (Kd.R_elderB (rz HO_389000.out) gb401 (Nat.le_of_eq hg.symm)) hb); replace HO_389001 := qz HO_389001 hb; replace HO_389002 := qz HO_389002 hb; replace HO_389003 := qz HO_389003 hb; have BK401 := Aside0.mk (hbox); have GW401 := Aside0.mk ((by rw [hg]; exact (below_size (bz4 HB.out GE388.out GE389.out GE393.out GE397.out)) : w.heap.size <= gb401)); have GE401 := GW401; replace HB := Aside0.mk (below_step (bz4 HB.out GE388.out GE389.out GE393.out GE397.out) hb); have NB388_401 := Aside0.mk ((by rw [hg]; exact Nat.ne_of_lt (blk_lt (kz BK388.out)) : gb388 ≠ gb401)); have NB401_388 := Aside0.mk ((by rw [hg]; exact Nat.ne_of_gt (blk_lt (kz BK388.out)) : gb401 ≠ gb388)); replace BK388 := Aside0.mk (blk_below (kz BK388.out) hb); have NB389_401 := Aside0.mk ((by rw [hg]; exact Nat.ne_of_lt (blk_lt (kz BK389.out)) : gb389 ≠ gb401)); have NB401_389 := Aside0.mk ((by rw [hg]; exact Nat.ne_of_gt (blk_lt (kz BK389.out)) : gb401 ≠ gb389)); replace BK389 := Aside0.mk (blk_below (kz BK389.out) hb); have NB393_401 := Aside0.mk ((by rw [hg]; exact Nat.ne_of_lt (blk_lt (kz BK393.out)) : gb393 ≠ gb401)); have NB401_393 := Aside0.mk ((by rw [hg]; exact Nat.ne_of_gt (blk_lt (kz BK393.out)) : gb401 ≠ gb393)); replace BK393 := Aside0.mk (blk_below (kz BK393.out) hb); have NB397_401 := Aside0.mk ((by rw [hg]; exact Nat.ne_of_lt (blk_lt (kz BK397.out)) : gb397 ≠ gb401)); have NB401_397 := Aside0.mk ((by rw [hg]; exact Nat.ne_of_gt (blk_lt (kz BK397.out)) : gb401 ≠ gb397)); replace BK397 := Aside0.mk (blk_below (kz BK397.out) hb); clear hb hbox hg; have hnb73 := NB401_388.out; have hnc73 := NB388_401.out; have hnb74 := NB401_389.out; have hnc74 := NB389_401.out; have hnb75 := NB401_393.out; have hnc75 := NB393_401.out; have hnb76 := NB401_397.out; have hnc76 := NB397_401.out; obtain ⟨hcz77_0, hcz77_1, hcz77_2, hcz77_3, hcz77_4⟩ := cz5 BK401.out; obtain ⟨hfz77_0, hfz77_1, hfz77_2, hfz77_3, hfz77_4⟩ := fz5 BK401.out))
         (try simp only [Act.put, sz1, sz2, sz3])
         go_cut [90] (fun v90 wc => ∃ (kq : Nat) (x90_66 : Bool), v90 = .bool x90_66 /\ Aside0 (laws_FnValues.j2 kq l0 t392 x90_66 t373 t376 t379 t382 t386 t387 t390 t391 ((rd_T41 t373 t385).f0) ((rd_T41 t373 t385).f1) ((rd_T41 t373 t385).f2.f0) ((rd_T41 t373 t385).f2.f1) ((rd_T41 t373 t385).f3) = some r) /\ Aside0 (kq <= kj42) /\ Aside0 (Kd.R k41 41 wc w.heap.size (fun k_ => k_ ≠ gb401) (.slice (some ad400) t373.length co11) t373) /\ Aside0 (Kd.R k86 86 wc w.heap.size (fun _ => True) (.slice Ao14 t376.length co14) t376) /\ Aside0 (Kd.R k47 47 wc w.heap.size (fun _ => True) (.slice Ao15 t379.length co15) t379) /\ Aside0 (Kd.R k35 35 wc w.heap.size (fun k_ => k_ ≠ gb393 /\ k_ ≠ gb397) (.slice Ao16 t382.length co16) t382) /\ Aside0 (wc.heap[gb388]? = some (.cells #[(.slice (some ad400) t373.length co11), (.slice Ao14 t376.length co14), (.slice Ao15 t379.length co15), (.slice Ao16 t382.length co16)] 29 (0, 0))) /\ Aside0 (wc.heap[gb389]? = some (.cells #[.int .i64 t386, .int .i64 t387] 31 (0, 0))) /\ Aside0 (wc.heap[gb393]? = some (.cells #[.int .i64 t390, .int .i64 t391] 35 (0, 0))) /\ Aside0 (wc.heap[gb397]? = some (.cells #[.int .i64 t394, .int .i64 t395] 35 (0, 0))) /\ Aside0 (wc.heap[gb401]? = some (.cells #[.int .i64 ((rd_T41 t373 t385).f0), .int .i64 ((rd_T41 t373 t385).f1), .int .i64 ((rd_T41 t373 t385).f2.f0), .int .i64 ((rd_T41 t373 t385).f2.f1), .int .i64 ((rd_T41 t373 t385).f3)] 41 (0, 0))) /\ Aside0 (Below w.heap.size w wc))
         case first =>
          have H := HC67.out
          clear HC67
          by_cases c78 : ((rd_T41 t373 t385).f0) = t386
          ·rw [if_pos c78] at H
           have c78b0 : (((rd_T41 t373 t385).f0) == t386) = true := beq_iff_eq.mpr c78
           have c78b1 : (((rd_T41 t373 t385).f0) != t386) = false := bne_eq_false_iff_eq.mpr c78
           clear c78
           (first | rw [c78b0] | (simp only [i64_w, i32_w]; rw [c78b0]) | skip)
           by_cases c79 : ((rd_T41 t373 t385).f1) = t387
           ·rw [if_pos c79] at H
            have c79b0 : (((rd_T41 t373 t385).f1) == t387) = true := beq_iff_eq.mpr c79
            have c79b1 : (((rd_T41 t373 t385).f1) != t387) = false := bne_eq_false_iff_eq.mpr c79
            clear c79
            by_cases c80 : t392 = true
            ·subst c80
             have H1 := hp H
             clear H
             have H := H1
             clear H1
             have H' := Aside0.mk H
             clear H
             have hnb81 := NB401_388.out
             have hnc81 := NB388_401.out
             have hnb82 := NB401_389.out
             have hnc82 := NB389_401.out
             have hnb83 := NB401_393.out
             have hnc83 := NB393_401.out
             have hnb84 := NB401_397.out
             have hnc84 := NB397_401.out
             obtain ⟨hcz85_0, hcz85_1, hcz85_2, hcz85_3, hcz85_4⟩ := cz5 BK401.out
             obtain ⟨hfz85_0, hfz85_1, hfz85_2, hfz85_3, hfz85_4⟩ := fz5 BK401.out
             have hnb86 := NB389_388.out
             have hnc86 := NB388_389.out
             have hnb87 := NB389_393.out
             have hnc87 := NB393_389.out
             have hnb88 := NB389_397.out
             have hnc88 := NB397_389.out
             obtain ⟨hcz89_0, hcz89_1⟩ := cz2 BK389.out
             obtain ⟨hfz89_0, hfz89_1⟩ := fz2 BK389.out
             have hnb90 := NB393_388.out
             have hnc90 := NB388_393.out
             have hnb91 := NB393_397.out
             have hnc91 := NB397_393.out
             obtain ⟨hcz92_0, hcz92_1⟩ := cz2 BK393.out
             obtain ⟨hfz92_0, hfz92_1⟩ := fz2 BK393.out
             go_wp2
             go_meet
             case rel => exact ⟨_, ((!(t390 == ((rd_T41 t373 t385).f2.f0)) || (!(t391 == ((rd_T41 t373 t385).f2.f1))))), ez, H', ⟨by have := HJ6.out; have := HJ42.out; first | omega | exact Nat.le_refl _⟩, ⟨by refine rq ?_; first | (with_reducible exact Kd.R_mono (Kd.R_far (p := ⟨gb401, 4, none⟩) (Kd.R_far (p := ⟨gb401, 3, none⟩) (Kd.R_far (p := ⟨gb401, 2, none⟩) (Kd.R_far (p := ⟨gb401, 1, none⟩) (Kd.R_far (p := ⟨gb401, 0, none⟩) (Kd.R_mono HO_389000.out (fun k_ hk => (⟨hk, hk.2⟩ : _ /\ k_ ≠ gb401))) (fun _ hk => hk.2) (.int .i64 ((rd_T41 t373 t385).f0))) (fun _ hk => hk.2) (.int .i64 ((rd_T41 t373 t385).f1))) (fun _ hk => hk.2) (.int .i64 ((rd_T41 t373 t385).f2.f0))) (fun _ hk => hk.2) (.int .i64 ((rd_T41 t373 t385).f2.f1))) (fun _ hk => hk.2) (.int .i64 ((rd_T41 t373 t385).f3))) (fun _ hk => hk.1.2)) | exact Kd.R_mono (Kd.R_far (p := ⟨gb401, 4, none⟩) (Kd.R_drewN (Kd.R_far (p := ⟨gb401, 3, none⟩) (Kd.R_far (p := ⟨gb401, 2, none⟩) (Kd.R_far (p := ⟨gb401, 1, none⟩) (Kd.R_far (p := ⟨gb401, 0, none⟩) (Kd.R_mono HO_389000.out (fun k_ hk => (⟨hk, hk.2⟩ : _ /\ k_ ≠ gb401))) (fun _ hk => hk.2) (.int .i64 ((rd_T41 t373 t385).f0))) (fun _ hk => hk.2) (.int .i64 ((rd_T41 t373 t385).f1))) (fun _ hk => hk.2) (.int .i64 ((rd_T41 t373 t385).f2.f0))) (fun _ hk => hk.2) (.int .i64 ((rd_T41 t373 t385).f2.f1))) _) (fun _ hk => hk.2) (.int .i64 ((rd_T41 t373 t385).f3))) (fun _ hk => hk.1.2)⟩, ⟨by refine rq ?_; first | (with_reducible exact Kd.R_mono (Kd.R_far (p := ⟨gb401, 4, none⟩) (Kd.R_far (p := ⟨gb401, 3, none⟩) (Kd.R_far (p := ⟨gb401, 2, none⟩) (Kd.R_far (p := ⟨gb401, 1, none⟩) (Kd.R_far (p := ⟨gb401, 0, none⟩) (Kd.R_types HO_389001.out BK401.out (by decide)) (fun _ hk => hk.2) (.int .i64 ((rd_T41 t373 t385).f0))) (fun _ hk => hk.2) (.int .i64 ((rd_T41 t373 t385).f1))) (fun _ hk => hk.2) (.int .i64 ((rd_T41 t373 t385).f2.f0))) (fun _ hk => hk.2) (.int .i64 ((rd_T41 t373 t385).f2.f1))) (fun _ hk => hk.2) (.int .i64 ((rd_T41 t373 t385).f3))) (fun _ hk => trivial)) | exact Kd.R_mono (Kd.R_far (p := ⟨gb401, 4, none⟩) (Kd.R_drewN (Kd.R_far (p := ⟨gb401, 3, none⟩) (Kd.R_far (p := ⟨gb401, 2, none⟩) (Kd.R_far (p := ⟨gb401, 1, none⟩) (Kd.R_far (p := ⟨gb401, 0, none⟩) (Kd.R_types HO_389001.out BK401.out (by decide)) (fun _ hk => hk.2) (.int .i64 ((rd_T41 t373 t385).f0))) (fun _ hk => hk.2) (.int .i64 ((rd_T41 t373 t385).f1))) (fun _ hk => hk.2) (.int .i64 ((rd_T41 t373 t385).f2.f0))) (fun _ hk => hk.2) (.int .i64 ((rd_T41 t373 t385).f2.f1))) _) (fun _ hk => hk.2) (.int .i64 ((rd_T41 t373 t385).f3))) (fun _ hk => trivial)⟩, ⟨by refine rq ?_; first | (with_reducible exact Kd.R_mono (Kd.R_far (p := ⟨gb401, 4, none⟩) (Kd.R_far (p := ⟨gb401, 3, none⟩) (Kd.R_far (p := ⟨gb401, 2, none⟩) (Kd.R_far (p := ⟨gb401, 1, none⟩) (Kd.R_far (p := ⟨gb401, 0, none⟩) (Kd.R_types HO_389002.out BK401.out (by decide)) (fun _ hk => hk.2) (.int .i64 ((rd_T41 t373 t385).f0))) (fun _ hk => hk.2) (.int .i64 ((rd_T41 t373 t385).f1))) (fun _ hk => hk.2) (.int .i64 ((rd_T41 t373 t385).f2.f0))) (fun _ hk => hk.2) (.int .i64 ((rd_T41 t373 t385).f2.f1))) (fun _ hk => hk.2) (.int .i64 ((rd_T41 t373 t385).f3))) (fun _ hk => trivial)) | exact Kd.R_mono (Kd.R_far (p := ⟨gb401, 4, none⟩) (Kd.R_drewN (Kd.R_far (p := ⟨gb401, 3, none⟩) (Kd.R_far (p := ⟨gb401, 2, none⟩) (Kd.R_far (p := ⟨gb401, 1, none⟩) (Kd.R_far (p := ⟨gb401, 0, none⟩) (Kd.R_types HO_389002.out BK401.out (by decide)) (fun _ hk => hk.2) (.int .i64 ((rd_T41 t373 t385).f0))) (fun _ hk => hk.2) (.int .i64 ((rd_T41 t373 t385).f1))) (fun _ hk => hk.2) (.int .i64 ((rd_T41 t373 t385).f2.f0))) (fun _ hk => hk.2) (.int .i64 ((rd_T41 t373 t385).f2.f1))) _) (fun _ hk => hk.2) (.int .i64 ((rd_T41 t373 t385).f3))) (fun _ hk => trivial)⟩, ⟨by refine rq ?_; first | (with_reducible exact Kd.R_mono (Kd.R_far (p := ⟨gb401, 4, none⟩) (Kd.R_far (p := ⟨gb401, 3, none⟩) (Kd.R_far (p := ⟨gb401, 2, none⟩) (Kd.R_far (p := ⟨gb401, 1, none⟩) (Kd.R_far (p := ⟨gb401, 0, none⟩) (Kd.R_types HO_389003.out BK401.out (by decide)) (fun _ hk => hk.2) (.int .i64 ((rd_T41 t373 t385).f0))) (fun _ hk => hk.2) (.int .i64 ((rd_T41 t373 t385).f1))) (fun _ hk => hk.2) (.int .i64 ((rd_T41 t373 t385).f2.f0))) (fun _ hk => hk.2) (.int .i64 ((rd_T41 t373 t385).f2.f1))) (fun _ hk => hk.2) (.int .i64 ((rd_T41 t373 t385).f3))) (fun _ hk => ⟨hk.1.1, hk.1.2⟩)) | exact Kd.R_mono (Kd.R_far (p := ⟨gb401, 4, none⟩) (Kd.R_drewN (Kd.R_far (p := ⟨gb401, 3, none⟩) (Kd.R_far (p := ⟨gb401, 2, none⟩) (Kd.R_far (p := ⟨gb401, 1, none⟩) (Kd.R_far (p := ⟨gb401, 0, none⟩) (Kd.R_types HO_389003.out BK401.out (by decide)) (fun _ hk => hk.2) (.int .i64 ((rd_T41 t373 t385).f0))) (fun _ hk => hk.2) (.int .i64 ((rd_T41 t373 t385).f1))) (fun _ hk => hk.2) (.int .i64 ((rd_T41 t373 t385).f2.f0))) (fun _ hk => hk.2) (.int .i64 ((rd_T41 t373 t385).f2.f1))) _) (fun _ hk => hk.2) (.int .i64 ((rd_T41 t373 t385).f3))) (fun _ hk => ⟨hk.1.1, hk.1.2⟩)⟩, ⟨by refine kq ?_; refine blk_far ?_ NB388_401.out _; refine kq ?_; refine blk_far ?_ NB388_401.out _; refine kq ?_; refine blk_far ?_ NB388_401.out _; refine kq ?_; refine blk_far ?_ NB388_401.out _; refine kq ?_; refine blk_far ?_ NB388_401.out _; refine kq ?_; exact BK388.out⟩, ⟨by refine kq ?_; refine blk_far ?_ NB389_401.out _; refine kq ?_; refine blk_far ?_ NB389_401.out _; refine kq ?_; refine blk_far ?_ NB389_401.out _; refine kq ?_; refine blk_far ?_ NB389_401.out _; refine kq ?_; refine blk_far ?_ NB389_401.out _; refine kq ?_; exact BK389.out⟩, ⟨by refine kq ?_; refine blk_far ?_ NB393_401.out _; refine kq ?_; refine blk_far ?_ NB393_401.out _; refine kq ?_; refine blk_far ?_ NB393_401.out _; refine kq ?_; refine blk_far ?_ NB393_401.out _; refine kq ?_; refine blk_far ?_ NB393_401.out _; refine kq ?_; exact BK393.out⟩, ⟨by refine kq ?_; refine blk_far ?_ NB397_401.out _; refine kq ?_; refine blk_far ?_ NB397_401.out _; refine kq ?_; refine blk_far ?_ NB397_401.out _; refine kq ?_; refine blk_far ?_ NB397_401.out _; refine kq ?_; refine blk_far ?_ NB397_401.out _; refine kq ?_; exact BK397.out⟩, ⟨by refine kq ?_; refine blk_put (cs := #[.int .i64 ((rd_T41 t373 t385).f0), .int .i64 ((rd_T41 t373 t385).f1), .int .i64 ((rd_T41 t373 t385).f2.f0), .int .i64 ((rd_T41 t373 t385).f2.f1), .int .i64 0]) ?_ 4 _ rfl; refine kq ?_; refine blk_put (cs := #[.int .i64 ((rd_T41 t373 t385).f0), .int .i64 ((rd_T41 t373 t385).f1), .int .i64 ((rd_T41 t373 t385).f2.f0), .int .i64 0, .int .i64 0]) ?_ 3 _ rfl; refine kq ?_; refine blk_put (cs := #[.int .i64 ((rd_T41 t373 t385).f0), .int .i64 ((rd_T41 t373 t385).f1), .int .i64 0, .int .i64 0, .int .i64 0]) ?_ 2 _ rfl; refine kq ?_; refine blk_put (cs := #[.int .i64 ((rd_T41 t373 t385).f0), .int .i64 0, .int .i64 0, .int .i64 0, .int .i64 0]) ?_ 1 _ rfl; refine kq ?_; refine blk_put (cs := #[.int .i64 0, .int .i64 0, .int .i64 0, .int .i64 0, .int .i64 0]) ?_ 0 _ rfl; refine kq ?_; exact BK401.out⟩, ⟨(bz5 HB.out GE388.out GE389.out GE393.out GE397.out GE401.out)⟩⟩
            ·replace c80 := Bool.eq_false_iff.mpr c80
             subst c80
             have H1 := hq H
             clear H
             have H := H1
             clear H1
             have H' := Aside0.mk H
             clear H
             have hnb93 := NB401_388.out
             have hnc93 := NB388_401.out
             have hnb94 := NB401_389.out
             have hnc94 := NB389_401.out
             have hnb95 := NB401_393.out
             have hnc95 := NB393_401.out
             have hnb96 := NB401_397.out
             have hnc96 := NB397_401.out
             obtain ⟨hcz97_0, hcz97_1, hcz97_2, hcz97_3, hcz97_4⟩ := cz5 BK401.out
             obtain ⟨hfz97_0, hfz97_1, hfz97_2, hfz97_3, hfz97_4⟩ := fz5 BK401.out
             have hnb98 := NB389_388.out
             have hnc98 := NB388_389.out
             have hnb99 := NB389_393.out
             have hnc99 := NB393_389.out
             have hnb100 := NB389_397.out
             have hnc100 := NB397_389.out
             obtain ⟨hcz101_0, hcz101_1⟩ := cz2 BK389.out
             obtain ⟨hfz101_0, hfz101_1⟩ := fz2 BK389.out
             go_wp2
             go_meet
             case rel => exact ⟨_, (true), ez, H', ⟨by have := HJ6.out; have := HJ42.out; first | omega | exact Nat.le_refl _⟩, ⟨by refine rq ?_; first | (with_reducible exact Kd.R_mono (Kd.R_far (p := ⟨gb401, 4, none⟩) (Kd.R_far (p := ⟨gb401, 3, none⟩) (Kd.R_far (p := ⟨gb401, 2, none⟩) (Kd.R_far (p := ⟨gb401, 1, none⟩) (Kd.R_far (p := ⟨gb401, 0, none⟩) (Kd.R_mono HO_389000.out (fun k_ hk => (⟨hk, hk.2⟩ : _ /\ k_ ≠ gb401))) (fun _ hk => hk.2) (.int .i64 ((rd_T41 t373 t385).f0))) (fun _ hk => hk.2) (.int .i64 ((rd_T41 t373 t385).f1))) (fun _ hk => hk.2) (.int .i64 ((rd_T41 t373 t385).f2.f0))) (fun _ hk => hk.2) (.int .i64 ((rd_T41 t373 t385).f2.f1))) (fun _ hk => hk.2) (.int .i64 ((rd_T41 t373 t385).f3))) (fun _ hk => hk.1.2)) | exact Kd.R_mono (Kd.R_far (p := ⟨gb401, 4, none⟩) (Kd.R_drewN (Kd.R_far (p := ⟨gb401, 3, none⟩) (Kd.R_far (p := ⟨gb401, 2, none⟩) (Kd.R_far (p := ⟨gb401, 1, none⟩) (Kd.R_far (p := ⟨gb401, 0, none⟩) (Kd.R_mono HO_389000.out (fun k_ hk => (⟨hk, hk.2⟩ : _ /\ k_ ≠ gb401))) (fun _ hk => hk.2) (.int .i64 ((rd_T41 t373 t385).f0))) (fun _ hk => hk.2) (.int .i64 ((rd_T41 t373 t385).f1))) (fun _ hk => hk.2) (.int .i64 ((rd_T41 t373 t385).f2.f0))) (fun _ hk => hk.2) (.int .i64 ((rd_T41 t373 t385).f2.f1))) _) (fun _ hk => hk.2) (.int .i64 ((rd_T41 t373 t385).f3))) (fun _ hk => hk.1.2)⟩, ⟨by refine rq ?_; first | (with_reducible exact Kd.R_mono (Kd.R_far (p := ⟨gb401, 4, none⟩) (Kd.R_far (p := ⟨gb401, 3, none⟩) (Kd.R_far (p := ⟨gb401, 2, none⟩) (Kd.R_far (p := ⟨gb401, 1, none⟩) (Kd.R_far (p := ⟨gb401, 0, none⟩) (Kd.R_types HO_389001.out BK401.out (by decide)) (fun _ hk => hk.2) (.int .i64 ((rd_T41 t373 t385).f0))) (fun _ hk => hk.2) (.int .i64 ((rd_T41 t373 t385).f1))) (fun _ hk => hk.2) (.int .i64 ((rd_T41 t373 t385).f2.f0))) (fun _ hk => hk.2) (.int .i64 ((rd_T41 t373 t385).f2.f1))) (fun _ hk => hk.2) (.int .i64 ((rd_T41 t373 t385).f3))) (fun _ hk => trivial)) | exact Kd.R_mono (Kd.R_far (p := ⟨gb401, 4, none⟩) (Kd.R_drewN (Kd.R_far (p := ⟨gb401, 3, none⟩) (Kd.R_far (p := ⟨gb401, 2, none⟩) (Kd.R_far (p := ⟨gb401, 1, none⟩) (Kd.R_far (p := ⟨gb401, 0, none⟩) (Kd.R_types HO_389001.out BK401.out (by decide)) (fun _ hk => hk.2) (.int .i64 ((rd_T41 t373 t385).f0))) (fun _ hk => hk.2) (.int .i64 ((rd_T41 t373 t385).f1))) (fun _ hk => hk.2) (.int .i64 ((rd_T41 t373 t385).f2.f0))) (fun _ hk => hk.2) (.int .i64 ((rd_T41 t373 t385).f2.f1))) _) (fun _ hk => hk.2) (.int .i64 ((rd_T41 t373 t385).f3))) (fun _ hk => trivial)⟩, ⟨by refine rq ?_; first | (with_reducible exact Kd.R_mono (Kd.R_far (p := ⟨gb401, 4, none⟩) (Kd.R_far (p := ⟨gb401, 3, none⟩) (Kd.R_far (p := ⟨gb401, 2, none⟩) (Kd.R_far (p := ⟨gb401, 1, none⟩) (Kd.R_far (p := ⟨gb401, 0, none⟩) (Kd.R_types HO_389002.out BK401.out (by decide)) (fun _ hk => hk.2) (.int .i64 ((rd_T41 t373 t385).f0))) (fun _ hk => hk.2) (.int .i64 ((rd_T41 t373 t385).f1))) (fun _ hk => hk.2) (.int .i64 ((rd_T41 t373 t385).f2.f0))) (fun _ hk => hk.2) (.int .i64 ((rd_T41 t373 t385).f2.f1))) (fun _ hk => hk.2) (.int .i64 ((rd_T41 t373 t385).f3))) (fun _ hk => trivial)) | exact Kd.R_mono (Kd.R_far (p := ⟨gb401, 4, none⟩) (Kd.R_drewN (Kd.R_far (p := ⟨gb401, 3, none⟩) (Kd.R_far (p := ⟨gb401, 2, none⟩) (Kd.R_far (p := ⟨gb401, 1, none⟩) (Kd.R_far (p := ⟨gb401, 0, none⟩) (Kd.R_types HO_389002.out BK401.out (by decide)) (fun _ hk => hk.2) (.int .i64 ((rd_T41 t373 t385).f0))) (fun _ hk => hk.2) (.int .i64 ((rd_T41 t373 t385).f1))) (fun _ hk => hk.2) (.int .i64 ((rd_T41 t373 t385).f2.f0))) (fun _ hk => hk.2) (.int .i64 ((rd_T41 t373 t385).f2.f1))) _) (fun _ hk => hk.2) (.int .i64 ((rd_T41 t373 t385).f3))) (fun _ hk => trivial)⟩, ⟨by refine rq ?_; first | (with_reducible exact Kd.R_mono (Kd.R_far (p := ⟨gb401, 4, none⟩) (Kd.R_far (p := ⟨gb401, 3, none⟩) (Kd.R_far (p := ⟨gb401, 2, none⟩) (Kd.R_far (p := ⟨gb401, 1, none⟩) (Kd.R_far (p := ⟨gb401, 0, none⟩) (Kd.R_types HO_389003.out BK401.out (by decide)) (fun _ hk => hk.2) (.int .i64 ((rd_T41 t373 t385).f0))) (fun _ hk => hk.2) (.int .i64 ((rd_T41 t373 t385).f1))) (fun _ hk => hk.2) (.int .i64 ((rd_T41 t373 t385).f2.f0))) (fun _ hk => hk.2) (.int .i64 ((rd_T41 t373 t385).f2.f1))) (fun _ hk => hk.2) (.int .i64 ((rd_T41 t373 t385).f3))) (fun _ hk => ⟨hk.1.1, hk.1.2⟩)) | exact Kd.R_mono (Kd.R_far (p := ⟨gb401, 4, none⟩) (Kd.R_drewN (Kd.R_far (p := ⟨gb401, 3, none⟩) (Kd.R_far (p := ⟨gb401, 2, none⟩) (Kd.R_far (p := ⟨gb401, 1, none⟩) (Kd.R_far (p := ⟨gb401, 0, none⟩) (Kd.R_types HO_389003.out BK401.out (by decide)) (fun _ hk => hk.2) (.int .i64 ((rd_T41 t373 t385).f0))) (fun _ hk => hk.2) (.int .i64 ((rd_T41 t373 t385).f1))) (fun _ hk => hk.2) (.int .i64 ((rd_T41 t373 t385).f2.f0))) (fun _ hk => hk.2) (.int .i64 ((rd_T41 t373 t385).f2.f1))) _) (fun _ hk => hk.2) (.int .i64 ((rd_T41 t373 t385).f3))) (fun _ hk => ⟨hk.1.1, hk.1.2⟩)⟩, ⟨by refine kq ?_; refine blk_far ?_ NB388_401.out _; refine kq ?_; refine blk_far ?_ NB388_401.out _; refine kq ?_; refine blk_far ?_ NB388_401.out _; refine kq ?_; refine blk_far ?_ NB388_401.out _; refine kq ?_; refine blk_far ?_ NB388_401.out _; refine kq ?_; exact BK388.out⟩, ⟨by refine kq ?_; refine blk_far ?_ NB389_401.out _; refine kq ?_; refine blk_far ?_ NB389_401.out _; refine kq ?_; refine blk_far ?_ NB389_401.out _; refine kq ?_; refine blk_far ?_ NB389_401.out _; refine kq ?_; refine blk_far ?_ NB389_401.out _; refine kq ?_; exact BK389.out⟩, ⟨by refine kq ?_; refine blk_far ?_ NB393_401.out _; refine kq ?_; refine blk_far ?_ NB393_401.out _; refine kq ?_; refine blk_far ?_ NB393_401.out _; refine kq ?_; refine blk_far ?_ NB393_401.out _; refine kq ?_; refine blk_far ?_ NB393_401.out _; refine kq ?_; exact BK393.out⟩, ⟨by refine kq ?_; refine blk_far ?_ NB397_401.out _; refine kq ?_; refine blk_far ?_ NB397_401.out _; refine kq ?_; refine blk_far ?_ NB397_401.out _; refine kq ?_; refine blk_far ?_ NB397_401.out _; refine kq ?_; refine blk_far ?_ NB397_401.out _; refine kq ?_; exact BK397.out⟩, ⟨by refine kq ?_; refine blk_put (cs := #[.int .i64 ((rd_T41 t373 t385).f0), .int .i64 ((rd_T41 t373 t385).f1), .int .i64 ((rd_T41 t373 t385).f2.f0), .int .i64 ((rd_T41 t373 t385).f2.f1), .int .i64 0]) ?_ 4 _ rfl; refine kq ?_; refine blk_put (cs := #[.int .i64 ((rd_T41 t373 t385).f0), .int .i64 ((rd_T41 t373 t385).f1), .int .i64 ((rd_T41 t373 t385).f2.f0), .int .i64 0, .int .i64 0]) ?_ 3 _ rfl; refine kq ?_; refine blk_put (cs := #[.int .i64 ((rd_T41 t373 t385).f0), .int .i64 ((rd_T41 t373 t385).f1), .int .i64 0, .int .i64 0, .int .i64 0]) ?_ 2 _ rfl; refine kq ?_; refine blk_put (cs := #[.int .i64 ((rd_T41 t373 t385).f0), .int .i64 0, .int .i64 0, .int .i64 0, .int .i64 0]) ?_ 1 _ rfl; refine kq ?_; refine blk_put (cs := #[.int .i64 0, .int .i64 0, .int .i64 0, .int .i64 0, .int .i64 0]) ?_ 0 _ rfl; refine kq ?_; exact BK401.out⟩, ⟨(bz5 HB.out GE388.out GE389.out GE393.out GE397.out GE401.out)⟩⟩
           ·rw [if_neg c79] at H
            have c79b0 : (((rd_T41 t373 t385).f1) == t387) = false := beq_eq_false_iff_ne.mpr c79
            have c79b1 : (((rd_T41 t373 t385).f1) != t387) = true := bne_iff_ne.mpr c79
            have H' := Aside0.mk H
            clear H
            have hnb102 := NB401_388.out
            have hnc102 := NB388_401.out
            have hnb103 := NB401_389.out
            have hnc103 := NB389_401.out
            have hnb104 := NB401_393.out
            have hnc104 := NB393_401.out
            have hnb105 := NB401_397.out
            have hnc105 := NB397_401.out
            obtain ⟨hcz106_0, hcz106_1, hcz106_2, hcz106_3, hcz106_4⟩ := cz5 BK401.out
            obtain ⟨hfz106_0, hfz106_1, hfz106_2, hfz106_3, hfz106_4⟩ := fz5 BK401.out
            have hnb107 := NB389_388.out
            have hnc107 := NB388_389.out
            have hnb108 := NB389_393.out
            have hnc108 := NB393_389.out
            have hnb109 := NB389_397.out
            have hnc109 := NB397_389.out
            obtain ⟨hcz110_0, hcz110_1⟩ := cz2 BK389.out
            obtain ⟨hfz110_0, hfz110_1⟩ := fz2 BK389.out
            go_wp2
            go_meet
            case rel => exact ⟨_, (false), ez, H', ⟨by have := HJ6.out; have := HJ42.out; first | omega | exact Nat.le_refl _⟩, ⟨by refine rq ?_; first | (with_reducible exact Kd.R_mono (Kd.R_far (p := ⟨gb401, 4, none⟩) (Kd.R_far (p := ⟨gb401, 3, none⟩) (Kd.R_far (p := ⟨gb401, 2, none⟩) (Kd.R_far (p := ⟨gb401, 1, none⟩) (Kd.R_far (p := ⟨gb401, 0, none⟩) (Kd.R_mono HO_389000.out (fun k_ hk => (⟨hk, hk.2⟩ : _ /\ k_ ≠ gb401))) (fun _ hk => hk.2) (.int .i64 ((rd_T41 t373 t385).f0))) (fun _ hk => hk.2) (.int .i64 ((rd_T41 t373 t385).f1))) (fun _ hk => hk.2) (.int .i64 ((rd_T41 t373 t385).f2.f0))) (fun _ hk => hk.2) (.int .i64 ((rd_T41 t373 t385).f2.f1))) (fun _ hk => hk.2) (.int .i64 ((rd_T41 t373 t385).f3))) (fun _ hk => hk.1.2)) | exact Kd.R_mono (Kd.R_far (p := ⟨gb401, 4, none⟩) (Kd.R_drewN (Kd.R_far (p := ⟨gb401, 3, none⟩) (Kd.R_far (p := ⟨gb401, 2, none⟩) (Kd.R_far (p := ⟨gb401, 1, none⟩) (Kd.R_far (p := ⟨gb401, 0, none⟩) (Kd.R_mono HO_389000.out (fun k_ hk => (⟨hk, hk.2⟩ : _ /\ k_ ≠ gb401))) (fun _ hk => hk.2) (.int .i64 ((rd_T41 t373 t385).f0))) (fun _ hk => hk.2) (.int .i64 ((rd_T41 t373 t385).f1))) (fun _ hk => hk.2) (.int .i64 ((rd_T41 t373 t385).f2.f0))) (fun _ hk => hk.2) (.int .i64 ((rd_T41 t373 t385).f2.f1))) _) (fun _ hk => hk.2) (.int .i64 ((rd_T41 t373 t385).f3))) (fun _ hk => hk.1.2)⟩, ⟨by refine rq ?_; first | (with_reducible exact Kd.R_mono (Kd.R_far (p := ⟨gb401, 4, none⟩) (Kd.R_far (p := ⟨gb401, 3, none⟩) (Kd.R_far (p := ⟨gb401, 2, none⟩) (Kd.R_far (p := ⟨gb401, 1, none⟩) (Kd.R_far (p := ⟨gb401, 0, none⟩) (Kd.R_types HO_389001.out BK401.out (by decide)) (fun _ hk => hk.2) (.int .i64 ((rd_T41 t373 t385).f0))) (fun _ hk => hk.2) (.int .i64 ((rd_T41 t373 t385).f1))) (fun _ hk => hk.2) (.int .i64 ((rd_T41 t373 t385).f2.f0))) (fun _ hk => hk.2) (.int .i64 ((rd_T41 t373 t385).f2.f1))) (fun _ hk => hk.2) (.int .i64 ((rd_T41 t373 t385).f3))) (fun _ hk => trivial)) | exact Kd.R_mono (Kd.R_far (p := ⟨gb401, 4, none⟩) (Kd.R_drewN (Kd.R_far (p := ⟨gb401, 3, none⟩) (Kd.R_far (p := ⟨gb401, 2, none⟩) (Kd.R_far (p := ⟨gb401, 1, none⟩) (Kd.R_far (p := ⟨gb401, 0, none⟩) (Kd.R_types HO_389001.out BK401.out (by decide)) (fun _ hk => hk.2) (.int .i64 ((rd_T41 t373 t385).f0))) (fun _ hk => hk.2) (.int .i64 ((rd_T41 t373 t385).f1))) (fun _ hk => hk.2) (.int .i64 ((rd_T41 t373 t385).f2.f0))) (fun _ hk => hk.2) (.int .i64 ((rd_T41 t373 t385).f2.f1))) _) (fun _ hk => hk.2) (.int .i64 ((rd_T41 t373 t385).f3))) (fun _ hk => trivial)⟩, ⟨by refine rq ?_; first | (with_reducible exact Kd.R_mono (Kd.R_far (p := ⟨gb401, 4, none⟩) (Kd.R_far (p := ⟨gb401, 3, none⟩) (Kd.R_far (p := ⟨gb401, 2, none⟩) (Kd.R_far (p := ⟨gb401, 1, none⟩) (Kd.R_far (p := ⟨gb401, 0, none⟩) (Kd.R_types HO_389002.out BK401.out (by decide)) (fun _ hk => hk.2) (.int .i64 ((rd_T41 t373 t385).f0))) (fun _ hk => hk.2) (.int .i64 ((rd_T41 t373 t385).f1))) (fun _ hk => hk.2) (.int .i64 ((rd_T41 t373 t385).f2.f0))) (fun _ hk => hk.2) (.int .i64 ((rd_T41 t373 t385).f2.f1))) (fun _ hk => hk.2) (.int .i64 ((rd_T41 t373 t385).f3))) (fun _ hk => trivial)) | exact Kd.R_mono (Kd.R_far (p := ⟨gb401, 4, none⟩) (Kd.R_drewN (Kd.R_far (p := ⟨gb401, 3, none⟩) (Kd.R_far (p := ⟨gb401, 2, none⟩) (Kd.R_far (p := ⟨gb401, 1, none⟩) (Kd.R_far (p := ⟨gb401, 0, none⟩) (Kd.R_types HO_389002.out BK401.out (by decide)) (fun _ hk => hk.2) (.int .i64 ((rd_T41 t373 t385).f0))) (fun _ hk => hk.2) (.int .i64 ((rd_T41 t373 t385).f1))) (fun _ hk => hk.2) (.int .i64 ((rd_T41 t373 t385).f2.f0))) (fun _ hk => hk.2) (.int .i64 ((rd_T41 t373 t385).f2.f1))) _) (fun _ hk => hk.2) (.int .i64 ((rd_T41 t373 t385).f3))) (fun _ hk => trivial)⟩, ⟨by refine rq ?_; first | (with_reducible exact Kd.R_mono (Kd.R_far (p := ⟨gb401, 4, none⟩) (Kd.R_far (p := ⟨gb401, 3, none⟩) (Kd.R_far (p := ⟨gb401, 2, none⟩) (Kd.R_far (p := ⟨gb401, 1, none⟩) (Kd.R_far (p := ⟨gb401, 0, none⟩) (Kd.R_types HO_389003.out BK401.out (by decide)) (fun _ hk => hk.2) (.int .i64 ((rd_T41 t373 t385).f0))) (fun _ hk => hk.2) (.int .i64 ((rd_T41 t373 t385).f1))) (fun _ hk => hk.2) (.int .i64 ((rd_T41 t373 t385).f2.f0))) (fun _ hk => hk.2) (.int .i64 ((rd_T41 t373 t385).f2.f1))) (fun _ hk => hk.2) (.int .i64 ((rd_T41 t373 t385).f3))) (fun _ hk => ⟨hk.1.1, hk.1.2⟩)) | exact Kd.R_mono (Kd.R_far (p := ⟨gb401, 4, none⟩) (Kd.R_drewN (Kd.R_far (p := ⟨gb401, 3, none⟩) (Kd.R_far (p := ⟨gb401, 2, none⟩) (Kd.R_far (p := ⟨gb401, 1, none⟩) (Kd.R_far (p := ⟨gb401, 0, none⟩) (Kd.R_types HO_389003.out BK401.out (by decide)) (fun _ hk => hk.2) (.int .i64 ((rd_T41 t373 t385).f0))) (fun _ hk => hk.2) (.int .i64 ((rd_T41 t373 t385).f1))) (fun _ hk => hk.2) (.int .i64 ((rd_T41 t373 t385).f2.f0))) (fun _ hk => hk.2) (.int .i64 ((rd_T41 t373 t385).f2.f1))) _) (fun _ hk => hk.2) (.int .i64 ((rd_T41 t373 t385).f3))) (fun _ hk => ⟨hk.1.1, hk.1.2⟩)⟩, ⟨by refine kq ?_; refine blk_far ?_ NB388_401.out _; refine kq ?_; refine blk_far ?_ NB388_401.out _; refine kq ?_; refine blk_far ?_ NB388_401.out _; refine kq ?_; refine blk_far ?_ NB388_401.out _; refine kq ?_; refine blk_far ?_ NB388_401.out _; refine kq ?_; exact BK388.out⟩, ⟨by refine kq ?_; refine blk_far ?_ NB389_401.out _; refine kq ?_; refine blk_far ?_ NB389_401.out _; refine kq ?_; refine blk_far ?_ NB389_401.out _; refine kq ?_; refine blk_far ?_ NB389_401.out _; refine kq ?_; refine blk_far ?_ NB389_401.out _; refine kq ?_; exact BK389.out⟩, ⟨by refine kq ?_; refine blk_far ?_ NB393_401.out _; refine kq ?_; refine blk_far ?_ NB393_401.out _; refine kq ?_; refine blk_far ?_ NB393_401.out _; refine kq ?_; refine blk_far ?_ NB393_401.out _; refine kq ?_; refine blk_far ?_ NB393_401.out _; refine kq ?_; exact BK393.out⟩, ⟨by refine kq ?_; refine blk_far ?_ NB397_401.out _; refine kq ?_; refine blk_far ?_ NB397_401.out _; refine kq ?_; refine blk_far ?_ NB397_401.out _; refine kq ?_; refine blk_far ?_ NB397_401.out _; refine kq ?_; refine blk_far ?_ NB397_401.out _; refine kq ?_; exact BK397.out⟩, ⟨by refine kq ?_; refine blk_put (cs := #[.int .i64 ((rd_T41 t373 t385).f0), .int .i64 ((rd_T41 t373 t385).f1), .int .i64 ((rd_T41 t373 t385).f2.f0), .int .i64 ((rd_T41 t373 t385).f2.f1), .int .i64 0]) ?_ 4 _ rfl; refine kq ?_; refine blk_put (cs := #[.int .i64 ((rd_T41 t373 t385).f0), .int .i64 ((rd_T41 t373 t385).f1), .int .i64 ((rd_T41 t373 t385).f2.f0), .int .i64 0, .int .i64 0]) ?_ 3 _ rfl; refine kq ?_; refine blk_put (cs := #[.int .i64 ((rd_T41 t373 t385).f0), .int .i64 ((rd_T41 t373 t385).f1), .int .i64 0, .int .i64 0, .int .i64 0]) ?_ 2 _ rfl; refine kq ?_; refine blk_put (cs := #[.int .i64 ((rd_T41 t373 t385).f0), .int .i64 0, .int .i64 0, .int .i64 0, .int .i64 0]) ?_ 1 _ rfl; refine kq ?_; refine blk_put (cs := #[.int .i64 0, .int .i64 0, .int .i64 0, .int .i64 0, .int .i64 0]) ?_ 0 _ rfl; refine kq ?_; exact BK401.out⟩, ⟨(bz5 HB.out GE388.out GE389.out GE393.out GE397.out GE401.out)⟩⟩
          ·rw [if_neg c78] at H
           have c78b0 : (((rd_T41 t373 t385).f0) == t386) = false := beq_eq_false_iff_ne.mpr c78
           have c78b1 : (((rd_T41 t373 t385).f0) != t386) = true := bne_iff_ne.mpr c78
           (first | rw [c78b0] | (simp only [i64_w, i32_w]; rw [c78b0]) | skip)
           have H' := Aside0.mk H
           clear H
           have hnb111 := NB401_388.out
           have hnc111 := NB388_401.out
           have hnb112 := NB401_389.out
           have hnc112 := NB389_401.out
           have hnb113 := NB401_393.out
           have hnc113 := NB393_401.out
           have hnb114 := NB401_397.out
           have hnc114 := NB397_401.out
           obtain ⟨hcz115_0, hcz115_1, hcz115_2, hcz115_3, hcz115_4⟩ := cz5 BK401.out
           obtain ⟨hfz115_0, hfz115_1, hfz115_2, hfz115_3, hfz115_4⟩ := fz5 BK401.out
           have hnb116 := NB389_388.out
           have hnc116 := NB388_389.out
           have hnb117 := NB389_393.out
           have hnc117 := NB393_389.out
           have hnb118 := NB389_397.out
           have hnc118 := NB397_389.out
           obtain ⟨hcz119_0, hcz119_1⟩ := cz2 BK389.out
           obtain ⟨hfz119_0, hfz119_1⟩ := fz2 BK389.out
           go_wp2
           go_meet
           case rel => exact ⟨_, (false), ez, H', ⟨by have := HJ6.out; have := HJ42.out; first | omega | exact Nat.le_refl _⟩, ⟨by refine rq ?_; first | (with_reducible exact Kd.R_mono (Kd.R_far (p := ⟨gb401, 4, none⟩) (Kd.R_far (p := ⟨gb401, 3, none⟩) (Kd.R_far (p := ⟨gb401, 2, none⟩) (Kd.R_far (p := ⟨gb401, 1, none⟩) (Kd.R_far (p := ⟨gb401, 0, none⟩) (Kd.R_mono HO_389000.out (fun k_ hk => (⟨hk, hk.2⟩ : _ /\ k_ ≠ gb401))) (fun _ hk => hk.2) (.int .i64 ((rd_T41 t373 t385).f0))) (fun _ hk => hk.2) (.int .i64 ((rd_T41 t373 t385).f1))) (fun _ hk => hk.2) (.int .i64 ((rd_T41 t373 t385).f2.f0))) (fun _ hk => hk.2) (.int .i64 ((rd_T41 t373 t385).f2.f1))) (fun _ hk => hk.2) (.int .i64 ((rd_T41 t373 t385).f3))) (fun _ hk => hk.1.2)) | exact Kd.R_mono (Kd.R_far (p := ⟨gb401, 4, none⟩) (Kd.R_drewN (Kd.R_far (p := ⟨gb401, 3, none⟩) (Kd.R_far (p := ⟨gb401, 2, none⟩) (Kd.R_far (p := ⟨gb401, 1, none⟩) (Kd.R_far (p := ⟨gb401, 0, none⟩) (Kd.R_mono HO_389000.out (fun k_ hk => (⟨hk, hk.2⟩ : _ /\ k_ ≠ gb401))) (fun _ hk => hk.2) (.int .i64 ((rd_T41 t373 t385).f0))) (fun _ hk => hk.2) (.int .i64 ((rd_T41 t373 t385).f1))) (fun _ hk => hk.2) (.int .i64 ((rd_T41 t373 t385).f2.f0))) (fun _ hk => hk.2) (.int .i64 ((rd_T41 t373 t385).f2.f1))) _) (fun _ hk => hk.2) (.int .i64 ((rd_T41 t373 t385).f3))) (fun _ hk => hk.1.2)⟩, ⟨by refine rq ?_; first | (with_reducible exact Kd.R_mono (Kd.R_far (p := ⟨gb401, 4, none⟩) (Kd.R_far (p := ⟨gb401, 3, none⟩) (Kd.R_far (p := ⟨gb401, 2, none⟩) (Kd.R_far (p := ⟨gb401, 1, none⟩) (Kd.R_far (p := ⟨gb401, 0, none⟩) (Kd.R_types HO_389001.out BK401.out (by decide)) (fun _ hk => hk.2) (.int .i64 ((rd_T41 t373 t385).f0))) (fun _ hk => hk.2) (.int .i64 ((rd_T41 t373 t385).f1))) (fun _ hk => hk.2) (.int .i64 ((rd_T41 t373 t385).f2.f0))) (fun _ hk => hk.2) (.int .i64 ((rd_T41 t373 t385).f2.f1))) (fun _ hk => hk.2) (.int .i64 ((rd_T41 t373 t385).f3))) (fun _ hk => trivial)) | exact Kd.R_mono (Kd.R_far (p := ⟨gb401, 4, none⟩) (Kd.R_drewN (Kd.R_far (p := ⟨gb401, 3, none⟩) (Kd.R_far (p := ⟨gb401, 2, none⟩) (Kd.R_far (p := ⟨gb401, 1, none⟩) (Kd.R_far (p := ⟨gb401, 0, none⟩) (Kd.R_types HO_389001.out BK401.out (by decide)) (fun _ hk => hk.2) (.int .i64 ((rd_T41 t373 t385).f0))) (fun _ hk => hk.2) (.int .i64 ((rd_T41 t373 t385).f1))) (fun _ hk => hk.2) (.int .i64 ((rd_T41 t373 t385).f2.f0))) (fun _ hk => hk.2) (.int .i64 ((rd_T41 t373 t385).f2.f1))) _) (fun _ hk => hk.2) (.int .i64 ((rd_T41 t373 t385).f3))) (fun _ hk => trivial)⟩, ⟨by refine rq ?_; first | (with_reducible exact Kd.R_mono (Kd.R_far (p := ⟨gb401, 4, none⟩) (Kd.R_far (p := ⟨gb401, 3, none⟩) (Kd.R_far (p := ⟨gb401, 2, none⟩) (Kd.R_far (p := ⟨gb401, 1, none⟩) (Kd.R_far (p := ⟨gb401, 0, none⟩) (Kd.R_types HO_389002.out BK401.out (by decide)) (fun _ hk => hk.2) (.int .i64 ((rd_T41 t373 t385).f0))) (fun _ hk => hk.2) (.int .i64 ((rd_T41 t373 t385).f1))) (fun _ hk => hk.2) (.int .i64 ((rd_T41 t373 t385).f2.f0))) (fun _ hk => hk.2) (.int .i64 ((rd_T41 t373 t385).f2.f1))) (fun _ hk => hk.2) (.int .i64 ((rd_T41 t373 t385).f3))) (fun _ hk => trivial)) | exact Kd.R_mono (Kd.R_far (p := ⟨gb401, 4, none⟩) (Kd.R_drewN (Kd.R_far (p := ⟨gb401, 3, none⟩) (Kd.R_far (p := ⟨gb401, 2, none⟩) (Kd.R_far (p := ⟨gb401, 1, none⟩) (Kd.R_far (p := ⟨gb401, 0, none⟩) (Kd.R_types HO_389002.out BK401.out (by decide)) (fun _ hk => hk.2) (.int .i64 ((rd_T41 t373 t385).f0))) (fun _ hk => hk.2) (.int .i64 ((rd_T41 t373 t385).f1))) (fun _ hk => hk.2) (.int .i64 ((rd_T41 t373 t385).f2.f0))) (fun _ hk => hk.2) (.int .i64 ((rd_T41 t373 t385).f2.f1))) _) (fun _ hk => hk.2) (.int .i64 ((rd_T41 t373 t385).f3))) (fun _ hk => trivial)⟩, ⟨by refine rq ?_; first | (with_reducible exact Kd.R_mono (Kd.R_far (p := ⟨gb401, 4, none⟩) (Kd.R_far (p := ⟨gb401, 3, none⟩) (Kd.R_far (p := ⟨gb401, 2, none⟩) (Kd.R_far (p := ⟨gb401, 1, none⟩) (Kd.R_far (p := ⟨gb401, 0, none⟩) (Kd.R_types HO_389003.out BK401.out (by decide)) (fun _ hk => hk.2) (.int .i64 ((rd_T41 t373 t385).f0))) (fun _ hk => hk.2) (.int .i64 ((rd_T41 t373 t385).f1))) (fun _ hk => hk.2) (.int .i64 ((rd_T41 t373 t385).f2.f0))) (fun _ hk => hk.2) (.int .i64 ((rd_T41 t373 t385).f2.f1))) (fun _ hk => hk.2) (.int .i64 ((rd_T41 t373 t385).f3))) (fun _ hk => ⟨hk.1.1, hk.1.2⟩)) | exact Kd.R_mono (Kd.R_far (p := ⟨gb401, 4, none⟩) (Kd.R_drewN (Kd.R_far (p := ⟨gb401, 3, none⟩) (Kd.R_far (p := ⟨gb401, 2, none⟩) (Kd.R_far (p := ⟨gb401, 1, none⟩) (Kd.R_far (p := ⟨gb401, 0, none⟩) (Kd.R_types HO_389003.out BK401.out (by decide)) (fun _ hk => hk.2) (.int .i64 ((rd_T41 t373 t385).f0))) (fun _ hk => hk.2) (.int .i64 ((rd_T41 t373 t385).f1))) (fun _ hk => hk.2) (.int .i64 ((rd_T41 t373 t385).f2.f0))) (fun _ hk => hk.2) (.int .i64 ((rd_T41 t373 t385).f2.f1))) _) (fun _ hk => hk.2) (.int .i64 ((rd_T41 t373 t385).f3))) (fun _ hk => ⟨hk.1.1, hk.1.2⟩)⟩, ⟨by refine kq ?_; refine blk_far ?_ NB388_401.out _; refine kq ?_; refine blk_far ?_ NB388_401.out _; refine kq ?_; refine blk_far ?_ NB388_401.out _; refine kq ?_; refine blk_far ?_ NB388_401.out _; refine kq ?_; refine blk_far ?_ NB388_401.out _; refine kq ?_; exact BK388.out⟩, ⟨by refine kq ?_; refine blk_far ?_ NB389_401.out _; refine kq ?_; refine blk_far ?_ NB389_401.out _; refine kq ?_; refine blk_far ?_ NB389_401.out _; refine kq ?_; refine blk_far ?_ NB389_401.out _; refine kq ?_; refine blk_far ?_ NB389_401.out _; refine kq ?_; exact BK389.out⟩, ⟨by refine kq ?_; refine blk_far ?_ NB393_401.out _; refine kq ?_; refine blk_far ?_ NB393_401.out _; refine kq ?_; refine blk_far ?_ NB393_401.out _; refine kq ?_; refine blk_far ?_ NB393_401.out _; refine kq ?_; refine blk_far ?_ NB393_401.out _; refine kq ?_; exact BK393.out⟩, ⟨by refine kq ?_; refine blk_far ?_ NB397_401.out _; refine kq ?_; refine blk_far ?_ NB397_401.out _; refine kq ?_; refine blk_far ?_ NB397_401.out _; refine kq ?_; refine blk_far ?_ NB397_401.out _; refine kq ?_; refine blk_far ?_ NB397_401.out _; refine kq ?_; exact BK397.out⟩, ⟨by refine kq ?_; refine blk_put (cs := #[.int .i64 ((rd_T41 t373 t385).f0), .int .i64 ((rd_T41 t373 t385).f1), .int .i64 ((rd_T41 t373 t385).f2.f0), .int .i64 ((rd_T41 t373 t385).f2.f1), .int .i64 0]) ?_ 4 _ rfl; refine kq ?_; refine blk_put (cs := #[.int .i64 ((rd_T41 t373 t385).f0), .int .i64 ((rd_T41 t373 t385).f1), .int .i64 ((rd_T41 t373 t385).f2.f0), .int .i64 0, .int .i64 0]) ?_ 3 _ rfl; refine kq ?_; refine blk_put (cs := #[.int .i64 ((rd_T41 t373 t385).f0), .int .i64 ((rd_T41 t373 t385).f1), .int .i64 0, .int .i64 0, .int .i64 0]) ?_ 2 _ rfl; refine kq ?_; refine blk_put (cs := #[.int .i64 ((rd_T41 t373 t385).f0), .int .i64 0, .int .i64 0, .int .i64 0, .int .i64 0]) ?_ 1 _ rfl; refine kq ?_; refine blk_put (cs := #[.int .i64 0, .int .i64 0, .int .i64 0, .int .i64 0, .int .i64 0]) ?_ 0 _ rfl; refine kq ?_; exact BK401.out⟩, ⟨(bz5 HB.out GE388.out GE389.out GE393.out GE397.out GE401.out)⟩⟩
         case rest => as_aux_lemma =>
          clear HC67
          try clear c1
          try clear c2
          try clear p2
          try clear c3
          try clear c4
          try clear p4
          try clear q4
          try clear hx4
          try clear c5
          try clear c6
          try clear c7
          try clear c8
          try clear c9
          try clear c10
          try clear c11
          try clear c12
          try clear c14
          try clear c20
          try clear c21
          try clear c27
          try clear c28
          try clear c29
          try clear c31
          try clear c31b0
          try clear c31b1
          try clear c31b2
          try clear c32
          try clear c34
          try clear c35
          try clear c36
          try clear c38
          try clear c39
          try clear p40
          try clear q40
          try clear hx40
          try clear c42
          try clear c45
          try clear c46
          try clear c46b0
          try clear c47
          try clear c48
          try clear c49
          try clear c53
          try clear c54
          try clear c55
          try clear c58
          try clear c59
          try clear c60
          try clear c64
          try clear c65
          try clear c65b0
          try clear c66
          try clear c66b0
          try clear c68
          try clear c69
          try clear c70
          try clear c73
          try clear c74
          try clear c75
          try clear c76
          try clear c78
          try clear c78b0
          try clear c78b1
          try clear c79
          try clear c79b0
          try clear c79b1
          try clear c80
          try clear c81
          try clear c82
          try clear c83
          try clear c84
          try clear c86
          try clear c87
          try clear c88
          try clear c90
          try clear c91
          try clear c93
          try clear c94
          try clear c95
          try clear c96
          try clear c98
          try clear c99
          try clear c100
          try clear c102
          try clear c103
          try clear c104
          try clear c105
          try clear c107
          try clear c108
          try clear c109
          try clear c111
          try clear c112
          try clear c113
          try clear c114
          try clear c116
          try clear c117
          try clear c118
          try clear hcz101_0 hcz101_1
          try clear hcz106_0 hcz106_1 hcz106_2 hcz106_3 hcz106_4
          try clear hcz110_0 hcz110_1
          try clear hcz115_0 hcz115_1 hcz115_2 hcz115_3 hcz115_4
          try clear hcz119_0 hcz119_1
          try clear hcz13_0 hcz13_1 hcz13_2 hcz13_3
          try clear hcz17_0 hcz17_1
          try clear hcz22_0 hcz22_1
          try clear hcz23_0 hcz23_1 hcz23_2 hcz23_3
          try clear hcz24_0 hcz24_1
          try clear hcz30_0 hcz30_1
          try clear hcz37_0 hcz37_1 hcz37_2 hcz37_3
          try clear hcz40_0 hcz40_1
          try clear hcz50_0 hcz50_1 hcz50_2 hcz50_3
          try clear hcz52_0 hcz52_1 hcz52_2 hcz52_3
          try clear hcz56_0 hcz56_1 hcz56_2 hcz56_3
          try clear hcz61_0 hcz61_1 hcz61_2 hcz61_3
          try clear hcz71_0 hcz71_1 hcz71_2 hcz71_3
          try clear hcz77_0 hcz77_1 hcz77_2 hcz77_3 hcz77_4
          try clear hcz85_0 hcz85_1 hcz85_2 hcz85_3 hcz85_4
          try clear hcz89_0 hcz89_1
          try clear hcz92_0 hcz92_1
          try clear hcz97_0 hcz97_1 hcz97_2 hcz97_3 hcz97_4
          try clear hfz101_0 hfz101_1
          try clear hfz106_0 hfz106_1 hfz106_2 hfz106_3 hfz106_4
          try clear hfz110_0 hfz110_1
          try clear hfz115_0 hfz115_1 hfz115_2 hfz115_3 hfz115_4
          try clear hfz119_0 hfz119_1
          try clear hfz13_0 hfz13_1 hfz13_2 hfz13_3
          try clear hfz17_0 hfz17_1
          try clear hfz22_0 hfz22_1
          try clear hfz23_0 hfz23_1 hfz23_2 hfz23_3
          try clear hfz24_0 hfz24_1
          try clear hfz30_0 hfz30_1
          try clear hfz37_0 hfz37_1 hfz37_2 hfz37_3
          try clear hfz40_0 hfz40_1
          try clear hfz50_0 hfz50_1 hfz50_2 hfz50_3
          try clear hfz52_0 hfz52_1 hfz52_2 hfz52_3
          try clear hfz56_0 hfz56_1 hfz56_2 hfz56_3
          try clear hfz61_0 hfz61_1 hfz61_2 hfz61_3
          try clear hfz71_0 hfz71_1 hfz71_2 hfz71_3
          try clear hfz77_0 hfz77_1 hfz77_2 hfz77_3 hfz77_4
          try clear hfz85_0 hfz85_1 hfz85_2 hfz85_3 hfz85_4
          try clear hfz89_0 hfz89_1
          try clear hfz92_0 hfz92_1
          try clear hfz97_0 hfz97_1 hfz97_2 hfz97_3 hfz97_4
          try clear hx400_0
          try clear hx400_1
          try clear hx400_2
          try clear hx400_3
          try clear hx400_4
          try clear p2
          try clear p400
          try clear q400
          obtain ⟨kq, x90_66, rfl, HA, HJ66, HO_389000, HO_389001, HO_389002, HO_389003, BK388, BK389, BK393, BK397, BK401, HB⟩ := hcut
          cases kq with
          | zero => exact absurd HA.out (by simp [laws_FnValues.j2])
          | succ kj66 =>
           have H := HA.out
           clear HA
           simp only [laws_FnValues.j2] at H
           by_cases c120 : x90_66 = true
           ·subst c120
            have H1 := hp H
            clear H
            have H := H1
            clear H1
            obtain rfl := Option.some.inj H
            go_wp2
            go_ret
            exact ⟨gz, (bz5 HB.out GE388.out GE389.out GE393.out GE397.out GE401.out)⟩
           ·replace c120 := Bool.eq_false_iff.mpr c120
            subst c120
            have H1 := hq H
            clear H
            have H := H1
            clear H1
            replace H := bi H
            obtain ⟨⟨t402, t403, t404⟩, A1210, H⟩ := H
            try dsimp only at H
            have A121 := Aside0.mk A1210
            clear A1210
            by_cases c122 : ((rd_T41 t373 t385).f0) = t386
            ·rw [if_pos c122] at H
             have c122b0 : (((rd_T41 t373 t385).f0) == t386) = true := beq_iff_eq.mpr c122
             have c122b1 : (((rd_T41 t373 t385).f0) != t386) = false := bne_eq_false_iff_eq.mpr c122
             clear c122
             by_cases c123 : ((rd_T41 t373 t385).f1) = t387
             ·rw [if_pos c123] at H
              have c123b0 : (((rd_T41 t373 t385).f1) == t387) = true := beq_iff_eq.mpr c123
              have c123b1 : (((rd_T41 t373 t385).f1) != t387) = false := bne_eq_false_iff_eq.mpr c123
              clear c123
              have H' := Aside0.mk H
              clear H
              have hnb124 := NB388_389.out
              have hnc124 := NB389_388.out
              have hnb125 := NB388_393.out
              have hnc125 := NB393_388.out
              have hnb126 := NB388_397.out
              have hnc126 := NB397_388.out
              have hnb127 := NB388_401.out
              have hnc127 := NB401_388.out
              obtain ⟨hcz128_0, hcz128_1, hcz128_2, hcz128_3⟩ := cz4 BK388.out
              obtain ⟨hfz128_0, hfz128_1, hfz128_2, hfz128_3⟩ := fz4 BK388.out
              have hnb129 := NB401_389.out
              have hnc129 := NB389_401.out
              have hnb130 := NB401_393.out
              have hnc130 := NB393_401.out
              have hnb131 := NB401_397.out
              have hnc131 := NB397_401.out
              obtain ⟨hcz132_0, hcz132_1, hcz132_2, hcz132_3, hcz132_4⟩ := cz5 BK401.out
              obtain ⟨hfz132_0, hfz132_1, hfz132_2, hfz132_3, hfz132_4⟩ := fz5 BK401.out
              have hnb133 := NB389_393.out
              have hnc133 := NB393_389.out
              have hnb134 := NB389_397.out
              have hnc134 := NB397_389.out
              obtain ⟨hcz135_0, hcz135_1⟩ := cz2 BK389.out
              obtain ⟨hfz135_0, hfz135_1⟩ := fz2 BK389.out
              go_wp2_with (first | ((with_reducible refine gate_callee (f := 11) rfl ?_); refine goesL_ (some 96) rfl rfl Tryd.func11 (by kernel_rfl) rfl #[.agg #[.slice (some ad400) t373.length co11, .slice Ao14 t376.length co14, .slice Ao15 t379.length co15, .slice Ao16 t382.length co16], .int .i64 ((rd_T41 t373 t385).f3), .agg #[.int .i64 t386, .int .i64 t387]] rfl lz ?_; (with_reducible refine (impl_LookUp.calls kj66 _ _ t373 _ _ t376 _ _ t379 _ _ t382 ((rd_T41 t373 t385).f3) t386 t387 t402 t403 t404 _ ?side1 ?side2 ?side3 ?side4 ?side5 ?side6 ?side7 ?side8 A121.out).mono ?_); (case side1 => exact cz (Kd.R_reads' HO_389000.out).2.2); (case side2 => exact (Kd.R_reads' HO_389000.out).2.1); (case side3 => exact cz (Kd.R_reads' HO_389001.out).2.2); (case side4 => exact (Kd.R_reads' HO_389001.out).2.1); (case side5 => exact cz (Kd.R_reads' HO_389002.out).2.2); (case side6 => exact (Kd.R_reads' HO_389002.out).2.1); (case side7 => exact cz (Kd.R_reads' HO_389003.out).2.2); (case side8 => exact (Kd.R_reads' HO_389003.out).2.1); rintro e w136 ⟨rfl, hb⟩; refine ⟨_, rfl, ?_⟩; replace HO_389000 := qz HO_389000 hb; replace HO_389001 := qz HO_389001 hb; replace HO_389002 := qz HO_389002 hb; replace HO_389003 := qz HO_389003 hb; replace BK388 := Aside0.mk (blk_below (kz BK388.out) hb); replace BK389 := Aside0.mk (blk_below (kz BK389.out) hb); replace BK393 := Aside0.mk (blk_below (kz BK393.out) hb); replace BK397 := Aside0.mk (blk_below (kz BK397.out) hb); replace BK401 := Aside0.mk (blk_below (kz BK401.out) hb); replace HB := Aside0.mk (below_step (bz5 HB.out GE388.out GE389.out GE393.out GE397.out GE401.out) hb); (try clear hb); (try clear hi)) | ((with_reducible refine gate_dst (N := 11) rfl ?_); (try (refine gate_guard (by rfl) ?_; dsimp only)); refine box_event ?hg (N := 11) ?hd (cs := #[.int .i64 0, .int .i64 0]) (t := 35) ?hr ?_; (case hd => rfl); (case hg => rfl); (case hr => exact vz); intro gb405 hg w137 hbox hb; replace HO_389000 := qz HO_389000 hb; replace HO_389001 := qz HO_389001 hb; replace HO_389002 := qz HO_389002 hb; replace HO_389003 := Aside0.mk (Kd.R_below (Kd.R_elderB (rz HO_389003.out) gb405 (Nat.le_of_eq hg.symm)) hb); have BK405 := Aside0.mk (hbox); have GW405 := Aside0.mk ((by rw [hg]; exact (below_size (bz5 HB.out GE388.out GE389.out GE393.out GE397.out GE401.out)) : w.heap.size <= gb405)); have GE405 := GW405; replace HB := Aside0.mk (below_step (bz5 HB.out GE388.out GE389.out GE393.out GE397.out GE401.out) hb); have NB388_405 := Aside0.mk ((by rw [hg]; exact Nat.ne_of_lt (blk_lt (kz BK388.out)) : gb388 ≠ gb405)); have NB405_388 := Aside0.mk ((by rw [hg]; exact Nat.ne_of_gt (blk_lt (kz BK388.out)) : gb405 ≠ gb388)); replace BK388 := Aside0.mk (blk_below (kz BK388.out) hb); have NB389_405 := Aside0.mk ((by rw [hg]; exact Nat.ne_of_lt (blk_lt (kz BK389.out)) : gb389 ≠ gb405)); have NB405_389 := Aside0.mk ((by rw [hg]; exact Nat.ne_of_gt (blk_lt (kz BK389.out)) : gb405 ≠ gb389)); replace BK389 := Aside0.mk (blk_below (kz BK389.out) hb); have NB393_405 := Aside0.mk ((by rw [hg]; exact Nat.ne_of_lt (blk_lt (kz BK393.out)) : gb393 ≠ gb405)); have NB405_393 := Aside0.mk ((by rw [hg]; exact Nat.ne_of_gt (blk_lt (kz BK393.out)) : gb405 ≠ gb393)); replace BK393 := Aside0.mk (blk_below (kz BK393.out) hb); have NB397_405 := Aside0.mk ((by rw [hg]; exact Nat.ne_of_lt (blk_lt (kz BK397.out)) : gb397 ≠ gb405)); have NB405_397 := Aside0.mk ((by rw [hg]; exact Nat.ne_of_gt (blk_lt (kz BK397.out)) : gb405 ≠ gb397)); replace BK397 := Aside0.mk (blk_below (kz BK397.out) hb); have NB401_405 := Aside0.mk ((by rw [hg]; exact Nat.ne_of_lt (blk_lt (kz BK401.out)) : gb401 ≠ gb405)); have NB405_401 := Aside0.mk ((by rw [hg]; exact Nat.ne_of_gt (blk_lt (kz BK401.out)) : gb405 ≠ gb401)); replace BK401 := Aside0.mk (blk_below (kz BK401.out) hb); clear hb hbox hg; have hnb138 := NB405_388.out; have hnc138 := NB388_405.out; have hnb139 := NB405_389.out; have hnc139 := NB389_405.out; have hnb140 := NB405_393.out; have hnc140 := NB393_405.out; have hnb141 := NB405_397.out; have hnc141 := NB397_405.out; have hnb142 := NB405_401.out; have hnc142 := NB401_405.out; obtain ⟨hcz143_0, hcz143_1⟩ := cz2 BK405.out; obtain ⟨hfz143_0, hfz143_1⟩ := fz2 BK405.out; obtain ⟨hcz144_0, hcz144_1, hcz144_2, hcz144_3, hcz144_4⟩ := cz5 BK401.out; obtain ⟨hfz144_0, hfz144_1, hfz144_2, hfz144_3, hfz144_4⟩ := fz5 BK401.out; obtain ⟨hcz145_0, hcz145_1⟩ := cz2 BK389.out; obtain ⟨hfz145_0, hfz145_1⟩ := fz2 BK389.out))
              go_meet
              case rel => exact ⟨_, H', ⟨by have := HJ6.out; have := HJ42.out; have := HJ66.out; first | omega | exact Nat.le_refl _⟩, ⟨by refine rq ?_; first | (with_reducible exact Kd.R_mono (Kd.R_far (p := ⟨gb405, 1, none⟩) (Kd.R_far (p := ⟨gb405, 0, none⟩) (Kd.R_types HO_389000.out BK405.out (by decide)) (fun _ hk => hk.2) (.int .i64 t402)) (fun _ hk => hk.2) (.int .i64 t403)) (fun _ hk => trivial)) | exact Kd.R_mono (Kd.R_far (p := ⟨gb405, 1, none⟩) (Kd.R_drewN (Kd.R_far (p := ⟨gb405, 0, none⟩) (Kd.R_types HO_389000.out BK405.out (by decide)) (fun _ hk => hk.2) (.int .i64 t402)) _) (fun _ hk => hk.2) (.int .i64 t403)) (fun _ hk => trivial)⟩, ⟨by refine rq ?_; first | (with_reducible exact Kd.R_mono (Kd.R_far (p := ⟨gb405, 1, none⟩) (Kd.R_far (p := ⟨gb405, 0, none⟩) (Kd.R_types HO_389001.out BK405.out (by decide)) (fun _ hk => hk.2) (.int .i64 t402)) (fun _ hk => hk.2) (.int .i64 t403)) (fun _ hk => trivial)) | exact Kd.R_mono (Kd.R_far (p := ⟨gb405, 1, none⟩) (Kd.R_drewN (Kd.R_far (p := ⟨gb405, 0, none⟩) (Kd.R_types HO_389001.out BK405.out (by decide)) (fun _ hk => hk.2) (.int .i64 t402)) _) (fun _ hk => hk.2) (.int .i64 t403)) (fun _ hk => trivial)⟩, ⟨by refine rq ?_; first | (with_reducible exact Kd.R_mono (Kd.R_far (p := ⟨gb405, 1, none⟩) (Kd.R_far (p := ⟨gb405, 0, none⟩) (Kd.R_types HO_389002.out BK405.out (by decide)) (fun _ hk => hk.2) (.int .i64 t402)) (fun _ hk => hk.2) (.int .i64 t403)) (fun _ hk => trivial)) | exact Kd.R_mono (Kd.R_far (p := ⟨gb405, 1, none⟩) (Kd.R_drewN (Kd.R_far (p := ⟨gb405, 0, none⟩) (Kd.R_types HO_389002.out BK405.out (by decide)) (fun _ hk => hk.2) (.int .i64 t402)) _) (fun _ hk => hk.2) (.int .i64 t403)) (fun _ hk => trivial)⟩, ⟨by refine rq ?_; first | (with_reducible exact Kd.R_mono (Kd.R_far (p := ⟨gb405, 1, none⟩) (Kd.R_far (p := ⟨gb405, 0, none⟩) (Kd.R_mono HO_389003.out (fun k_ hk => (⟨hk, hk.2⟩ : _ /\ k_ ≠ gb405))) (fun _ hk => hk.2) (.int .i64 t402)) (fun _ hk => hk.2) (.int .i64 t403)) (fun _ hk => ⟨hk.1.1.1, hk.1.1.2⟩)) | exact Kd.R_mono (Kd.R_far (p := ⟨gb405, 1, none⟩) (Kd.R_drewN (Kd.R_far (p := ⟨gb405, 0, none⟩) (Kd.R_mono HO_389003.out (fun k_ hk => (⟨hk, hk.2⟩ : _ /\ k_ ≠ gb405))) (fun _ hk => hk.2) (.int .i64 t402)) _) (fun _ hk => hk.2) (.int .i64 t403)) (fun _ hk => ⟨hk.1.1.1, hk.1.1.2⟩)⟩, ⟨by refine kq ?_; refine blk_far ?_ NB388_405.out _; refine kq ?_; refine blk_far ?_ NB388_405.out _; refine kq ?_; exact BK388.out⟩, ⟨by refine kq ?_; refine blk_far ?_ NB389_405.out _; refine kq ?_; refine blk_far ?_ NB389_405.out _; refine kq ?_; exact BK389.out⟩, ⟨by refine kq ?_; refine blk_far ?_ NB393_405.out _; refine kq ?_; refine blk_far ?_ NB393_405.out _; refine kq ?_; exact BK393.out⟩, ⟨by refine kq ?_; refine blk_far ?_ NB397_405.out _; refine kq ?_; refine blk_far ?_ NB397_405.out _; refine kq ?_; exact BK397.out⟩, ⟨(bz6 HB.out GE388.out GE389.out GE393.out GE397.out GE401.out GE405.out)⟩⟩
             ·rw [if_neg c123] at H
              have c123b0 : (((rd_T41 t373 t385).f1) == t387) = false := beq_eq_false_iff_ne.mpr c123
              have c123b1 : (((rd_T41 t373 t385).f1) != t387) = true := bne_iff_ne.mpr c123
              by_cases c146 : (t404 != t392) = true
              ·rw [if_pos c146] at H
               have c146b0 : (t404 != t392) = true := c146
               (try (have c146b1 : decide (t404 = t392) = false := by simpa using c146))
               (try (have c146b2 : (t404 == t392) = false := by simpa using c146))
               (try (have c146b3 : ¬ (t404 = t392) := by simpa using c146))
               clear c146
               obtain rfl := Option.some.inj H
               have hnb147 := NB388_389.out
               have hnc147 := NB389_388.out
               have hnb148 := NB388_393.out
               have hnc148 := NB393_388.out
               have hnb149 := NB388_397.out
               have hnc149 := NB397_388.out
               have hnb150 := NB388_401.out
               have hnc150 := NB401_388.out
               obtain ⟨hcz151_0, hcz151_1, hcz151_2, hcz151_3⟩ := cz4 BK388.out
               obtain ⟨hfz151_0, hfz151_1, hfz151_2, hfz151_3⟩ := fz4 BK388.out
               have hnb152 := NB401_389.out
               have hnc152 := NB389_401.out
               have hnb153 := NB401_393.out
               have hnc153 := NB393_401.out
               have hnb154 := NB401_397.out
               have hnc154 := NB397_401.out
               obtain ⟨hcz155_0, hcz155_1, hcz155_2, hcz155_3, hcz155_4⟩ := cz5 BK401.out
               obtain ⟨hfz155_0, hfz155_1, hfz155_2, hfz155_3, hfz155_4⟩ := fz5 BK401.out
               have hnb156 := NB389_393.out
               have hnc156 := NB393_389.out
               have hnb157 := NB389_397.out
               have hnc157 := NB397_389.out
               obtain ⟨hcz158_0, hcz158_1⟩ := cz2 BK389.out
               obtain ⟨hfz158_0, hfz158_1⟩ := fz2 BK389.out
               go_wp2_with (first | ((with_reducible refine gate_callee (f := 11) rfl ?_); refine goesL_ (some 96) rfl rfl Tryd.func11 (by kernel_rfl) rfl #[.agg #[.slice (some ad400) t373.length co11, .slice Ao14 t376.length co14, .slice Ao15 t379.length co15, .slice Ao16 t382.length co16], .int .i64 ((rd_T41 t373 t385).f3), .agg #[.int .i64 t386, .int .i64 t387]] rfl lz ?_; (with_reducible refine (impl_LookUp.calls kj66 _ _ t373 _ _ t376 _ _ t379 _ _ t382 ((rd_T41 t373 t385).f3) t386 t387 t402 t403 t404 _ ?side1 ?side2 ?side3 ?side4 ?side5 ?side6 ?side7 ?side8 A121.out).mono ?_); (case side1 => exact cz (Kd.R_reads' HO_389000.out).2.2); (case side2 => exact (Kd.R_reads' HO_389000.out).2.1); (case side3 => exact cz (Kd.R_reads' HO_389001.out).2.2); (case side4 => exact (Kd.R_reads' HO_389001.out).2.1); (case side5 => exact cz (Kd.R_reads' HO_389002.out).2.2); (case side6 => exact (Kd.R_reads' HO_389002.out).2.1); (case side7 => exact cz (Kd.R_reads' HO_389003.out).2.2); (case side8 => exact (Kd.R_reads' HO_389003.out).2.1); rintro e w159 ⟨rfl, hb⟩; refine ⟨_, rfl, ?_⟩; replace HO_389000 := qz HO_389000 hb; replace HO_389001 := qz HO_389001 hb; replace HO_389002 := qz HO_389002 hb; replace HO_389003 := qz HO_389003 hb; replace BK388 := Aside0.mk (blk_below (kz BK388.out) hb); replace BK389 := Aside0.mk (blk_below (kz BK389.out) hb); replace BK393 := Aside0.mk (blk_below (kz BK393.out) hb); replace BK397 := Aside0.mk (blk_below (kz BK397.out) hb); replace BK401 := Aside0.mk (blk_below (kz BK401.out) hb); replace HB := Aside0.mk (below_step (bz5 HB.out GE388.out GE389.out GE393.out GE397.out GE401.out) hb); (try clear hb); (try clear hi)) | ((with_reducible refine gate_dst (N := 11) rfl ?_); (try (refine gate_guard (by rfl) ?_; dsimp only)); refine box_event ?hg (N := 11) ?hd (cs := #[.int .i64 0, .int .i64 0]) (t := 35) ?hr ?_; (case hd => rfl); (case hg => rfl); (case hr => exact vz); intro gb405 hg w160 hbox hb; replace HO_389000 := qz HO_389000 hb; replace HO_389001 := qz HO_389001 hb; replace HO_389002 := qz HO_389002 hb; replace HO_389003 := Aside0.mk (Kd.R_below (Kd.R_elderB (rz HO_389003.out) gb405 (Nat.le_of_eq hg.symm)) hb); have BK405 := Aside0.mk (hbox); have GW405 := Aside0.mk ((by rw [hg]; exact (below_size (bz5 HB.out GE388.out GE389.out GE393.out GE397.out GE401.out)) : w.heap.size <= gb405)); have GE405 := GW405; replace HB := Aside0.mk (below_step (bz5 HB.out GE388.out GE389.out GE393.out GE397.out GE401.out) hb); have NB388_405 := Aside0.mk ((by rw [hg]; exact Nat.ne_of_lt (blk_lt (kz BK388.out)) : gb388 ≠ gb405)); have NB405_388 := Aside0.mk ((by rw [hg]; exact Nat.ne_of_gt (blk_lt (kz BK388.out)) : gb405 ≠ gb388)); replace BK388 := Aside0.mk (blk_below (kz BK388.out) hb); have NB389_405 := Aside0.mk ((by rw [hg]; exact Nat.ne_of_lt (blk_lt (kz BK389.out)) : gb389 ≠ gb405)); have NB405_389 := Aside0.mk ((by rw [hg]; exact Nat.ne_of_gt (blk_lt (kz BK389.out)) : gb405 ≠ gb389)); replace BK389 := Aside0.mk (blk_below (kz BK389.out) hb); have NB393_405 := Aside0.mk ((by rw [hg]; exact Nat.ne_of_lt (blk_lt (kz BK393.out)) : gb393 ≠ gb405)); have NB405_393 := Aside0.mk ((by rw [hg]; exact Nat.ne_of_gt (blk_lt (kz BK393.out)) : gb405 ≠ gb393)); replace BK393 := Aside0.mk (blk_below (kz BK393.out) hb); have NB397_405 := Aside0.mk ((by rw [hg]; exact Nat.ne_of_lt (blk_lt (kz BK397.out)) : gb397 ≠ gb405)); have NB405_397 := Aside0.mk ((by rw [hg]; exact Nat.ne_of_gt (blk_lt (kz BK397.out)) : gb405 ≠ gb397)); replace BK397 := Aside0.mk (blk_below (kz BK397.out) hb); have NB401_405 := Aside0.mk ((by rw [hg]; exact Nat.ne_of_lt (blk_lt (kz BK401.out)) : gb401 ≠ gb405)); have NB405_401 := Aside0.mk ((by rw [hg]; exact Nat.ne_of_gt (blk_lt (kz BK401.out)) : gb405 ≠ gb401)); replace BK401 := Aside0.mk (blk_below (kz BK401.out) hb); clear hb hbox hg; have hnb161 := NB405_388.out; have hnc161 := NB388_405.out; have hnb162 := NB405_389.out; have hnc162 := NB389_405.out; have hnb163 := NB405_393.out; have hnc163 := NB393_405.out; have hnb164 := NB405_397.out; have hnc164 := NB397_405.out; have hnb165 := NB405_401.out; have hnc165 := NB401_405.out; obtain ⟨hcz166_0, hcz166_1⟩ := cz2 BK405.out; obtain ⟨hfz166_0, hfz166_1⟩ := fz2 BK405.out; obtain ⟨hcz167_0, hcz167_1, hcz167_2, hcz167_3, hcz167_4⟩ := cz5 BK401.out; obtain ⟨hfz167_0, hfz167_1, hfz167_2, hfz167_3, hfz167_4⟩ := fz5 BK401.out; obtain ⟨hcz168_0, hcz168_1⟩ := cz2 BK389.out; obtain ⟨hfz168_0, hfz168_1⟩ := fz2 BK389.out))
               go_ret
               exact ⟨gz, (bz6 HB.out GE388.out GE389.out GE393.out GE397.out GE401.out GE405.out)⟩
              ·rw [if_neg c146] at H
               have c146b0 : (t404 != t392) = false := by simpa using c146
               (try (have c146b1 : decide (t404 = t392) = true := by simpa using c146))
               (try (have c146b2 : (t404 == t392) = true := by simpa using c146))
               clear c146
               by_cases c169 : (!(t402 == t390) || (!(t403 == t391))) = true
               ·rw [if_pos c169] at H
                have c169b0 : (!(t402 == t390) || (!(t403 == t391))) = true := c169
                clear c169
                obtain rfl := Option.some.inj H
                have hnb170 := NB388_389.out
                have hnc170 := NB389_388.out
                have hnb171 := NB388_393.out
                have hnc171 := NB393_388.out
                have hnb172 := NB388_397.out
                have hnc172 := NB397_388.out
                have hnb173 := NB388_401.out
                have hnc173 := NB401_388.out
                obtain ⟨hcz174_0, hcz174_1, hcz174_2, hcz174_3⟩ := cz4 BK388.out
                obtain ⟨hfz174_0, hfz174_1, hfz174_2, hfz174_3⟩ := fz4 BK388.out
                have hnb175 := NB401_389.out
                have hnc175 := NB389_401.out
                have hnb176 := NB401_393.out
                have hnc176 := NB393_401.out
                have hnb177 := NB401_397.out
                have hnc177 := NB397_401.out
                obtain ⟨hcz178_0, hcz178_1, hcz178_2, hcz178_3, hcz178_4⟩ := cz5 BK401.out
                obtain ⟨hfz178_0, hfz178_1, hfz178_2, hfz178_3, hfz178_4⟩ := fz5 BK401.out
                have hnb179 := NB389_393.out
                have hnc179 := NB393_389.out
                have hnb180 := NB389_397.out
                have hnc180 := NB397_389.out
                obtain ⟨hcz181_0, hcz181_1⟩ := cz2 BK389.out
                obtain ⟨hfz181_0, hfz181_1⟩ := fz2 BK389.out
                go_wp2_with (first | ((with_reducible refine gate_callee (f := 11) rfl ?_); refine goesL_ (some 96) rfl rfl Tryd.func11 (by kernel_rfl) rfl #[.agg #[.slice (some ad400) t373.length co11, .slice Ao14 t376.length co14, .slice Ao15 t379.length co15, .slice Ao16 t382.length co16], .int .i64 ((rd_T41 t373 t385).f3), .agg #[.int .i64 t386, .int .i64 t387]] rfl lz ?_; (with_reducible refine (impl_LookUp.calls kj66 _ _ t373 _ _ t376 _ _ t379 _ _ t382 ((rd_T41 t373 t385).f3) t386 t387 t402 t403 t404 _ ?side1 ?side2 ?side3 ?side4 ?side5 ?side6 ?side7 ?side8 A121.out).mono ?_); (case side1 => exact cz (Kd.R_reads' HO_389000.out).2.2); (case side2 => exact (Kd.R_reads' HO_389000.out).2.1); (case side3 => exact cz (Kd.R_reads' HO_389001.out).2.2); (case side4 => exact (Kd.R_reads' HO_389001.out).2.1); (case side5 => exact cz (Kd.R_reads' HO_389002.out).2.2); (case side6 => exact (Kd.R_reads' HO_389002.out).2.1); (case side7 => exact cz (Kd.R_reads' HO_389003.out).2.2); (case side8 => exact (Kd.R_reads' HO_389003.out).2.1); rintro e w182 ⟨rfl, hb⟩; refine ⟨_, rfl, ?_⟩; replace HO_389000 := qz HO_389000 hb; replace HO_389001 := qz HO_389001 hb; replace HO_389002 := qz HO_389002 hb; replace HO_389003 := qz HO_389003 hb; replace BK388 := Aside0.mk (blk_below (kz BK388.out) hb); replace BK389 := Aside0.mk (blk_below (kz BK389.out) hb); replace BK393 := Aside0.mk (blk_below (kz BK393.out) hb); replace BK397 := Aside0.mk (blk_below (kz BK397.out) hb); replace BK401 := Aside0.mk (blk_below (kz BK401.out) hb); replace HB := Aside0.mk (below_step (bz5 HB.out GE388.out GE389.out GE393.out GE397.out GE401.out) hb); (try clear hb); (try clear hi)) | ((with_reducible refine gate_dst (N := 11) rfl ?_); (try (refine gate_guard (by rfl) ?_; dsimp only)); refine box_event ?hg (N := 11) ?hd (cs := #[.int .i64 0, .int .i64 0]) (t := 35) ?hr ?_; (case hd => rfl); (case hg => rfl); (case hr => exact vz); intro gb405 hg w183 hbox hb; replace HO_389000 := qz HO_389000 hb; replace HO_389001 := qz HO_389001 hb; replace HO_389002 := qz HO_389002 hb; replace HO_389003 := Aside0.mk (Kd.R_below (Kd.R_elderB (rz HO_389003.out) gb405 (Nat.le_of_eq hg.symm)) hb); have BK405 := Aside0.mk (hbox); have GW405 := Aside0.mk ((by rw [hg]; exact (below_size (bz5 HB.out GE388.out GE389.out GE393.out GE397.out GE401.out)) : w.heap.size <= gb405)); have GE405 := GW405; replace HB := Aside0.mk (below_step (bz5 HB.out GE388.out GE389.out GE393.out GE397.out GE401.out) hb); have NB388_405 := Aside0.mk ((by rw [hg]; exact Nat.ne_of_lt (blk_lt (kz BK388.out)) : gb388 ≠ gb405)); have NB405_388 := Aside0.mk ((by rw [hg]; exact Nat.ne_of_gt (blk_lt (kz BK388.out)) : gb405 ≠ gb388)); replace BK388 := Aside0.mk (blk_below (kz BK388.out) hb); have NB389_405 := Aside0.mk ((by rw [hg]; exact Nat.ne_of_lt (blk_lt (kz BK389.out)) : gb389 ≠ gb405)); have NB405_389 := Aside0.mk ((by rw [hg]; exact Nat.ne_of_gt (blk_lt (kz BK389.out)) : gb405 ≠ gb389)); replace BK389 := Aside0.mk (blk_below (kz BK389.out) hb); have NB393_405 := Aside0.mk ((by rw [hg]; exact Nat.ne_of_lt (blk_lt (kz BK393.out)) : gb393 ≠ gb405)); have NB405_393 := Aside0.mk ((by rw [hg]; exact Nat.ne_of_gt (blk_lt (kz BK393.out)) : gb405 ≠ gb393)); replace BK393 := Aside0.mk (blk_below (kz BK393.out) hb); have NB397_405 := Aside0.mk ((by rw [hg]; exact Nat.ne_of_lt (blk_lt (kz BK397.out)) : gb397 ≠ gb405)); have NB405_397 := Aside0.mk ((by rw [hg]; exact Nat.ne_of_gt (blk_lt (kz BK397.out)) : gb405 ≠ gb397)); replace BK397 := Aside0.mk (blk_below (kz BK397.out) hb); have NB401_405 := Aside0.mk ((by rw [hg]; exact Nat.ne_of_lt (blk_lt (kz BK401.out)) : gb401 ≠ gb405)); have NB405_401 := Aside0.mk ((by rw [hg]; exact Nat.ne_of_gt (blk_lt (kz BK401.out)) : gb405 ≠ gb401)); replace BK401 := Aside0.mk (blk_below (kz BK401.out) hb); clear hb hbox hg; have hnb184 := NB405_388.out; have hnc184 := NB388_405.out; have hnb185 := NB405_389.out; have hnc185 := NB389_405.out; have hnb186 := NB405_393.out; have hnc186 := NB393_405.out; have hnb187 := NB405_397.out; have hnc187 := NB397_405.out; have hnb188 := NB405_401.out; have hnc188 := NB401_405.out; obtain ⟨hcz189_0, hcz189_1⟩ := cz2 BK405.out; obtain ⟨hfz189_0, hfz189_1⟩ := fz2 BK405.out; obtain ⟨hcz190_0, hcz190_1, hcz190_2, hcz190_3, hcz190_4⟩ := cz5 BK401.out; obtain ⟨hfz190_0, hfz190_1, hfz190_2, hfz190_3, hfz190_4⟩ := fz5 BK401.out; obtain ⟨hcz191_0, hcz191_1⟩ := cz2 BK389.out; obtain ⟨hfz191_0, hfz191_1⟩ := fz2 BK389.out; have hnb192 := NB393_397.out; have hnc192 := NB397_393.out; obtain ⟨hcz193_0, hcz193_1⟩ := cz2 BK393.out; obtain ⟨hfz193_0, hfz193_1⟩ := fz2 BK393.out))
                go_ret
                exact ⟨gz, (bz6 HB.out GE388.out GE389.out GE393.out GE397.out GE401.out GE405.out)⟩
               ·rw [if_neg c169] at H
                have c169b0 : (!(t402 == t390) || (!(t403 == t391))) = false := by simpa using c169
                clear c169
                have H' := Aside0.mk H
                clear H
                have hnb194 := NB388_389.out
                have hnc194 := NB389_388.out
                have hnb195 := NB388_393.out
                have hnc195 := NB393_388.out
                have hnb196 := NB388_397.out
                have hnc196 := NB397_388.out
                have hnb197 := NB388_401.out
                have hnc197 := NB401_388.out
                obtain ⟨hcz198_0, hcz198_1, hcz198_2, hcz198_3⟩ := cz4 BK388.out
                obtain ⟨hfz198_0, hfz198_1, hfz198_2, hfz198_3⟩ := fz4 BK388.out
                have hnb199 := NB401_389.out
                have hnc199 := NB389_401.out
                have hnb200 := NB401_393.out
                have hnc200 := NB393_401.out
                have hnb201 := NB401_397.out
                have hnc201 := NB397_401.out
                obtain ⟨hcz202_0, hcz202_1, hcz202_2, hcz202_3, hcz202_4⟩ := cz5 BK401.out
                obtain ⟨hfz202_0, hfz202_1, hfz202_2, hfz202_3, hfz202_4⟩ := fz5 BK401.out
                have hnb203 := NB389_393.out
                have hnc203 := NB393_389.out
                have hnb204 := NB389_397.out
                have hnc204 := NB397_389.out
                obtain ⟨hcz205_0, hcz205_1⟩ := cz2 BK389.out
                obtain ⟨hfz205_0, hfz205_1⟩ := fz2 BK389.out
                go_wp2_with (first | ((with_reducible refine gate_callee (f := 11) rfl ?_); refine goesL_ (some 96) rfl rfl Tryd.func11 (by kernel_rfl) rfl #[.agg #[.slice (some ad400) t373.length co11, .slice Ao14 t376.length co14, .slice Ao15 t379.length co15, .slice Ao16 t382.length co16], .int .i64 ((rd_T41 t373 t385).f3), .agg #[.int .i64 t386, .int .i64 t387]] rfl lz ?_; (with_reducible refine (impl_LookUp.calls kj66 _ _ t373 _ _ t376 _ _ t379 _ _ t382 ((rd_T41 t373 t385).f3) t386 t387 t402 t403 t404 _ ?side1 ?side2 ?side3 ?side4 ?side5 ?side6 ?side7 ?side8 A121.out).mono ?_); (case side1 => exact cz (Kd.R_reads' HO_389000.out).2.2); (case side2 => exact (Kd.R_reads' HO_389000.out).2.1); (case side3 => exact cz (Kd.R_reads' HO_389001.out).2.2); (case side4 => exact (Kd.R_reads' HO_389001.out).2.1); (case side5 => exact cz (Kd.R_reads' HO_389002.out).2.2); (case side6 => exact (Kd.R_reads' HO_389002.out).2.1); (case side7 => exact cz (Kd.R_reads' HO_389003.out).2.2); (case side8 => exact (Kd.R_reads' HO_389003.out).2.1); rintro e w206 ⟨rfl, hb⟩; refine ⟨_, rfl, ?_⟩; replace HO_389000 := qz HO_389000 hb; replace HO_389001 := qz HO_389001 hb; replace HO_389002 := qz HO_389002 hb; replace HO_389003 := qz HO_389003 hb; replace BK388 := Aside0.mk (blk_below (kz BK388.out) hb); replace BK389 := Aside0.mk (blk_below (kz BK389.out) hb); replace BK393 := Aside0.mk (blk_below (kz BK393.out) hb); replace BK397 := Aside0.mk (blk_below (kz BK397.out) hb); replace BK401 := Aside0.mk (blk_below (kz BK401.out) hb); replace HB := Aside0.mk (below_step (bz5 HB.out GE388.out GE389.out GE393.out GE397.out GE401.out) hb); (try clear hb); (try clear hi)) | ((with_reducible refine gate_dst (N := 11) rfl ?_); (try (refine gate_guard (by rfl) ?_; dsimp only)); refine box_event ?hg (N := 11) ?hd (cs := #[.int .i64 0, .int .i64 0]) (t := 35) ?hr ?_; (case hd => rfl); (case hg => rfl); (case hr => exact vz); intro gb405 hg w207 hbox hb; replace HO_389000 := qz HO_389000 hb; replace HO_389001 := qz HO_389001 hb; replace HO_389002 := qz HO_389002 hb; replace HO_389003 := Aside0.mk (Kd.R_below (Kd.R_elderB (rz HO_389003.out) gb405 (Nat.le_of_eq hg.symm)) hb); have BK405 := Aside0.mk (hbox); have GW405 := Aside0.mk ((by rw [hg]; exact (below_size (bz5 HB.out GE388.out GE389.out GE393.out GE397.out GE401.out)) : w.heap.size <= gb405)); have GE405 := GW405; replace HB := Aside0.mk (below_step (bz5 HB.out GE388.out GE389.out GE393.out GE397.out GE401.out) hb); have NB388_405 := Aside0.mk ((by rw [hg]; exact Nat.ne_of_lt (blk_lt (kz BK388.out)) : gb388 ≠ gb405)); have NB405_388 := Aside0.mk ((by rw [hg]; exact Nat.ne_of_gt (blk_lt (kz BK388.out)) : gb405 ≠ gb388)); replace BK388 := Aside0.mk (blk_below (kz BK388.out) hb); have NB389_405 := Aside0.mk ((by rw [hg]; exact Nat.ne_of_lt (blk_lt (kz BK389.out)) : gb389 ≠ gb405)); have NB405_389 := Aside0.mk ((by rw [hg]; exact Nat.ne_of_gt (blk_lt (kz BK389.out)) : gb405 ≠ gb389)); replace BK389 := Aside0.mk (blk_below (kz BK389.out) hb); have NB393_405 := Aside0.mk ((by rw [hg]; exact Nat.ne_of_lt (blk_lt (kz BK393.out)) : gb393 ≠ gb405)); have NB405_393 := Aside0.mk ((by rw [hg]; exact Nat.ne_of_gt (blk_lt (kz BK393.out)) : gb405 ≠ gb393)); replace BK393 := Aside0.mk (blk_below (kz BK393.out) hb); have NB397_405 := Aside0.mk ((by rw [hg]; exact Nat.ne_of_lt (blk_lt (kz BK397.out)) : gb397 ≠ gb405)); have NB405_397 := Aside0.mk ((by rw [hg]; exact Nat.ne_of_gt (blk_lt (kz BK397.out)) : gb405 ≠ gb397)); replace BK397 := Aside0.mk (blk_below (kz BK397.out) hb); have NB401_405 := Aside0.mk ((by rw [hg]; exact Nat.ne_of_lt (blk_lt (kz BK401.out)) : gb401 ≠ gb405)); have NB405_401 := Aside0.mk ((by rw [hg]; exact Nat.ne_of_gt (blk_lt (kz BK401.out)) : gb405 ≠ gb401)); replace BK401 := Aside0.mk (blk_below (kz BK401.out) hb); clear hb hbox hg; have hnb208 := NB405_388.out; have hnc208 := NB388_405.out; have hnb209 := NB405_389.out; have hnc209 := NB389_405.out; have hnb210 := NB405_393.out; have hnc210 := NB393_405.out; have hnb211 := NB405_397.out; have hnc211 := NB397_405.out; have hnb212 := NB405_401.out; have hnc212 := NB401_405.out; obtain ⟨hcz213_0, hcz213_1⟩ := cz2 BK405.out; obtain ⟨hfz213_0, hfz213_1⟩ := fz2 BK405.out; obtain ⟨hcz214_0, hcz214_1, hcz214_2, hcz214_3, hcz214_4⟩ := cz5 BK401.out; obtain ⟨hfz214_0, hfz214_1, hfz214_2, hfz214_3, hfz214_4⟩ := fz5 BK401.out; obtain ⟨hcz215_0, hcz215_1⟩ := cz2 BK389.out; obtain ⟨hfz215_0, hfz215_1⟩ := fz2 BK389.out; have hnb216 := NB393_397.out; have hnc216 := NB397_393.out; obtain ⟨hcz217_0, hcz217_1⟩ := cz2 BK393.out; obtain ⟨hfz217_0, hfz217_1⟩ := fz2 BK393.out))
                go_meet
                case rel => exact ⟨_, H', ⟨by have := HJ6.out; have := HJ42.out; have := HJ66.out; first | omega | exact Nat.le_refl _⟩, ⟨by refine rq ?_; first | (with_reducible exact Kd.R_mono (Kd.R_far (p := ⟨gb405, 1, none⟩) (Kd.R_far (p := ⟨gb405, 0, none⟩) (Kd.R_types HO_389000.out BK405.out (by decide)) (fun _ hk => hk.2) (.int .i64 t402)) (fun _ hk => hk.2) (.int .i64 t403)) (fun _ hk => trivial)) | exact Kd.R_mono (Kd.R_far (p := ⟨gb405, 1, none⟩) (Kd.R_drewN (Kd.R_far (p := ⟨gb405, 0, none⟩) (Kd.R_types HO_389000.out BK405.out (by decide)) (fun _ hk => hk.2) (.int .i64 t402)) _) (fun _ hk => hk.2) (.int .i64 t403)) (fun _ hk => trivial)⟩, ⟨by refine rq ?_; first | (with_reducible exact Kd.R_mono (Kd.R_far (p := ⟨gb405, 1, none⟩) (Kd.R_far (p := ⟨gb405, 0, none⟩) (Kd.R_types HO_389001.out BK405.out (by decide)) (fun _ hk => hk.2) (.int .i64 t402)) (fun _ hk => hk.2) (.int .i64 t403)) (fun _ hk => trivial)) | exact Kd.R_mono (Kd.R_far (p := ⟨gb405, 1, none⟩) (Kd.R_drewN (Kd.R_far (p := ⟨gb405, 0, none⟩) (Kd.R_types HO_389001.out BK405.out (by decide)) (fun _ hk => hk.2) (.int .i64 t402)) _) (fun _ hk => hk.2) (.int .i64 t403)) (fun _ hk => trivial)⟩, ⟨by refine rq ?_; first | (with_reducible exact Kd.R_mono (Kd.R_far (p := ⟨gb405, 1, none⟩) (Kd.R_far (p := ⟨gb405, 0, none⟩) (Kd.R_types HO_389002.out BK405.out (by decide)) (fun _ hk => hk.2) (.int .i64 t402)) (fun _ hk => hk.2) (.int .i64 t403)) (fun _ hk => trivial)) | exact Kd.R_mono (Kd.R_far (p := ⟨gb405, 1, none⟩) (Kd.R_drewN (Kd.R_far (p := ⟨gb405, 0, none⟩) (Kd.R_types HO_389002.out BK405.out (by decide)) (fun _ hk => hk.2) (.int .i64 t402)) _) (fun _ hk => hk.2) (.int .i64 t403)) (fun _ hk => trivial)⟩, ⟨by refine rq ?_; first | (with_reducible exact Kd.R_mono (Kd.R_far (p := ⟨gb405, 1, none⟩) (Kd.R_far (p := ⟨gb405, 0, none⟩) (Kd.R_mono HO_389003.out (fun k_ hk => (⟨hk, hk.2⟩ : _ /\ k_ ≠ gb405))) (fun _ hk => hk.2) (.int .i64 t402)) (fun _ hk => hk.2) (.int .i64 t403)) (fun _ hk => ⟨hk.1.1.1, hk.1.1.2⟩)) | exact Kd.R_mono (Kd.R_far (p := ⟨gb405, 1, none⟩) (Kd.R_drewN (Kd.R_far (p := ⟨gb405, 0, none⟩) (Kd.R_mono HO_389003.out (fun k_ hk => (⟨hk, hk.2⟩ : _ /\ k_ ≠ gb405))) (fun _ hk => hk.2) (.int .i64 t402)) _) (fun _ hk => hk.2) (.int .i64 t403)) (fun _ hk => ⟨hk.1.1.1, hk.1.1.2⟩)⟩, ⟨by refine kq ?_; refine blk_far ?_ NB388_405.out _; refine kq ?_; refine blk_far ?_ NB388_405.out _; refine kq ?_; exact BK388.out⟩, ⟨by refine kq ?_; refine blk_far ?_ NB389_405.out _; refine kq ?_; refine blk_far ?_ NB389_405.out _; refine kq ?_; exact BK389.out⟩, ⟨by refine kq ?_; refine blk_far ?_ NB393_405.out _; refine kq ?_; refine blk_far ?_ NB393_405.out _; refine kq ?_; exact BK393.out⟩, ⟨by refine kq ?_; refine blk_far ?_ NB397_405.out _; refine kq ?_; refine blk_far ?_ NB397_405.out _; refine kq ?_; exact BK397.out⟩, ⟨(bz6 HB.out GE388.out GE389.out GE393.out GE397.out GE401.out GE405.out)⟩⟩
            ·rw [if_neg c122] at H
             have c122b0 : (((rd_T41 t373 t385).f0) == t386) = false := beq_eq_false_iff_ne.mpr c122
             have c122b1 : (((rd_T41 t373 t385).f0) != t386) = true := bne_iff_ne.mpr c122
             by_cases c218 : (t404 != t392) = true
             ·rw [if_pos c218] at H
              have c218b0 : (t404 != t392) = true := c218
              (try (have c218b1 : decide (t404 = t392) = false := by simpa using c218))
              (try (have c218b2 : (t404 == t392) = false := by simpa using c218))
              (try (have c218b3 : ¬ (t404 = t392) := by simpa using c218))
              clear c218
              obtain rfl := Option.some.inj H
              have hnb219 := NB388_389.out
              have hnc219 := NB389_388.out
              have hnb220 := NB388_393.out
              have hnc220 := NB393_388.out
              have hnb221 := NB388_397.out
              have hnc221 := NB397_388.out
              have hnb222 := NB388_401.out
              have hnc222 := NB401_388.out
              obtain ⟨hcz223_0, hcz223_1, hcz223_2, hcz223_3⟩ := cz4 BK388.out
              obtain ⟨hfz223_0, hfz223_1, hfz223_2, hfz223_3⟩ := fz4 BK388.out
              have hnb224 := NB401_389.out
              have hnc224 := NB389_401.out
              have hnb225 := NB401_393.out
              have hnc225 := NB393_401.out
              have hnb226 := NB401_397.out
              have hnc226 := NB397_401.out
              obtain ⟨hcz227_0, hcz227_1, hcz227_2, hcz227_3, hcz227_4⟩ := cz5 BK401.out
              obtain ⟨hfz227_0, hfz227_1, hfz227_2, hfz227_3, hfz227_4⟩ := fz5 BK401.out
              have hnb228 := NB389_393.out
              have hnc228 := NB393_389.out
              have hnb229 := NB389_397.out
              have hnc229 := NB397_389.out
              obtain ⟨hcz230_0, hcz230_1⟩ := cz2 BK389.out
              obtain ⟨hfz230_0, hfz230_1⟩ := fz2 BK389.out
              go_wp2_with (first | ((with_reducible refine gate_callee (f := 11) rfl ?_); refine goesL_ (some 96) rfl rfl Tryd.func11 (by kernel_rfl) rfl #[.agg #[.slice (some ad400) t373.length co11, .slice Ao14 t376.length co14, .slice Ao15 t379.length co15, .slice Ao16 t382.length co16], .int .i64 ((rd_T41 t373 t385).f3), .agg #[.int .i64 t386, .int .i64 t387]] rfl lz ?_; (with_reducible refine (impl_LookUp.calls kj66 _ _ t373 _ _ t376 _ _ t379 _ _ t382 ((rd_T41 t373 t385).f3) t386 t387 t402 t403 t404 _ ?side1 ?side2 ?side3 ?side4 ?side5 ?side6 ?side7 ?side8 A121.out).mono ?_); (case side1 => exact cz (Kd.R_reads' HO_389000.out).2.2); (case side2 => exact (Kd.R_reads' HO_389000.out).2.1); (case side3 => exact cz (Kd.R_reads' HO_389001.out).2.2); (case side4 => exact (Kd.R_reads' HO_389001.out).2.1); (case side5 => exact cz (Kd.R_reads' HO_389002.out).2.2); (case side6 => exact (Kd.R_reads' HO_389002.out).2.1); (case side7 => exact cz (Kd.R_reads' HO_389003.out).2.2); (case side8 => exact (Kd.R_reads' HO_389003.out).2.1); rintro e w231 ⟨rfl, hb⟩; refine ⟨_, rfl, ?_⟩; replace HO_389000 := qz HO_389000 hb; replace HO_389001 := qz HO_389001 hb; replace HO_389002 := qz HO_389002 hb; replace HO_389003 := qz HO_389003 hb; replace BK388 := Aside0.mk (blk_below (kz BK388.out) hb); replace BK389 := Aside0.mk (blk_below (kz BK389.out) hb); replace BK393 := Aside0.mk (blk_below (kz BK393.out) hb); replace BK397 := Aside0.mk (blk_below (kz BK397.out) hb); replace BK401 := Aside0.mk (blk_below (kz BK401.out) hb); replace HB := Aside0.mk (below_step (bz5 HB.out GE388.out GE389.out GE393.out GE397.out GE401.out) hb); (try clear hb); (try clear hi)) | ((with_reducible refine gate_dst (N := 11) rfl ?_); (try (refine gate_guard (by rfl) ?_; dsimp only)); refine box_event ?hg (N := 11) ?hd (cs := #[.int .i64 0, .int .i64 0]) (t := 35) ?hr ?_; (case hd => rfl); (case hg => rfl); (case hr => exact vz); intro gb405 hg w232 hbox hb; replace HO_389000 := qz HO_389000 hb; replace HO_389001 := qz HO_389001 hb; replace HO_389002 := qz HO_389002 hb; replace HO_389003 := Aside0.mk (Kd.R_below (Kd.R_elderB (rz HO_389003.out) gb405 (Nat.le_of_eq hg.symm)) hb); have BK405 := Aside0.mk (hbox); have GW405 := Aside0.mk ((by rw [hg]; exact (below_size (bz5 HB.out GE388.out GE389.out GE393.out GE397.out GE401.out)) : w.heap.size <= gb405)); have GE405 := GW405; replace HB := Aside0.mk (below_step (bz5 HB.out GE388.out GE389.out GE393.out GE397.out GE401.out) hb); have NB388_405 := Aside0.mk ((by rw [hg]; exact Nat.ne_of_lt (blk_lt (kz BK388.out)) : gb388 ≠ gb405)); have NB405_388 := Aside0.mk ((by rw [hg]; exact Nat.ne_of_gt (blk_lt (kz BK388.out)) : gb405 ≠ gb388)); replace BK388 := Aside0.mk (blk_below (kz BK388.out) hb); have NB389_405 := Aside0.mk ((by rw [hg]; exact Nat.ne_of_lt (blk_lt (kz BK389.out)) : gb389 ≠ gb405)); have NB405_389 := Aside0.mk ((by rw [hg]; exact Nat.ne_of_gt (blk_lt (kz BK389.out)) : gb405 ≠ gb389)); replace BK389 := Aside0.mk (blk_below (kz BK389.out) hb); have NB393_405 := Aside0.mk ((by rw [hg]; exact Nat.ne_of_lt (blk_lt (kz BK393.out)) : gb393 ≠ gb405)); have NB405_393 := Aside0.mk ((by rw [hg]; exact Nat.ne_of_gt (blk_lt (kz BK393.out)) : gb405 ≠ gb393)); replace BK393 := Aside0.mk (blk_below (kz BK393.out) hb); have NB397_405 := Aside0.mk ((by rw [hg]; exact Nat.ne_of_lt (blk_lt (kz BK397.out)) : gb397 ≠ gb405)); have NB405_397 := Aside0.mk ((by rw [hg]; exact Nat.ne_of_gt (blk_lt (kz BK397.out)) : gb405 ≠ gb397)); replace BK397 := Aside0.mk (blk_below (kz BK397.out) hb); have NB401_405 := Aside0.mk ((by rw [hg]; exact Nat.ne_of_lt (blk_lt (kz BK401.out)) : gb401 ≠ gb405)); have NB405_401 := Aside0.mk ((by rw [hg]; exact Nat.ne_of_gt (blk_lt (kz BK401.out)) : gb405 ≠ gb401)); replace BK401 := Aside0.mk (blk_below (kz BK401.out) hb); clear hb hbox hg; have hnb233 := NB405_388.out; have hnc233 := NB388_405.out; have hnb234 := NB405_389.out; have hnc234 := NB389_405.out; have hnb235 := NB405_393.out; have hnc235 := NB393_405.out; have hnb236 := NB405_397.out; have hnc236 := NB397_405.out; have hnb237 := NB405_401.out; have hnc237 := NB401_405.out; obtain ⟨hcz238_0, hcz238_1⟩ := cz2 BK405.out; obtain ⟨hfz238_0, hfz238_1⟩ := fz2 BK405.out; obtain ⟨hcz239_0, hcz239_1, hcz239_2, hcz239_3, hcz239_4⟩ := cz5 BK401.out; obtain ⟨hfz239_0, hfz239_1, hfz239_2, hfz239_3, hfz239_4⟩ := fz5 BK401.out; obtain ⟨hcz240_0, hcz240_1⟩ := cz2 BK389.out; obtain ⟨hfz240_0, hfz240_1⟩ := fz2 BK389.out))
              go_ret
              exact ⟨gz, (bz6 HB.out GE388.out GE389.out GE393.out GE397.out GE401.out GE405.out)⟩
             ·rw [if_neg c218] at H
              have c218b0 : (t404 != t392) = false := by simpa using c218
              (try (have c218b1 : decide (t404 = t392) = true := by simpa using c218))
              (try (have c218b2 : (t404 == t392) = true := by simpa using c218))
              clear c218
              by_cases c241 : (!(t402 == t390) || (!(t403 == t391))) = true
              ·rw [if_pos c241] at H
               have c241b0 : (!(t402 == t390) || (!(t403 == t391))) = true := c241
               clear c241
               obtain rfl := Option.some.inj H
               have hnb242 := NB388_389.out
               have hnc242 := NB389_388.out
               have hnb243 := NB388_393.out
               have hnc243 := NB393_388.out
               have hnb244 := NB388_397.out
               have hnc244 := NB397_388.out
               have hnb245 := NB388_401.out
               have hnc245 := NB401_388.out
               obtain ⟨hcz246_0, hcz246_1, hcz246_2, hcz246_3⟩ := cz4 BK388.out
               obtain ⟨hfz246_0, hfz246_1, hfz246_2, hfz246_3⟩ := fz4 BK388.out
               have hnb247 := NB401_389.out
               have hnc247 := NB389_401.out
               have hnb248 := NB401_393.out
               have hnc248 := NB393_401.out
               have hnb249 := NB401_397.out
               have hnc249 := NB397_401.out
               obtain ⟨hcz250_0, hcz250_1, hcz250_2, hcz250_3, hcz250_4⟩ := cz5 BK401.out
               obtain ⟨hfz250_0, hfz250_1, hfz250_2, hfz250_3, hfz250_4⟩ := fz5 BK401.out
               have hnb251 := NB389_393.out
               have hnc251 := NB393_389.out
               have hnb252 := NB389_397.out
               have hnc252 := NB397_389.out
               obtain ⟨hcz253_0, hcz253_1⟩ := cz2 BK389.out
               obtain ⟨hfz253_0, hfz253_1⟩ := fz2 BK389.out
               go_wp2_with (first | ((with_reducible refine gate_callee (f := 11) rfl ?_); refine goesL_ (some 96) rfl rfl Tryd.func11 (by kernel_rfl) rfl #[.agg #[.slice (some ad400) t373.length co11, .slice Ao14 t376.length co14, .slice Ao15 t379.length co15, .slice Ao16 t382.length co16], .int .i64 ((rd_T41 t373 t385).f3), .agg #[.int .i64 t386, .int .i64 t387]] rfl lz ?_; (with_reducible refine (impl_LookUp.calls kj66 _ _ t373 _ _ t376 _ _ t379 _ _ t382 ((rd_T41 t373 t385).f3) t386 t387 t402 t403 t404 _ ?side1 ?side2 ?side3 ?side4 ?side5 ?side6 ?side7 ?side8 A121.out).mono ?_); (case side1 => exact cz (Kd.R_reads' HO_389000.out).2.2); (case side2 => exact (Kd.R_reads' HO_389000.out).2.1); (case side3 => exact cz (Kd.R_reads' HO_389001.out).2.2); (case side4 => exact (Kd.R_reads' HO_389001.out).2.1); (case side5 => exact cz (Kd.R_reads' HO_389002.out).2.2); (case side6 => exact (Kd.R_reads' HO_389002.out).2.1); (case side7 => exact cz (Kd.R_reads' HO_389003.out).2.2); (case side8 => exact (Kd.R_reads' HO_389003.out).2.1); rintro e w254 ⟨rfl, hb⟩; refine ⟨_, rfl, ?_⟩; replace HO_389000 := qz HO_389000 hb; replace HO_389001 := qz HO_389001 hb; replace HO_389002 := qz HO_389002 hb; replace HO_389003 := qz HO_389003 hb; replace BK388 := Aside0.mk (blk_below (kz BK388.out) hb); replace BK389 := Aside0.mk (blk_below (kz BK389.out) hb); replace BK393 := Aside0.mk (blk_below (kz BK393.out) hb); replace BK397 := Aside0.mk (blk_below (kz BK397.out) hb); replace BK401 := Aside0.mk (blk_below (kz BK401.out) hb); replace HB := Aside0.mk (below_step (bz5 HB.out GE388.out GE389.out GE393.out GE397.out GE401.out) hb); (try clear hb); (try clear hi)) | ((with_reducible refine gate_dst (N := 11) rfl ?_); (try (refine gate_guard (by rfl) ?_; dsimp only)); refine box_event ?hg (N := 11) ?hd (cs := #[.int .i64 0, .int .i64 0]) (t := 35) ?hr ?_; (case hd => rfl); (case hg => rfl); (case hr => exact vz); intro gb405 hg w255 hbox hb; replace HO_389000 := qz HO_389000 hb; replace HO_389001 := qz HO_389001 hb; replace HO_389002 := qz HO_389002 hb; replace HO_389003 := Aside0.mk (Kd.R_below (Kd.R_elderB (rz HO_389003.out) gb405 (Nat.le_of_eq hg.symm)) hb); have BK405 := Aside0.mk (hbox); have GW405 := Aside0.mk ((by rw [hg]; exact (below_size (bz5 HB.out GE388.out GE389.out GE393.out GE397.out GE401.out)) : w.heap.size <= gb405)); have GE405 := GW405; replace HB := Aside0.mk (below_step (bz5 HB.out GE388.out GE389.out GE393.out GE397.out GE401.out) hb); have NB388_405 := Aside0.mk ((by rw [hg]; exact Nat.ne_of_lt (blk_lt (kz BK388.out)) : gb388 ≠ gb405)); have NB405_388 := Aside0.mk ((by rw [hg]; exact Nat.ne_of_gt (blk_lt (kz BK388.out)) : gb405 ≠ gb388)); replace BK388 := Aside0.mk (blk_below (kz BK388.out) hb); have NB389_405 := Aside0.mk ((by rw [hg]; exact Nat.ne_of_lt (blk_lt (kz BK389.out)) : gb389 ≠ gb405)); have NB405_389 := Aside0.mk ((by rw [hg]; exact Nat.ne_of_gt (blk_lt (kz BK389.out)) : gb405 ≠ gb389)); replace BK389 := Aside0.mk (blk_below (kz BK389.out) hb); have NB393_405 := Aside0.mk ((by rw [hg]; exact Nat.ne_of_lt (blk_lt (kz BK393.out)) : gb393 ≠ gb405)); have NB405_393 := Aside0.mk ((by rw [hg]; exact Nat.ne_of_gt (blk_lt (kz BK393.out)) : gb405 ≠ gb393)); replace BK393 := Aside0.mk (blk_below (kz BK393.out) hb); have NB397_405 := Aside0.mk ((by rw [hg]; exact Nat.ne_of_lt (blk_lt (kz BK397.out)) : gb397 ≠ gb405)); have NB405_397 := Aside0.mk ((by rw [hg]; exact Nat.ne_of_gt (blk_lt (kz BK397.out)) : gb405 ≠ gb397)); replace BK397 := Aside0.mk (blk_below (kz BK397.out) hb); have NB401_405 := Aside0.mk ((by rw [hg]; exact Nat.ne_of_lt (blk_lt (kz BK401.out)) : gb401 ≠ gb405)); have NB405_401 := Aside0.mk ((by rw [hg]; exact Nat.ne_of_gt (blk_lt (kz BK401.out)) : gb405 ≠ gb401)); replace BK401 := Aside0.mk (blk_below (kz BK401.out) hb); clear hb hbox hg; have hnb256 := NB405_388.out; have hnc256 := NB388_405.out; have hnb257 := NB405_389.out; have hnc257 := NB389_405.out; have hnb258 := NB405_393.out; have hnc258 := NB393_405.out; have hnb259 := NB405_397.out; have hnc259 := NB397_405.out; have hnb260 := NB405_401.out; have hnc260 := NB401_405.out; obtain ⟨hcz261_0, hcz261_1⟩ := cz2 BK405.out; obtain ⟨hfz261_0, hfz261_1⟩ := fz2 BK405.out; obtain ⟨hcz262_0, hcz262_1, hcz262_2, hcz262_3, hcz262_4⟩ := cz5 BK401.out; obtain ⟨hfz262_0, hfz262_1, hfz262_2, hfz262_3, hfz262_4⟩ := fz5 BK401.out; obtain ⟨hcz263_0, hcz263_1⟩ := cz2 BK389.out; obtain ⟨hfz263_0, hfz263_1⟩ := fz2 BK389.out; have hnb264 := NB393_397.out; have hnc264 := NB397_393.out; obtain ⟨hcz265_0, hcz265_1⟩ := cz2 BK393.out; obtain ⟨hfz265_0, hfz265_1⟩ := fz2 BK393.out))
               go_ret
               exact ⟨gz, (bz6 HB.out GE388.out GE389.out GE393.out GE397.out GE401.out GE405.out)⟩
              ·rw [if_neg c241] at H
               have c241b0 : (!(t402 == t390) || (!(t403 == t391))) = false := by simpa using c241
               clear c241
               have H' := Aside0.mk H
               clear H
               have hnb266 := NB388_389.out
               have hnc266 := NB389_388.out
               have hnb267 := NB388_393.out
               have hnc267 := NB393_388.out
               have hnb268 := NB388_397.out
               have hnc268 := NB397_388.out
               have hnb269 := NB388_401.out
               have hnc269 := NB401_388.out
               obtain ⟨hcz270_0, hcz270_1, hcz270_2, hcz270_3⟩ := cz4 BK388.out
               obtain ⟨hfz270_0, hfz270_1, hfz270_2, hfz270_3⟩ := fz4 BK388.out
               have hnb271 := NB401_389.out
               have hnc271 := NB389_401.out
               have hnb272 := NB401_393.out
               have hnc272 := NB393_401.out
               have hnb273 := NB401_397.out
               have hnc273 := NB397_401.out
               obtain ⟨hcz274_0, hcz274_1, hcz274_2, hcz274_3, hcz274_4⟩ := cz5 BK401.out
               obtain ⟨hfz274_0, hfz274_1, hfz274_2, hfz274_3, hfz274_4⟩ := fz5 BK401.out
               have hnb275 := NB389_393.out
               have hnc275 := NB393_389.out
               have hnb276 := NB389_397.out
               have hnc276 := NB397_389.out
               obtain ⟨hcz277_0, hcz277_1⟩ := cz2 BK389.out
               obtain ⟨hfz277_0, hfz277_1⟩ := fz2 BK389.out
               go_wp2_with (first | ((with_reducible refine gate_callee (f := 11) rfl ?_); refine goesL_ (some 96) rfl rfl Tryd.func11 (by kernel_rfl) rfl #[.agg #[.slice (some ad400) t373.length co11, .slice Ao14 t376.length co14, .slice Ao15 t379.length co15, .slice Ao16 t382.length co16], .int .i64 ((rd_T41 t373 t385).f3), .agg #[.int .i64 t386, .int .i64 t387]] rfl lz ?_; (with_reducible refine (impl_LookUp.calls kj66 _ _ t373 _ _ t376 _ _ t379 _ _ t382 ((rd_T41 t373 t385).f3) t386 t387 t402 t403 t404 _ ?side1 ?side2 ?side3 ?side4 ?side5 ?side6 ?side7 ?side8 A121.out).mono ?_); (case side1 => exact cz (Kd.R_reads' HO_389000.out).2.2); (case side2 => exact (Kd.R_reads' HO_389000.out).2.1); (case side3 => exact cz (Kd.R_reads' HO_389001.out).2.2); (case side4 => exact (Kd.R_reads' HO_389001.out).2.1); (case side5 => exact cz (Kd.R_reads' HO_389002.out).2.2); (case side6 => exact (Kd.R_reads' HO_389002.out).2.1); (case side7 => exact cz (Kd.R_reads' HO_389003.out).2.2); (case side8 => exact (Kd.R_reads' HO_389003.out).2.1); rintro e w278 ⟨rfl, hb⟩; refine ⟨_, rfl, ?_⟩; replace HO_389000 := qz HO_389000 hb; replace HO_389001 := qz HO_389001 hb; replace HO_389002 := qz HO_389002 hb; replace HO_389003 := qz HO_389003 hb; replace BK388 := Aside0.mk (blk_below (kz BK388.out) hb); replace BK389 := Aside0.mk (blk_below (kz BK389.out) hb); replace BK393 := Aside0.mk (blk_below (kz BK393.out) hb); replace BK397 := Aside0.mk (blk_below (kz BK397.out) hb); replace BK401 := Aside0.mk (blk_below (kz BK401.out) hb); replace HB := Aside0.mk (below_step (bz5 HB.out GE388.out GE389.out GE393.out GE397.out GE401.out) hb); (try clear hb); (try clear hi)) | ((with_reducible refine gate_dst (N := 11) rfl ?_); (try (refine gate_guard (by rfl) ?_; dsimp only)); refine box_event ?hg (N := 11) ?hd (cs := #[.int .i64 0, .int .i64 0]) (t := 35) ?hr ?_; (case hd => rfl); (case hg => rfl); (case hr => exact vz); intro gb405 hg w279 hbox hb; replace HO_389000 := qz HO_389000 hb; replace HO_389001 := qz HO_389001 hb; replace HO_389002 := qz HO_389002 hb; replace HO_389003 := Aside0.mk (Kd.R_below (Kd.R_elderB (rz HO_389003.out) gb405 (Nat.le_of_eq hg.symm)) hb); have BK405 := Aside0.mk (hbox); have GW405 := Aside0.mk ((by rw [hg]; exact (below_size (bz5 HB.out GE388.out GE389.out GE393.out GE397.out GE401.out)) : w.heap.size <= gb405)); have GE405 := GW405; replace HB := Aside0.mk (below_step (bz5 HB.out GE388.out GE389.out GE393.out GE397.out GE401.out) hb); have NB388_405 := Aside0.mk ((by rw [hg]; exact Nat.ne_of_lt (blk_lt (kz BK388.out)) : gb388 ≠ gb405)); have NB405_388 := Aside0.mk ((by rw [hg]; exact Nat.ne_of_gt (blk_lt (kz BK388.out)) : gb405 ≠ gb388)); replace BK388 := Aside0.mk (blk_below (kz BK388.out) hb); have NB389_405 := Aside0.mk ((by rw [hg]; exact Nat.ne_of_lt (blk_lt (kz BK389.out)) : gb389 ≠ gb405)); have NB405_389 := Aside0.mk ((by rw [hg]; exact Nat.ne_of_gt (blk_lt (kz BK389.out)) : gb405 ≠ gb389)); replace BK389 := Aside0.mk (blk_below (kz BK389.out) hb); have NB393_405 := Aside0.mk ((by rw [hg]; exact Nat.ne_of_lt (blk_lt (kz BK393.out)) : gb393 ≠ gb405)); have NB405_393 := Aside0.mk ((by rw [hg]; exact Nat.ne_of_gt (blk_lt (kz BK393.out)) : gb405 ≠ gb393)); replace BK393 := Aside0.mk (blk_below (kz BK393.out) hb); have NB397_405 := Aside0.mk ((by rw [hg]; exact Nat.ne_of_lt (blk_lt (kz BK397.out)) : gb397 ≠ gb405)); have NB405_397 := Aside0.mk ((by rw [hg]; exact Nat.ne_of_gt (blk_lt (kz BK397.out)) : gb405 ≠ gb397)); replace BK397 := Aside0.mk (blk_below (kz BK397.out) hb); have NB401_405 := Aside0.mk ((by rw [hg]; exact Nat.ne_of_lt (blk_lt (kz BK401.out)) : gb401 ≠ gb405)); have NB405_401 := Aside0.mk ((by rw [hg]; exact Nat.ne_of_gt (blk_lt (kz BK401.out)) : gb405 ≠ gb401)); replace BK401 := Aside0.mk (blk_below (kz BK401.out) hb); clear hb hbox hg; have hnb280 := NB405_388.out; have hnc280 := NB388_405.out; have hnb281 := NB405_389.out; have hnc281 := NB389_405.out; have hnb282 := NB405_393.out; have hnc282 := NB393_405.out; have hnb283 := NB405_397.out; have hnc283 := NB397_405.out; have hnb284 := NB405_401.out; have hnc284 := NB401_405.out; obtain ⟨hcz285_0, hcz285_1⟩ := cz2 BK405.out; obtain ⟨hfz285_0, hfz285_1⟩ := fz2 BK405.out; obtain ⟨hcz286_0, hcz286_1, hcz286_2, hcz286_3, hcz286_4⟩ := cz5 BK401.out; obtain ⟨hfz286_0, hfz286_1, hfz286_2, hfz286_3, hfz286_4⟩ := fz5 BK401.out; obtain ⟨hcz287_0, hcz287_1⟩ := cz2 BK389.out; obtain ⟨hfz287_0, hfz287_1⟩ := fz2 BK389.out; have hnb288 := NB393_397.out; have hnc288 := NB397_393.out; obtain ⟨hcz289_0, hcz289_1⟩ := cz2 BK393.out; obtain ⟨hfz289_0, hfz289_1⟩ := fz2 BK393.out))
               go_meet
               case rel => exact ⟨_, H', ⟨by have := HJ6.out; have := HJ42.out; have := HJ66.out; first | omega | exact Nat.le_refl _⟩, ⟨by refine rq ?_; first | (with_reducible exact Kd.R_mono (Kd.R_far (p := ⟨gb405, 1, none⟩) (Kd.R_far (p := ⟨gb405, 0, none⟩) (Kd.R_types HO_389000.out BK405.out (by decide)) (fun _ hk => hk.2) (.int .i64 t402)) (fun _ hk => hk.2) (.int .i64 t403)) (fun _ hk => trivial)) | exact Kd.R_mono (Kd.R_far (p := ⟨gb405, 1, none⟩) (Kd.R_drewN (Kd.R_far (p := ⟨gb405, 0, none⟩) (Kd.R_types HO_389000.out BK405.out (by decide)) (fun _ hk => hk.2) (.int .i64 t402)) _) (fun _ hk => hk.2) (.int .i64 t403)) (fun _ hk => trivial)⟩, ⟨by refine rq ?_; first | (with_reducible exact Kd.R_mono (Kd.R_far (p := ⟨gb405, 1, none⟩) (Kd.R_far (p := ⟨gb405, 0, none⟩) (Kd.R_types HO_389001.out BK405.out (by decide)) (fun _ hk => hk.2) (.int .i64 t402)) (fun _ hk => hk.2) (.int .i64 t403)) (fun _ hk => trivial)) | exact Kd.R_mono (Kd.R_far (p := ⟨gb405, 1, none⟩) (Kd.R_drewN (Kd.R_far (p := ⟨gb405, 0, none⟩) (Kd.R_types HO_389001.out BK405.out (by decide)) (fun _ hk => hk.2) (.int .i64 t402)) _) (fun _ hk => hk.2) (.int .i64 t403)) (fun _ hk => trivial)⟩, ⟨by refine rq ?_; first | (with_reducible exact Kd.R_mono (Kd.R_far (p := ⟨gb405, 1, none⟩) (Kd.R_far (p := ⟨gb405, 0, none⟩) (Kd.R_types HO_389002.out BK405.out (by decide)) (fun _ hk => hk.2) (.int .i64 t402)) (fun _ hk => hk.2) (.int .i64 t403)) (fun _ hk => trivial)) | exact Kd.R_mono (Kd.R_far (p := ⟨gb405, 1, none⟩) (Kd.R_drewN (Kd.R_far (p := ⟨gb405, 0, none⟩) (Kd.R_types HO_389002.out BK405.out (by decide)) (fun _ hk => hk.2) (.int .i64 t402)) _) (fun _ hk => hk.2) (.int .i64 t403)) (fun _ hk => trivial)⟩, ⟨by refine rq ?_; first | (with_reducible exact Kd.R_mono (Kd.R_far (p := ⟨gb405, 1, none⟩) (Kd.R_far (p := ⟨gb405, 0, none⟩) (Kd.R_mono HO_389003.out (fun k_ hk => (⟨hk, hk.2⟩ : _ /\ k_ ≠ gb405))) (fun _ hk => hk.2) (.int .i64 t402)) (fun _ hk => hk.2) (.int .i64 t403)) (fun _ hk => ⟨hk.1.1.1, hk.1.1.2⟩)) | exact Kd.R_mono (Kd.R_far (p := ⟨gb405, 1, none⟩) (Kd.R_drewN (Kd.R_far (p := ⟨gb405, 0, none⟩) (Kd.R_mono HO_389003.out (fun k_ hk => (⟨hk, hk.2⟩ : _ /\ k_ ≠ gb405))) (fun _ hk => hk.2) (.int .i64 t402)) _) (fun _ hk => hk.2) (.int .i64 t403)) (fun _ hk => ⟨hk.1.1.1, hk.1.1.2⟩)⟩, ⟨by refine kq ?_; refine blk_far ?_ NB388_405.out _; refine kq ?_; refine blk_far ?_ NB388_405.out _; refine kq ?_; exact BK388.out⟩, ⟨by refine kq ?_; refine blk_far ?_ NB389_405.out _; refine kq ?_; refine blk_far ?_ NB389_405.out _; refine kq ?_; exact BK389.out⟩, ⟨by refine kq ?_; refine blk_far ?_ NB393_405.out _; refine kq ?_; refine blk_far ?_ NB393_405.out _; refine kq ?_; exact BK393.out⟩, ⟨by refine kq ?_; refine blk_far ?_ NB397_405.out _; refine kq ?_; refine blk_far ?_ NB397_405.out _; refine kq ?_; exact BK397.out⟩, ⟨(bz6 HB.out GE388.out GE389.out GE393.out GE397.out GE401.out GE405.out)⟩⟩
        · as_aux_lemma =>
         replace c64 := Bool.eq_false_iff.mpr c64
         subst c64
         have H1 := hq H
         clear H
         have H := H1
         clear H1
         have H' := Aside0.mk H
         clear H
         go_wp2
         go_meet
         case rel => exact ⟨_, H', ⟨by have := HJ6.out; have := HJ42.out; first | omega | exact Nat.le_refl _⟩, ⟨by refine rq ?_; exact HO_389000.out⟩, ⟨by refine rq ?_; exact HO_389001.out⟩, ⟨by refine rq ?_; exact HO_389002.out⟩, ⟨by refine rq ?_; exact HO_389003.out⟩, ⟨by refine kq ?_; exact BK388.out⟩, ⟨by refine kq ?_; exact BK389.out⟩, ⟨by refine kq ?_; exact BK393.out⟩, ⟨by refine kq ?_; exact BK397.out⟩, ⟨(bz4 HB.out GE388.out GE389.out GE393.out GE397.out)⟩⟩
       case rest =>
        clear HC63
        try clear c1
        try clear c2
        try clear p2
        try clear p4
        try clear q4
        try clear hx4
        try clear c6
        try clear c8
        try clear c9
        try clear c10
        try clear c11
        try clear c12
        try clear c13
        try clear c14
        try clear c15
        try clear c16
        try clear c17
        try clear c18
        try clear c19
        try clear c20
        try clear c21
        try clear c22
        try clear c23
        try clear c24
        try clear c25
        try clear c26
        try clear c27
        try clear c28
        try clear p40
        try clear q40
        try clear hx40
        try clear c64
        try clear c65
        try clear c66
        try clear c83
        try clear c84
        try clear c86
        try clear c87
        try clear c88
        try clear c90
        try clear c91
        try clear c93
        try clear c94
        try clear c95
        try clear c96
        try clear c98
        try clear c99
        try clear c100
        try clear c102
        try clear c103
        try clear c104
        try clear c105
        try clear c107
        try clear c108
        try clear c109
        try clear c111
        try clear c112
        try clear c113
        try clear c114
        try clear c116
        try clear c117
        try clear c118
        try clear c120
        try clear c122
        try clear c122b0
        try clear c122b1
        try clear c123
        try clear c123b0
        try clear c123b1
        try clear c124
        try clear c125
        try clear c126
        try clear c127
        try clear c129
        try clear c130
        try clear c131
        try clear c133
        try clear c134
        try clear c138
        try clear c139
        try clear c140
        try clear c141
        try clear c142
        try clear c146
        try clear c146b0
        try clear c146b1
        try clear c146b2
        try clear c147
        try clear c148
        try clear c149
        try clear c150
        try clear c152
        try clear c153
        try clear c154
        try clear c156
        try clear c157
        try clear c161
        try clear c162
        try clear c163
        try clear c164
        try clear c165
        try clear c169
        try clear c169b0
        try clear c170
        try clear c171
        try clear c172
        try clear c173
        try clear c175
        try clear c176
        try clear c177
        try clear c179
        try clear c180
        try clear c184
        try clear c185
        try clear c186
        try clear c187
        try clear c188
        try clear c192
        try clear c194
        try clear c195
        try clear c196
        try clear c197
        try clear c199
        try clear c200
        try clear c201
        try clear c203
        try clear c204
        try clear c208
        try clear c209
        try clear c210
        try clear c211
        try clear c212
        try clear c216
        try clear c218
        try clear c218b0
        try clear c218b1
        try clear c218b2
        try clear c219
        try clear c220
        try clear c221
        try clear c222
        try clear c224
        try clear c225
        try clear c226
        try clear c228
        try clear c229
        try clear c233
        try clear c234
        try clear c235
        try clear c236
        try clear c237
        try clear c241
        try clear c241b0
        try clear c242
        try clear c243
        try clear c244
        try clear c245
        try clear c247
        try clear c248
        try clear c249
        try clear c251
        try clear c252
        try clear c256
        try clear c257
        try clear c258
        try clear c259
        try clear c260
        try clear c264
        try clear c266
        try clear c267
        try clear c268
        try clear c269
        try clear c271
        try clear c272
        try clear c273
        try clear c275
        try clear c276
        try clear c280
        try clear c281
        try clear c282
        try clear c283
        try clear c284
        try clear c288
        try clear hcz101_0 hcz101_1
        try clear hcz106_0 hcz106_1 hcz106_2 hcz106_3 hcz106_4
        try clear hcz110_0 hcz110_1
        try clear hcz115_0 hcz115_1 hcz115_2 hcz115_3 hcz115_4
        try clear hcz119_0 hcz119_1
        try clear hcz128_0 hcz128_1 hcz128_2 hcz128_3
        try clear hcz132_0 hcz132_1 hcz132_2 hcz132_3 hcz132_4
        try clear hcz135_0 hcz135_1
        try clear hcz13_0 hcz13_1 hcz13_2 hcz13_3
        try clear hcz143_0 hcz143_1
        try clear hcz144_0 hcz144_1 hcz144_2 hcz144_3 hcz144_4
        try clear hcz145_0 hcz145_1
        try clear hcz151_0 hcz151_1 hcz151_2 hcz151_3
        try clear hcz155_0 hcz155_1 hcz155_2 hcz155_3 hcz155_4
        try clear hcz158_0 hcz158_1
        try clear hcz166_0 hcz166_1
        try clear hcz167_0 hcz167_1 hcz167_2 hcz167_3 hcz167_4
        try clear hcz168_0 hcz168_1
        try clear hcz174_0 hcz174_1 hcz174_2 hcz174_3
        try clear hcz178_0 hcz178_1 hcz178_2 hcz178_3 hcz178_4
        try clear hcz17_0 hcz17_1
        try clear hcz181_0 hcz181_1
        try clear hcz189_0 hcz189_1
        try clear hcz190_0 hcz190_1 hcz190_2 hcz190_3 hcz190_4
        try clear hcz191_0 hcz191_1
        try clear hcz193_0 hcz193_1
        try clear hcz198_0 hcz198_1 hcz198_2 hcz198_3
        try clear hcz202_0 hcz202_1 hcz202_2 hcz202_3 hcz202_4
        try clear hcz205_0 hcz205_1
        try clear hcz213_0 hcz213_1
        try clear hcz214_0 hcz214_1 hcz214_2 hcz214_3 hcz214_4
        try clear hcz215_0 hcz215_1
        try clear hcz217_0 hcz217_1
        try clear hcz223_0 hcz223_1 hcz223_2 hcz223_3
        try clear hcz227_0 hcz227_1 hcz227_2 hcz227_3 hcz227_4
        try clear hcz22_0 hcz22_1
        try clear hcz230_0 hcz230_1
        try clear hcz238_0 hcz238_1
        try clear hcz239_0 hcz239_1 hcz239_2 hcz239_3 hcz239_4
        try clear hcz23_0 hcz23_1 hcz23_2 hcz23_3
        try clear hcz240_0 hcz240_1
        try clear hcz246_0 hcz246_1 hcz246_2 hcz246_3
        try clear hcz24_0 hcz24_1
        try clear hcz250_0 hcz250_1 hcz250_2 hcz250_3 hcz250_4
        try clear hcz253_0 hcz253_1
        try clear hcz261_0 hcz261_1
        try clear hcz262_0 hcz262_1 hcz262_2 hcz262_3 hcz262_4
        try clear hcz263_0 hcz263_1
        try clear hcz265_0 hcz265_1
        try clear hcz270_0 hcz270_1 hcz270_2 hcz270_3
        try clear hcz274_0 hcz274_1 hcz274_2 hcz274_3 hcz274_4
        try clear hcz277_0 hcz277_1
        try clear hcz285_0 hcz285_1
        try clear hcz286_0 hcz286_1 hcz286_2 hcz286_3 hcz286_4
        try clear hcz287_0 hcz287_1
        try clear hcz289_0 hcz289_1
        try clear hcz30_0 hcz30_1
        try clear hcz37_0 hcz37_1 hcz37_2 hcz37_3
        try clear hcz40_0 hcz40_1
        try clear hcz50_0 hcz50_1 hcz50_2 hcz50_3
        try clear hcz52_0 hcz52_1 hcz52_2 hcz52_3
        try clear hcz56_0 hcz56_1 hcz56_2 hcz56_3
        try clear hcz61_0 hcz61_1 hcz61_2 hcz61_3
        try clear hcz71_0 hcz71_1 hcz71_2 hcz71_3
        try clear hcz77_0 hcz77_1 hcz77_2 hcz77_3 hcz77_4
        try clear hcz85_0 hcz85_1 hcz85_2 hcz85_3 hcz85_4
        try clear hcz89_0 hcz89_1
        try clear hcz92_0 hcz92_1
        try clear hcz97_0 hcz97_1 hcz97_2 hcz97_3 hcz97_4
        try clear hfz101_0 hfz101_1
        try clear hfz106_0 hfz106_1 hfz106_2 hfz106_3 hfz106_4
        try clear hfz110_0 hfz110_1
        try clear hfz115_0 hfz115_1 hfz115_2 hfz115_3 hfz115_4
        try clear hfz119_0 hfz119_1
        try clear hfz128_0 hfz128_1 hfz128_2 hfz128_3
        try clear hfz132_0 hfz132_1 hfz132_2 hfz132_3 hfz132_4
        try clear hfz135_0 hfz135_1
        try clear hfz13_0 hfz13_1 hfz13_2 hfz13_3
        try clear hfz143_0 hfz143_1
        try clear hfz144_0 hfz144_1 hfz144_2 hfz144_3 hfz144_4
        try clear hfz145_0 hfz145_1
        try clear hfz151_0 hfz151_1 hfz151_2 hfz151_3
        try clear hfz155_0 hfz155_1 hfz155_2 hfz155_3 hfz155_4
        try clear hfz158_0 hfz158_1
        try clear hfz166_0 hfz166_1
        try clear hfz167_0 hfz167_1 hfz167_2 hfz167_3 hfz167_4
        try clear hfz168_0 hfz168_1
        try clear hfz174_0 hfz174_1 hfz174_2 hfz174_3
        try clear hfz178_0 hfz178_1 hfz178_2 hfz178_3 hfz178_4
        try clear hfz17_0 hfz17_1
        try clear hfz181_0 hfz181_1
        try clear hfz189_0 hfz189_1
        try clear hfz190_0 hfz190_1 hfz190_2 hfz190_3 hfz190_4
        try clear hfz191_0 hfz191_1
        try clear hfz193_0 hfz193_1
        try clear hfz198_0 hfz198_1 hfz198_2 hfz198_3
        try clear hfz202_0 hfz202_1 hfz202_2 hfz202_3 hfz202_4
        try clear hfz205_0 hfz205_1
        try clear hfz213_0 hfz213_1
        try clear hfz214_0 hfz214_1 hfz214_2 hfz214_3 hfz214_4
        try clear hfz215_0 hfz215_1
        try clear hfz217_0 hfz217_1
        try clear hfz223_0 hfz223_1 hfz223_2 hfz223_3
        try clear hfz227_0 hfz227_1 hfz227_2 hfz227_3 hfz227_4
        try clear hfz22_0 hfz22_1
        try clear hfz230_0 hfz230_1
        try clear hfz238_0 hfz238_1
        try clear hfz239_0 hfz239_1 hfz239_2 hfz239_3 hfz239_4
        try clear hfz23_0 hfz23_1 hfz23_2 hfz23_3
        try clear hfz240_0 hfz240_1
        try clear hfz246_0 hfz246_1 hfz246_2 hfz246_3
        try clear hfz24_0 hfz24_1
        try clear hfz250_0 hfz250_1 hfz250_2 hfz250_3 hfz250_4
        try clear hfz253_0 hfz253_1
        try clear hfz261_0 hfz261_1
        try clear hfz262_0 hfz262_1 hfz262_2 hfz262_3 hfz262_4
        try clear hfz263_0 hfz263_1
        try clear hfz265_0 hfz265_1
        try clear hfz270_0 hfz270_1 hfz270_2 hfz270_3
        try clear hfz274_0 hfz274_1 hfz274_2 hfz274_3 hfz274_4
        try clear hfz277_0 hfz277_1
        try clear hfz285_0 hfz285_1
        try clear hfz286_0 hfz286_1 hfz286_2 hfz286_3 hfz286_4
        try clear hfz287_0 hfz287_1
        try clear hfz289_0 hfz289_1
        try clear hfz30_0 hfz30_1
        try clear hfz37_0 hfz37_1 hfz37_2 hfz37_3
        try clear hfz40_0 hfz40_1
        try clear hfz50_0 hfz50_1 hfz50_2 hfz50_3
        try clear hfz52_0 hfz52_1 hfz52_2 hfz52_3
        try clear hfz56_0 hfz56_1 hfz56_2 hfz56_3
        try clear hfz61_0 hfz61_1 hfz61_2 hfz61_3
        try clear hfz71_0 hfz71_1 hfz71_2 hfz71_3
        try clear hfz77_0 hfz77_1 hfz77_2 hfz77_3 hfz77_4
        try clear hfz85_0 hfz85_1 hfz85_2 hfz85_3 hfz85_4
        try clear hfz89_0 hfz89_1
        try clear hfz92_0 hfz92_1
        try clear hfz97_0 hfz97_1 hfz97_2 hfz97_3 hfz97_4
        try clear hx400_0
        try clear hx400_1
        try clear hx400_2
        try clear hx400_3
        try clear hx400_4
        try clear p2
        try clear p400
        try clear q400
        obtain ⟨kq, HA, HJ62, HO_389000, HO_389001, HO_389002, HO_389003, BK388, BK389, BK393, BK397, HB⟩ := hcut
        cases kq with
        | zero => exact absurd HA.out (by simp [laws_FnValues.j3])
        | succ kj62 =>
         have H := HA.out
         clear HA
         simp only [laws_FnValues.j3] at H
         replace H := bi H
         obtain ⟨⟨t406, t409, t412, t415, t418, t419, t420⟩, A2900, H⟩ := H
         try dsimp only at H
         have A290 := Aside0.mk A2900
         clear A2900
         replace H := bi H
         obtain ⟨t423, A2910, H⟩ := H
         try dsimp only at H
         have A291 := Aside0.mk A2910
         clear A2910
         have HC292 := Aside0.mk H
         clear H
         go_upto_region 17 with (first | ((with_reducible refine gate_callee (f := 15) rfl ?_); refine goesL_ (some 123) rfl rfl Tryd.func15 (by kernel_rfl) rfl #[.slice A0 l0.length c0] rfl lz ?_; (with_reducible refine (spec_DrawShowVal.calls kj62 _ _ l0 t406 t409 t412 t415 t418 t419 t420 _ ?side1 ?side2 A290.out).mono ?_); (case side1 => exact cz (Kd.C_below HR0.out HB.out)); (case side2 => exact HC0.out); rintro e w293 ⟨v407, v410, v413, v416, rfl, ho0, ho1, ho2, ho3, hb⟩; refine ⟨_, rfl, ?_⟩; have HO408 := Aside0.mk (Kd.R_lower (Kd.R_new' ho0 (Kd.R_lt (rz HO_389000.out))) (below_size (bz4 HB.out GE388.out GE389.out GE393.out GE397.out))); replace HO_389000 := Aside0.mk (Kd.R_elder' (rz HO_389000.out) (Kd.R_base ho0) hb); have HO411 := Aside0.mk (Kd.R_lower (Kd.R_new' ho1 (Kd.R_lt (rz HO_389001.out))) (below_size (bz4 HB.out GE388.out GE389.out GE393.out GE397.out))); replace HO_389001 := Aside0.mk (Kd.R_elder' (rz HO_389001.out) (Kd.R_base ho1) hb); have HO414 := Aside0.mk (Kd.R_lower (Kd.R_new' ho2 (Kd.R_lt (rz HO_389002.out))) (below_size (bz4 HB.out GE388.out GE389.out GE393.out GE397.out))); replace HO_389002 := Aside0.mk (Kd.R_elder' (rz HO_389002.out) (Kd.R_base ho2) hb); have HO417 := Aside0.mk (Kd.R_lower (Kd.R_newB (Kd.R_newB (Kd.R_new' ho3 (Kd.R_lt (rz HO_389003.out))) (g := gb393) (o := .cells #[.int .i64 t390, .int .i64 t391] 35 (0, 0)) (kz BK393.out)) (g := gb397) (o := .cells #[.int .i64 t394, .int .i64 t395] 35 (0, 0)) (kz BK397.out)) (below_size (bz4 HB.out GE388.out GE389.out GE393.out GE397.out))); replace HO_389003 := Aside0.mk (Kd.R_elder' (rz HO_389003.out) (Kd.R_base ho3) hb); replace BK388 := Aside0.mk (blk_below (kz BK388.out) hb); replace BK389 := Aside0.mk (blk_below (kz BK389.out) hb); replace BK393 := Aside0.mk (blk_below (kz BK393.out) hb); replace BK397 := Aside0.mk (blk_below (kz BK397.out) hb); replace HB := Aside0.mk (below_step (bz4 HB.out GE388.out GE389.out GE393.out GE397.out) hb); (try clear hb); (try clear hk); (try clear ho0); (try clear ho1); (try clear ho2); (try clear ho3)) | ((with_reducible refine gate_dst (N := 13) rfl ?_); (try (refine gate_guard (by rfl) ?_; dsimp only)); refine box_event ?hg (N := 13) ?hd (cs := #[.slice none 0 0, .slice none 0 0, .slice none 0 0, .slice none 0 0]) (t := 29) ?hr ?_; (case hd => rfl); (case hg => rfl); (case hr => exact vz); intro gb421 hg w294 hbox hb; replace HO_389000 := qz HO_389000 hb; replace HO_389001 := qz HO_389001 hb; replace HO_389002 := qz HO_389002 hb; replace HO_389003 := qz HO_389003 hb; replace HO408 := qz HO408 hb; replace HO411 := qz HO411 hb; replace HO414 := qz HO414 hb; replace HO417 := qz HO417 hb; have BK421 := Aside0.mk (hbox); have GW421 := Aside0.mk ((by rw [hg]; exact (below_size (bz4 HB.out GE388.out GE389.out GE393.out GE397.out)) : w.heap.size <= gb421)); have GE421 := GW421; replace HB := Aside0.mk (below_step (bz4 HB.out GE388.out GE389.out GE393.out GE397.out) hb); have NB388_421 := Aside0.mk ((by rw [hg]; exact Nat.ne_of_lt (blk_lt (kz BK388.out)) : gb388 ≠ gb421)); have NB421_388 := Aside0.mk ((by rw [hg]; exact Nat.ne_of_gt (blk_lt (kz BK388.out)) : gb421 ≠ gb388)); replace BK388 := Aside0.mk (blk_below (kz BK388.out) hb); have NB389_421 := Aside0.mk ((by rw [hg]; exact Nat.ne_of_lt (blk_lt (kz BK389.out)) : gb389 ≠ gb421)); have NB421_389 := Aside0.mk ((by rw [hg]; exact Nat.ne_of_gt (blk_lt (kz BK389.out)) : gb421 ≠ gb389)); replace BK389 := Aside0.mk (blk_below (kz BK389.out) hb); have NB393_421 := Aside0.mk ((by rw [hg]; exact Nat.ne_of_lt (blk_lt (kz BK393.out)) : gb393 ≠ gb421)); have NB421_393 := Aside0.mk ((by rw [hg]; exact Nat.ne_of_gt (blk_lt (kz BK393.out)) : gb421 ≠ gb393)); replace BK393 := Aside0.mk (blk_below (kz BK393.out) hb); have NB397_421 := Aside0.mk ((by rw [hg]; exact Nat.ne_of_lt (blk_lt (kz BK397.out)) : gb397 ≠ gb421)); have NB421_397 := Aside0.mk ((by rw [hg]; exact Nat.ne_of_gt (blk_lt (kz BK397.out)) : gb421 ≠ gb397)); replace BK397 := Aside0.mk (blk_below (kz BK397.out) hb); clear hb hbox hg) | ((with_reducible refine gate_dst (N := 14) rfl ?_); (try (refine gate_guard (by rfl) ?_; dsimp only)); refine box_event ?hg (N := 14) ?hd (cs := #[.int .i64 0, .int .i64 0]) (t := 35) ?hr ?_; (case hd => rfl); (case hg => rfl); (case hr => exact vz); intro gb422 hg w295 hbox hb; replace HO_389000 := qz HO_389000 hb; replace HO_389001 := qz HO_389001 hb; replace HO_389002 := qz HO_389002 hb; replace HO_389003 := Aside0.mk (Kd.R_below (Kd.R_elderB (rz HO_389003.out) gb422 (Nat.le_of_eq hg.symm)) hb); replace HO408 := qz HO408 hb; replace HO411 := qz HO411 hb; replace HO414 := qz HO414 hb; replace HO417 := Aside0.mk (Kd.R_below (Kd.R_elderB (rz HO417.out) gb422 (Nat.le_of_eq hg.symm)) hb); have BK422 := Aside0.mk (hbox); have GW422 := Aside0.mk ((by rw [hg]; exact (below_size (bz5 HB.out GE388.out GE389.out GE393.out GE397.out GE421.out)) : w.heap.size <= gb422)); have GE422 := GW422; replace HB := Aside0.mk (below_step (bz5 HB.out GE388.out GE389.out GE393.out GE397.out GE421.out) hb); have NB388_422 := Aside0.mk ((by rw [hg]; exact Nat.ne_of_lt (blk_lt (kz BK388.out)) : gb388 ≠ gb422)); have NB422_388 := Aside0.mk ((by rw [hg]; exact Nat.ne_of_gt (blk_lt (kz BK388.out)) : gb422 ≠ gb388)); replace BK388 := Aside0.mk (blk_below (kz BK388.out) hb); have NB389_422 := Aside0.mk ((by rw [hg]; exact Nat.ne_of_lt (blk_lt (kz BK389.out)) : gb389 ≠ gb422)); have NB422_389 := Aside0.mk ((by rw [hg]; exact Nat.ne_of_gt (blk_lt (kz BK389.out)) : gb422 ≠ gb389)); replace BK389 := Aside0.mk (blk_below (kz BK389.out) hb); have NB393_422 := Aside0.mk ((by rw [hg]; exact Nat.ne_of_lt (blk_lt (kz BK393.out)) : gb393 ≠ gb422)); have NB422_393 := Aside0.mk ((by rw [hg]; exact Nat.ne_of_gt (blk_lt (kz BK393.out)) : gb422 ≠ gb393)); replace BK393 := Aside0.mk (blk_below (kz BK393.out) hb); have NB397_422 := Aside0.mk ((by rw [hg]; exact Nat.ne_of_lt (blk_lt (kz BK397.out)) : gb397 ≠ gb422)); have NB422_397 := Aside0.mk ((by rw [hg]; exact Nat.ne_of_gt (blk_lt (kz BK397.out)) : gb422 ≠ gb397)); replace BK397 := Aside0.mk (blk_below (kz BK397.out) hb); have NB421_422 := Aside0.mk ((by rw [hg]; exact Nat.ne_of_lt (blk_lt (kz BK421.out)) : gb421 ≠ gb422)); have NB422_421 := Aside0.mk ((by rw [hg]; exact Nat.ne_of_gt (blk_lt (kz BK421.out)) : gb422 ≠ gb421)); replace BK421 := Aside0.mk (blk_below (kz BK421.out) hb); clear hb hbox hg; obtain ⟨Ao296, co296, eo296⟩ := Kd.R_slice HO408.out; subst eo296; have hnb297 := NB421_388.out; have hnc297 := NB388_421.out; have hnb298 := NB421_389.out; have hnc298 := NB389_421.out; have hnb299 := NB421_393.out; have hnc299 := NB393_421.out; have hnb300 := NB421_397.out; have hnc300 := NB397_421.out; have hnb301 := NB421_422.out; have hnc301 := NB422_421.out; obtain ⟨hcz302_0, hcz302_1, hcz302_2, hcz302_3⟩ := cz4 BK421.out; obtain ⟨hfz302_0, hfz302_1, hfz302_2, hfz302_3⟩ := fz4 BK421.out; obtain ⟨Ao303, co303, eo303⟩ := Kd.R_slice HO411.out; subst eo303; obtain ⟨Ao304, co304, eo304⟩ := Kd.R_slice HO414.out; subst eo304; obtain ⟨Ao305, co305, eo305⟩ := Kd.R_slice HO417.out; subst eo305; have hnb306 := NB422_388.out; have hnc306 := NB388_422.out; have hnb307 := NB422_389.out; have hnc307 := NB389_422.out; have hnb308 := NB422_393.out; have hnc308 := NB393_422.out; have hnb309 := NB422_397.out; have hnc309 := NB397_422.out; obtain ⟨hcz310_0, hcz310_1⟩ := cz2 BK422.out; obtain ⟨hfz310_0, hfz310_1⟩ := fz2 BK422.out) | ((with_reducible refine gate_callee (f := 16) rfl ?_); refine goesL_ (some 130) rfl rfl Tryd.func16 (by kernel_rfl) rfl #[.agg #[.slice Ao296 t406.length co296, .slice Ao303 t409.length co303, .slice Ao304 t412.length co304, .slice Ao305 t415.length co305], .agg #[.int .i64 t418, .int .i64 t419], .int .i64 t420] rfl lz ?_; (with_reducible refine (impl_ShowVal.calls kj62 _ _ t406 _ _ t409 _ _ t412 _ _ t415 t418 t419 t420 t423 _ ?side1 ?side2 ?side3 ?side4 ?side5 ?side6 ?side7 ?side8 A291.out ?hT_).mono ?_); (case hT_ => exact PW.below hT_ (bz6 HB.out GE388.out GE389.out GE393.out GE397.out GE421.out GE422.out)); (case side1 => refine (Kd.R_reads' (e := 41) (base := w.heap.size) (ok := fun k_ => (True /\ some k_ ≠ (.slice Ao11 t373.length co11 : Value).ownBlock)) (n := t406.length) (c := co296) ?_).2.2; exact (by refine rq ?_; exact (Kd.R_mono (Kd.R_mono (Kd.R_far (p := ⟨gb422, 1, none⟩) (Kd.R_far (p := ⟨gb422, 0, none⟩) (Kd.R_far (p := ⟨gb421, 3, none⟩) (Kd.R_far (p := ⟨gb421, 2, none⟩) (Kd.R_far (p := ⟨gb421, 1, none⟩) (Kd.R_far (p := ⟨gb421, 0, none⟩) (Kd.R_types (Kd.R_types HO408.out BK421.out (by decide)) BK422.out (by decide)) (fun _ hk => hk.1.2) (.slice Ao296 t406.length co296)) (fun _ hk => hk.1.2) (.slice Ao303 t409.length co303)) (fun _ hk => hk.1.2) (.slice Ao304 t412.length co304)) (fun _ hk => hk.1.2) (.slice Ao305 t415.length co305)) (fun _ hk => hk.2) (.int .i64 t418)) (fun _ hk => hk.2) (.int .i64 t419)) (fun _ h_ => h_.1)) (fun _ h_ => h_.1)))); (case side2 => exact (Kd.R_reads' HO408.out).2.1); (case side3 => refine (Kd.R_reads' (e := 86) (base := w.heap.size) (ok := fun k_ => (True /\ some k_ ≠ (.slice Ao14 t376.length co14 : Value).ownBlock)) (n := t409.length) (c := co303) ?_).2.2; exact (by refine rq ?_; exact (Kd.R_mono (Kd.R_mono (Kd.R_far (p := ⟨gb422, 1, none⟩) (Kd.R_far (p := ⟨gb422, 0, none⟩) (Kd.R_far (p := ⟨gb421, 3, none⟩) (Kd.R_far (p := ⟨gb421, 2, none⟩) (Kd.R_far (p := ⟨gb421, 1, none⟩) (Kd.R_far (p := ⟨gb421, 0, none⟩) (Kd.R_types (Kd.R_types HO411.out BK421.out (by decide)) BK422.out (by decide)) (fun _ hk => hk.1.2) (.slice Ao296 t406.length co296)) (fun _ hk => hk.1.2) (.slice Ao303 t409.length co303)) (fun _ hk => hk.1.2) (.slice Ao304 t412.length co304)) (fun _ hk => hk.1.2) (.slice Ao305 t415.length co305)) (fun _ hk => hk.2) (.int .i64 t418)) (fun _ hk => hk.2) (.int .i64 t419)) (fun _ h_ => h_.1)) (fun _ h_ => h_.1)))); (case side4 => exact (Kd.R_reads' HO411.out).2.1); (case side5 => refine (Kd.R_reads' (e := 47) (base := w.heap.size) (ok := fun k_ => (True /\ some k_ ≠ (.slice Ao15 t379.length co15 : Value).ownBlock)) (n := t412.length) (c := co304) ?_).2.2; exact (by refine rq ?_; exact (Kd.R_mono (Kd.R_mono (Kd.R_far (p := ⟨gb422, 1, none⟩) (Kd.R_far (p := ⟨gb422, 0, none⟩) (Kd.R_far (p := ⟨gb421, 3, none⟩) (Kd.R_far (p := ⟨gb421, 2, none⟩) (Kd.R_far (p := ⟨gb421, 1, none⟩) (Kd.R_far (p := ⟨gb421, 0, none⟩) (Kd.R_types (Kd.R_types HO414.out BK421.out (by decide)) BK422.out (by decide)) (fun _ hk => hk.1.2) (.slice Ao296 t406.length co296)) (fun _ hk => hk.1.2) (.slice Ao303 t409.length co303)) (fun _ hk => hk.1.2) (.slice Ao304 t412.length co304)) (fun _ hk => hk.1.2) (.slice Ao305 t415.length co305)) (fun _ hk => hk.2) (.int .i64 t418)) (fun _ hk => hk.2) (.int .i64 t419)) (fun _ h_ => h_.1)) (fun _ h_ => h_.1)))); (case side6 => exact (Kd.R_reads' HO414.out).2.1); (case side7 => refine (Kd.R_reads' (e := 35) (base := w.heap.size) (ok := fun k_ => ((((True /\ some k_ ≠ (.slice Ao16 t382.length co16 : Value).ownBlock) /\ k_ ≠ gb393) /\ k_ ≠ gb397) /\ k_ ≠ gb422)) (n := t415.length) (c := co305) ?_).2.2; exact (by refine rq ?_; exact (Kd.R_mono (Kd.R_mono (Kd.R_far (p := ⟨gb422, 1, none⟩) (Kd.R_far (p := ⟨gb422, 0, none⟩) (Kd.R_far (p := ⟨gb421, 3, none⟩) (Kd.R_far (p := ⟨gb421, 2, none⟩) (Kd.R_far (p := ⟨gb421, 1, none⟩) (Kd.R_far (p := ⟨gb421, 0, none⟩) (Kd.R_mono (Kd.R_types HO417.out BK421.out (by decide)) (fun k_ hk => (⟨hk, hk.1.2⟩ : _ /\ k_ ≠ gb422))) (fun _ hk => hk.1.2) (.slice Ao296 t406.length co296)) (fun _ hk => hk.1.2) (.slice Ao303 t409.length co303)) (fun _ hk => hk.1.2) (.slice Ao304 t412.length co304)) (fun _ hk => hk.1.2) (.slice Ao305 t415.length co305)) (fun _ hk => hk.2) (.int .i64 t418)) (fun _ hk => hk.2) (.int .i64 t419)) (fun _ h_ => h_.1)) (fun _ h_ => h_.1)))); (case side8 => exact (Kd.R_reads' HO417.out).2.1); rintro e w311 ⟨rfl, hb⟩; refine ⟨_, rfl, ?_⟩; replace HO_389000 := Aside0.mk (Kd.R_below (by refine rq ?_; exact (Kd.R_mono (Kd.R_mono (Kd.R_far (p := ⟨gb422, 1, none⟩) (Kd.R_far (p := ⟨gb422, 0, none⟩) (Kd.R_far (p := ⟨gb421, 3, none⟩) (Kd.R_far (p := ⟨gb421, 2, none⟩) (Kd.R_far (p := ⟨gb421, 1, none⟩) (Kd.R_far (p := ⟨gb421, 0, none⟩) (Kd.R_types (Kd.R_types HO_389000.out BK421.out (by decide)) BK422.out (by decide)) (fun _ hk => hk.1.2) (.slice Ao296 t406.length co296)) (fun _ hk => hk.1.2) (.slice Ao303 t409.length co303)) (fun _ hk => hk.1.2) (.slice Ao304 t412.length co304)) (fun _ hk => hk.1.2) (.slice Ao305 t415.length co305)) (fun _ hk => hk.2) (.int .i64 t418)) (fun _ hk => hk.2) (.int .i64 t419)) (fun _ h_ => h_.1)) (fun _ h_ => h_.1))) hb); replace HO_389001 := Aside0.mk (Kd.R_below (by refine rq ?_; exact (Kd.R_mono (Kd.R_mono (Kd.R_far (p := ⟨gb422, 1, none⟩) (Kd.R_far (p := ⟨gb422, 0, none⟩) (Kd.R_far (p := ⟨gb421, 3, none⟩) (Kd.R_far (p := ⟨gb421, 2, none⟩) (Kd.R_far (p := ⟨gb421, 1, none⟩) (Kd.R_far (p := ⟨gb421, 0, none⟩) (Kd.R_types (Kd.R_types HO_389001.out BK421.out (by decide)) BK422.out (by decide)) (fun _ hk => hk.1.2) (.slice Ao296 t406.length co296)) (fun _ hk => hk.1.2) (.slice Ao303 t409.length co303)) (fun _ hk => hk.1.2) (.slice Ao304 t412.length co304)) (fun _ hk => hk.1.2) (.slice Ao305 t415.length co305)) (fun _ hk => hk.2) (.int .i64 t418)) (fun _ hk => hk.2) (.int .i64 t419)) (fun _ h_ => h_.1)) (fun _ h_ => h_.1))) hb); replace HO_389002 := Aside0.mk (Kd.R_below (by refine rq ?_; exact (Kd.R_mono (Kd.R_mono (Kd.R_far (p := ⟨gb422, 1, none⟩) (Kd.R_far (p := ⟨gb422, 0, none⟩) (Kd.R_far (p := ⟨gb421, 3, none⟩) (Kd.R_far (p := ⟨gb421, 2, none⟩) (Kd.R_far (p := ⟨gb421, 1, none⟩) (Kd.R_far (p := ⟨gb421, 0, none⟩) (Kd.R_types (Kd.R_types HO_389002.out BK421.out (by decide)) BK422.out (by decide)) (fun _ hk => hk.1.2) (.slice Ao296 t406.length co296)) (fun _ hk => hk.1.2) (.slice Ao303 t409.length co303)) (fun _ hk => hk.1.2) (.slice Ao304 t412.length co304)) (fun _ hk => hk.1.2) (.slice Ao305 t415.length co305)) (fun _ hk => hk.2) (.int .i64 t418)) (fun _ hk => hk.2) (.int .i64 t419)) (fun _ h_ => h_.1)) (fun _ h_ => h_.1))) hb); replace HO_389003 := Aside0.mk (Kd.R_below (by refine rq ?_; exact (Kd.R_mono (Kd.R_mono (Kd.R_far (p := ⟨gb422, 1, none⟩) (Kd.R_far (p := ⟨gb422, 0, none⟩) (Kd.R_far (p := ⟨gb421, 3, none⟩) (Kd.R_far (p := ⟨gb421, 2, none⟩) (Kd.R_far (p := ⟨gb421, 1, none⟩) (Kd.R_far (p := ⟨gb421, 0, none⟩) (Kd.R_mono (Kd.R_types HO_389003.out BK421.out (by decide)) (fun k_ hk => (⟨hk, hk.1.2⟩ : _ /\ k_ ≠ gb422))) (fun _ hk => hk.1.2) (.slice Ao296 t406.length co296)) (fun _ hk => hk.1.2) (.slice Ao303 t409.length co303)) (fun _ hk => hk.1.2) (.slice Ao304 t412.length co304)) (fun _ hk => hk.1.2) (.slice Ao305 t415.length co305)) (fun _ hk => hk.2) (.int .i64 t418)) (fun _ hk => hk.2) (.int .i64 t419)) (fun _ h_ => h_.1)) (fun _ h_ => h_.1))) hb); replace HO408 := Aside0.mk (Kd.R_below (by refine rq ?_; exact (Kd.R_mono (Kd.R_mono (Kd.R_far (p := ⟨gb422, 1, none⟩) (Kd.R_far (p := ⟨gb422, 0, none⟩) (Kd.R_far (p := ⟨gb421, 3, none⟩) (Kd.R_far (p := ⟨gb421, 2, none⟩) (Kd.R_far (p := ⟨gb421, 1, none⟩) (Kd.R_far (p := ⟨gb421, 0, none⟩) (Kd.R_types (Kd.R_types HO408.out BK421.out (by decide)) BK422.out (by decide)) (fun _ hk => hk.1.2) (.slice Ao296 t406.length co296)) (fun _ hk => hk.1.2) (.slice Ao303 t409.length co303)) (fun _ hk => hk.1.2) (.slice Ao304 t412.length co304)) (fun _ hk => hk.1.2) (.slice Ao305 t415.length co305)) (fun _ hk => hk.2) (.int .i64 t418)) (fun _ hk => hk.2) (.int .i64 t419)) (fun _ h_ => h_.1)) (fun _ h_ => h_.1))) hb); replace HO411 := Aside0.mk (Kd.R_below (by refine rq ?_; exact (Kd.R_mono (Kd.R_mono (Kd.R_far (p := ⟨gb422, 1, none⟩) (Kd.R_far (p := ⟨gb422, 0, none⟩) (Kd.R_far (p := ⟨gb421, 3, none⟩) (Kd.R_far (p := ⟨gb421, 2, none⟩) (Kd.R_far (p := ⟨gb421, 1, none⟩) (Kd.R_far (p := ⟨gb421, 0, none⟩) (Kd.R_types (Kd.R_types HO411.out BK421.out (by decide)) BK422.out (by decide)) (fun _ hk => hk.1.2) (.slice Ao296 t406.length co296)) (fun _ hk => hk.1.2) (.slice Ao303 t409.length co303)) (fun _ hk => hk.1.2) (.slice Ao304 t412.length co304)) (fun _ hk => hk.1.2) (.slice Ao305 t415.length co305)) (fun _ hk => hk.2) (.int .i64 t418)) (fun _ hk => hk.2) (.int .i64 t419)) (fun _ h_ => h_.1)) (fun _ h_ => h_.1))) hb); replace HO414 := Aside0.mk (Kd.R_below (by refine rq ?_; exact (Kd.R_mono (Kd.R_mono (Kd.R_far (p := ⟨gb422, 1, none⟩) (Kd.R_far (p := ⟨gb422, 0, none⟩) (Kd.R_far (p := ⟨gb421, 3, none⟩) (Kd.R_far (p := ⟨gb421, 2, none⟩) (Kd.R_far (p := ⟨gb421, 1, none⟩) (Kd.R_far (p := ⟨gb421, 0, none⟩) (Kd.R_types (Kd.R_types HO414.out BK421.out (by decide)) BK422.out (by decide)) (fun _ hk => hk.1.2) (.slice Ao296 t406.length co296)) (fun _ hk => hk.1.2) (.slice Ao303 t409.length co303)) (fun _ hk => hk.1.2) (.slice Ao304 t412.length co304)) (fun _ hk => hk.1.2) (.slice Ao305 t415.length co305)) (fun _ hk => hk.2) (.int .i64 t418)) (fun _ hk => hk.2) (.int .i64 t419)) (fun _ h_ => h_.1)) (fun _ h_ => h_.1))) hb); replace HO417 := Aside0.mk (Kd.R_below (by refine rq ?_; exact (Kd.R_mono (Kd.R_mono (Kd.R_far (p := ⟨gb422, 1, none⟩) (Kd.R_far (p := ⟨gb422, 0, none⟩) (Kd.R_far (p := ⟨gb421, 3, none⟩) (Kd.R_far (p := ⟨gb421, 2, none⟩) (Kd.R_far (p := ⟨gb421, 1, none⟩) (Kd.R_far (p := ⟨gb421, 0, none⟩) (Kd.R_mono (Kd.R_types HO417.out BK421.out (by decide)) (fun k_ hk => (⟨hk, hk.1.2⟩ : _ /\ k_ ≠ gb422))) (fun _ hk => hk.1.2) (.slice Ao296 t406.length co296)) (fun _ hk => hk.1.2) (.slice Ao303 t409.length co303)) (fun _ hk => hk.1.2) (.slice Ao304 t412.length co304)) (fun _ hk => hk.1.2) (.slice Ao305 t415.length co305)) (fun _ hk => hk.2) (.int .i64 t418)) (fun _ hk => hk.2) (.int .i64 t419)) (fun _ h_ => h_.1)) (fun _ h_ => h_.1))) hb); replace BK388 := Aside0.mk (blk_below (g := gb388) (o := .cells #[.slice Ao11 t373.length co11, .slice Ao14 t376.length co14, .slice Ao15 t379.length co15, .slice Ao16 t382.length co16] 29 (0, 0)) (by refine kq ?_; refine blk_far ?_ NB388_422.out _; refine kq ?_; refine blk_far ?_ NB388_422.out _; refine kq ?_; refine blk_far ?_ NB388_421.out _; refine kq ?_; refine blk_far ?_ NB388_421.out _; refine kq ?_; refine blk_far ?_ NB388_421.out _; refine kq ?_; refine blk_far ?_ NB388_421.out _; refine kq ?_; exact BK388.out) hb); replace BK389 := Aside0.mk (blk_below (g := gb389) (o := .cells #[.int .i64 t386, .int .i64 t387] 31 (0, 0)) (by refine kq ?_; refine blk_far ?_ NB389_422.out _; refine kq ?_; refine blk_far ?_ NB389_422.out _; refine kq ?_; refine blk_far ?_ NB389_421.out _; refine kq ?_; refine blk_far ?_ NB389_421.out _; refine kq ?_; refine blk_far ?_ NB389_421.out _; refine kq ?_; refine blk_far ?_ NB389_421.out _; refine kq ?_; exact BK389.out) hb); replace BK393 := Aside0.mk (blk_below (g := gb393) (o := .cells #[.int .i64 t390, .int .i64 t391] 35 (0, 0)) (by refine kq ?_; refine blk_far ?_ NB393_422.out _; refine kq ?_; refine blk_far ?_ NB393_422.out _; refine kq ?_; refine blk_far ?_ NB393_421.out _; refine kq ?_; refine blk_far ?_ NB393_421.out _; refine kq ?_; refine blk_far ?_ NB393_421.out _; refine kq ?_; refine blk_far ?_ NB393_421.out _; refine kq ?_; exact BK393.out) hb); replace BK397 := Aside0.mk (blk_below (g := gb397) (o := .cells #[.int .i64 t394, .int .i64 t395] 35 (0, 0)) (by refine kq ?_; refine blk_far ?_ NB397_422.out _; refine kq ?_; refine blk_far ?_ NB397_422.out _; refine kq ?_; refine blk_far ?_ NB397_421.out _; refine kq ?_; refine blk_far ?_ NB397_421.out _; refine kq ?_; refine blk_far ?_ NB397_421.out _; refine kq ?_; refine blk_far ?_ NB397_421.out _; refine kq ?_; exact BK397.out) hb); replace BK421 := Aside0.mk (blk_below (g := gb421) (o := .cells #[.slice Ao296 t406.length co296, .slice Ao303 t409.length co303, .slice Ao304 t412.length co304, .slice Ao305 t415.length co305] 29 (0, 0)) (by refine kq ?_; refine blk_far ?_ NB421_422.out _; refine kq ?_; refine blk_far ?_ NB421_422.out _; refine kq ?_; refine blk_put (cs := #[.slice Ao296 t406.length co296, .slice Ao303 t409.length co303, .slice Ao304 t412.length co304, .slice none 0 0]) ?_ 3 _ rfl; refine kq ?_; refine blk_put (cs := #[.slice Ao296 t406.length co296, .slice Ao303 t409.length co303, .slice none 0 0, .slice none 0 0]) ?_ 2 _ rfl; refine kq ?_; refine blk_put (cs := #[.slice Ao296 t406.length co296, .slice none 0 0, .slice none 0 0, .slice none 0 0]) ?_ 1 _ rfl; refine kq ?_; refine blk_put (cs := #[.slice none 0 0, .slice none 0 0, .slice none 0 0, .slice none 0 0]) ?_ 0 _ rfl; refine kq ?_; exact BK421.out) hb); replace BK422 := Aside0.mk (blk_below (g := gb422) (o := .cells #[.int .i64 t418, .int .i64 t419] 35 (0, 0)) (by refine kq ?_; refine blk_put (cs := #[.int .i64 t418, .int .i64 0]) ?_ 1 _ rfl; refine kq ?_; refine blk_put (cs := #[.int .i64 0, .int .i64 0]) ?_ 0 _ rfl; refine kq ?_; refine blk_far ?_ NB422_421.out _; refine kq ?_; refine blk_far ?_ NB422_421.out _; refine kq ?_; refine blk_far ?_ NB422_421.out _; refine kq ?_; refine blk_far ?_ NB422_421.out _; refine kq ?_; exact BK422.out) hb); replace HB := Aside0.mk (below_step (bz6 HB.out GE388.out GE389.out GE393.out GE397.out GE421.out GE422.out) hb); (try clear hb); (try clear hk); (try clear hi)))
         (try simp only [Act.put, sz1, sz2, sz3])
         go_cut [147] (fun v147 wc => ∃ (kq : Nat) (x147_291 : Bool), v147 = .bool x147_291 /\ Aside0 (laws_FnValues.j4 kq t420 t423 x147_291 t406 t409 t412 t415 t418 t419 = some r) /\ Aside0 (kq <= kj62) /\ Aside0 (Kd.R k41 41 wc w.heap.size (fun k_ => some k_ ≠ ((.slice Ao296 t406.length co296) : Value).ownBlock) (.slice Ao11 t373.length co11) t373) /\ Aside0 (Kd.R k86 86 wc w.heap.size (fun k_ => some k_ ≠ ((.slice Ao303 t409.length co303) : Value).ownBlock) (.slice Ao14 t376.length co14) t376) /\ Aside0 (Kd.R k47 47 wc w.heap.size (fun k_ => some k_ ≠ ((.slice Ao304 t412.length co304) : Value).ownBlock) (.slice Ao15 t379.length co15) t379) /\ Aside0 (Kd.R k35 35 wc w.heap.size (fun k_ => some k_ ≠ ((.slice Ao305 t415.length co305) : Value).ownBlock /\ k_ ≠ gb393 /\ k_ ≠ gb397 /\ k_ ≠ gb422) (.slice Ao16 t382.length co16) t382) /\ Aside0 (Kd.R k41 41 wc w.heap.size (fun k_ => some k_ ≠ ((.slice Ao11 t373.length co11) : Value).ownBlock) (.slice Ao296 t406.length co296) t406) /\ Aside0 (Kd.R k86 86 wc w.heap.size (fun k_ => some k_ ≠ ((.slice Ao14 t376.length co14) : Value).ownBlock) (.slice Ao303 t409.length co303) t409) /\ Aside0 (Kd.R k47 47 wc w.heap.size (fun k_ => some k_ ≠ ((.slice Ao15 t379.length co15) : Value).ownBlock) (.slice Ao304 t412.length co304) t412) /\ Aside0 (Kd.R k35 35 wc w.heap.size (fun k_ => some k_ ≠ ((.slice Ao16 t382.length co16) : Value).ownBlock /\ k_ ≠ gb393 /\ k_ ≠ gb397 /\ k_ ≠ gb422) (.slice Ao305 t415.length co305) t415) /\ Aside0 (wc.heap[gb388]? = some (.cells #[(.slice Ao11 t373.length co11), (.slice Ao14 t376.length co14), (.slice Ao15 t379.length co15), (.slice Ao16 t382.length co16)] 29 (0, 0))) /\ Aside0 (wc.heap[gb389]? = some (.cells #[.int .i64 t386, .int .i64 t387] 31 (0, 0))) /\ Aside0 (wc.heap[gb393]? = some (.cells #[.int .i64 t390, .int .i64 t391] 35 (0, 0))) /\ Aside0 (wc.heap[gb397]? = some (.cells #[.int .i64 t394, .int .i64 t395] 35 (0, 0))) /\ Aside0 (wc.heap[gb421]? = some (.cells #[(.slice Ao296 t406.length co296), (.slice Ao303 t409.length co303), (.slice Ao304 t412.length co304), (.slice Ao305 t415.length co305)] 29 (0, 0))) /\ Aside0 (wc.heap[gb422]? = some (.cells #[.int .i64 t418, .int .i64 t419] 35 (0, 0))) /\ Aside0 (Below w.heap.size w wc))
         case first => as_aux_lemma =>
          have H := HC292.out
          clear HC292
          replace H := bi H
          obtain ⟨t424, A3120, H⟩ := H
          try dsimp only at H
          have A312 := Aside0.mk A3120
          clear A3120
          by_cases c313 : t424 = true
          ·subst c313
           have H1 := hp H
           clear H
           have H := H1
           clear H1
           replace H := bi H
           obtain ⟨t425, A3140, H⟩ := H
           try dsimp only at H
           have A314 := Aside0.mk A3140
           clear A3140
           by_cases c315 : t425 = true
           ·subst c315
            have H1 := hp H
            clear H
            have H := H1
            clear H1
            by_cases c316 : t420 < 0
            ·rw [if_pos c316] at H
             have c316b0 := decide_eq_true c316
             clear c316
             (first | rw [c316b0] | (simp only [i64_w, i32_w]; rw [c316b0]) | skip)
             have H' := Aside0.mk H
             clear H
             have hnb317 := NB421_388.out
             have hnc317 := NB388_421.out
             have hnb318 := NB421_389.out
             have hnc318 := NB389_421.out
             have hnb319 := NB421_393.out
             have hnc319 := NB393_421.out
             have hnb320 := NB421_397.out
             have hnc320 := NB397_421.out
             have hnb321 := NB421_422.out
             have hnc321 := NB422_421.out
             obtain ⟨hcz322_0, hcz322_1, hcz322_2, hcz322_3⟩ := cz4 BK421.out
             obtain ⟨hfz322_0, hfz322_1, hfz322_2, hfz322_3⟩ := fz4 BK421.out
             go_wp2_with (first | ((with_reducible refine gate_callee (f := 14) rfl ?_); refine goesL_ (some 132) rfl rfl Tryd.func14 (by kernel_rfl) rfl #[.agg #[.slice Ao296 t406.length co296, .slice Ao303 t409.length co303, .slice Ao304 t412.length co304, .slice Ao305 t415.length co305]] rfl lz ?_; (with_reducible refine (spec_HeapOk.calls kj62 _ _ t406 _ _ t409 _ _ t412 _ _ t415 true _ ?side1 ?side2 ?side3 ?side4 ?side5 ?side6 ?side7 ?side8 A312.out).mono ?_); (case side1 => exact cz (Kd.R_reads' HO408.out).2.2); (case side2 => exact (Kd.R_reads' HO408.out).2.1); (case side3 => exact cz (Kd.R_reads' HO411.out).2.2); (case side4 => exact (Kd.R_reads' HO411.out).2.1); (case side5 => exact cz (Kd.R_reads' HO414.out).2.2); (case side6 => exact (Kd.R_reads' HO414.out).2.1); (case side7 => exact cz (Kd.R_reads' HO417.out).2.2); (case side8 => exact (Kd.R_reads' HO417.out).2.1); rintro e w323 ⟨rfl, hb⟩; refine ⟨_, rfl, ?_⟩; replace HO_389000 := qz HO_389000 hb; replace HO_389001 := qz HO_389001 hb; replace HO_389002 := qz HO_389002 hb; replace HO_389003 := qz HO_389003 hb; replace HO408 := qz HO408 hb; replace HO411 := qz HO411 hb; replace HO414 := qz HO414 hb; replace HO417 := qz HO417 hb; replace BK388 := Aside0.mk (blk_below (kz BK388.out) hb); replace BK389 := Aside0.mk (blk_below (kz BK389.out) hb); replace BK393 := Aside0.mk (blk_below (kz BK393.out) hb); replace BK397 := Aside0.mk (blk_below (kz BK397.out) hb); replace BK421 := Aside0.mk (blk_below (kz BK421.out) hb); replace BK422 := Aside0.mk (blk_below (kz BK422.out) hb); replace HB := Aside0.mk (below_step (bz6 HB.out GE388.out GE389.out GE393.out GE397.out GE421.out GE422.out) hb); (try clear hb); obtain ⟨hcz324_0, hcz324_1, hcz324_2, hcz324_3⟩ := cz4 BK421.out; obtain ⟨hfz324_0, hfz324_1, hfz324_2, hfz324_3⟩ := fz4 BK421.out; have hnb325 := NB422_388.out; have hnc325 := NB388_422.out; have hnb326 := NB422_389.out; have hnc326 := NB389_422.out; have hnb327 := NB422_393.out; have hnc327 := NB393_422.out; have hnb328 := NB422_397.out; have hnc328 := NB397_422.out; obtain ⟨hcz329_0, hcz329_1⟩ := cz2 BK422.out; obtain ⟨hfz329_0, hfz329_1⟩ := fz2 BK422.out) | (go_at_call 17; (with_reducible refine (spec_ValOk.calls kj62 _ _ t406 _ _ t409 _ _ t412 _ _ t415 t418 t419 true _ ?side1 ?side2 ?side3 ?side4 ?side5 ?side6 ?side7 ?side8 A314.out).mono ?_); (case side1 => exact cz (Kd.R_reads' HO408.out).2.2); (case side2 => exact (Kd.R_reads' HO408.out).2.1); (case side3 => exact cz (Kd.R_reads' HO411.out).2.2); (case side4 => exact (Kd.R_reads' HO411.out).2.1); (case side5 => exact cz (Kd.R_reads' HO414.out).2.2); (case side6 => exact (Kd.R_reads' HO414.out).2.1); (case side7 => exact cz (Kd.R_reads' HO417.out).2.2); (case side8 => exact (Kd.R_reads' HO417.out).2.1); rintro e w330 ⟨rfl, hb⟩; replace HO_389000 := qz HO_389000 hb; replace HO_389001 := qz HO_389001 hb; replace HO_389002 := qz HO_389002 hb; replace HO_389003 := qz HO_389003 hb; replace HO408 := qz HO408 hb; replace HO411 := qz HO411 hb; replace HO414 := qz HO414 hb; replace HO417 := qz HO417 hb; replace BK388 := Aside0.mk (blk_below (kz BK388.out) hb); replace BK389 := Aside0.mk (blk_below (kz BK389.out) hb); replace BK393 := Aside0.mk (blk_below (kz BK393.out) hb); replace BK397 := Aside0.mk (blk_below (kz BK397.out) hb); replace BK421 := Aside0.mk (blk_below (kz BK421.out) hb); replace BK422 := Aside0.mk (blk_below (kz BK422.out) hb); replace HB := Aside0.mk (below_step (bz6 HB.out GE388.out GE389.out GE393.out GE397.out GE421.out GE422.out) hb); (try clear hb); (try clear hi)))
             go_meet
             case rel => exact ⟨_, (true), ez, H', ⟨by have := HJ6.out; have := HJ42.out; have := HJ62.out; first | omega | exact Nat.le_refl _⟩, ⟨by refine rq ?_; exact Kd.R_mono HO_389000.out (fun _ hk => hk.2)⟩, ⟨by refine rq ?_; exact Kd.R_mono HO_389001.out (fun _ hk => hk.2)⟩, ⟨by refine rq ?_; exact Kd.R_mono HO_389002.out (fun _ hk => hk.2)⟩, ⟨by refine rq ?_; exact Kd.R_mono HO_389003.out (fun _ hk => ⟨hk.1.2, ⟨hk.1.1.1, ⟨hk.1.1.2, hk.2⟩⟩⟩)⟩, ⟨by refine rq ?_; exact Kd.R_mono HO408.out (fun _ hk => hk.2)⟩, ⟨by refine rq ?_; exact Kd.R_mono HO411.out (fun _ hk => hk.2)⟩, ⟨by refine rq ?_; exact Kd.R_mono HO414.out (fun _ hk => hk.2)⟩, ⟨by refine rq ?_; exact Kd.R_mono HO417.out (fun _ hk => ⟨hk.1.1.1.2, ⟨hk.1.1.2, ⟨hk.1.2, hk.2⟩⟩⟩)⟩, ⟨by refine kq ?_; exact BK388.out⟩, ⟨by refine kq ?_; exact BK389.out⟩, ⟨by refine kq ?_; exact BK393.out⟩, ⟨by refine kq ?_; exact BK397.out⟩, ⟨by refine kq ?_; exact BK421.out⟩, ⟨by refine kq ?_; exact BK422.out⟩, ⟨(bz6 HB.out GE388.out GE389.out GE393.out GE397.out GE421.out GE422.out)⟩⟩
            ·rw [if_neg c316] at H
             have c316b0 := decide_eq_false c316
             clear c316
             (first | rw [c316b0] | (simp only [i64_w, i32_w]; rw [c316b0]) | skip)
             have H' := Aside0.mk H
             clear H
             have hnb331 := NB421_388.out
             have hnc331 := NB388_421.out
             have hnb332 := NB421_389.out
             have hnc332 := NB389_421.out
             have hnb333 := NB421_393.out
             have hnc333 := NB393_421.out
             have hnb334 := NB421_397.out
             have hnc334 := NB397_421.out
             have hnb335 := NB421_422.out
             have hnc335 := NB422_421.out
             obtain ⟨hcz336_0, hcz336_1, hcz336_2, hcz336_3⟩ := cz4 BK421.out
             obtain ⟨hfz336_0, hfz336_1, hfz336_2, hfz336_3⟩ := fz4 BK421.out
             go_wp2_with (first | ((with_reducible refine gate_callee (f := 14) rfl ?_); refine goesL_ (some 132) rfl rfl Tryd.func14 (by kernel_rfl) rfl #[.agg #[.slice Ao296 t406.length co296, .slice Ao303 t409.length co303, .slice Ao304 t412.length co304, .slice Ao305 t415.length co305]] rfl lz ?_; (with_reducible refine (spec_HeapOk.calls kj62 _ _ t406 _ _ t409 _ _ t412 _ _ t415 true _ ?side1 ?side2 ?side3 ?side4 ?side5 ?side6 ?side7 ?side8 A312.out).mono ?_); (case side1 => exact cz (Kd.R_reads' HO408.out).2.2); (case side2 => exact (Kd.R_reads' HO408.out).2.1); (case side3 => exact cz (Kd.R_reads' HO411.out).2.2); (case side4 => exact (Kd.R_reads' HO411.out).2.1); (case side5 => exact cz (Kd.R_reads' HO414.out).2.2); (case side6 => exact (Kd.R_reads' HO414.out).2.1); (case side7 => exact cz (Kd.R_reads' HO417.out).2.2); (case side8 => exact (Kd.R_reads' HO417.out).2.1); rintro e w337 ⟨rfl, hb⟩; refine ⟨_, rfl, ?_⟩; replace HO_389000 := qz HO_389000 hb; replace HO_389001 := qz HO_389001 hb; replace HO_389002 := qz HO_389002 hb; replace HO_389003 := qz HO_389003 hb; replace HO408 := qz HO408 hb; replace HO411 := qz HO411 hb; replace HO414 := qz HO414 hb; replace HO417 := qz HO417 hb; replace BK388 := Aside0.mk (blk_below (kz BK388.out) hb); replace BK389 := Aside0.mk (blk_below (kz BK389.out) hb); replace BK393 := Aside0.mk (blk_below (kz BK393.out) hb); replace BK397 := Aside0.mk (blk_below (kz BK397.out) hb); replace BK421 := Aside0.mk (blk_below (kz BK421.out) hb); replace BK422 := Aside0.mk (blk_below (kz BK422.out) hb); replace HB := Aside0.mk (below_step (bz6 HB.out GE388.out GE389.out GE393.out GE397.out GE421.out GE422.out) hb); (try clear hb); obtain ⟨hcz338_0, hcz338_1, hcz338_2, hcz338_3⟩ := cz4 BK421.out; obtain ⟨hfz338_0, hfz338_1, hfz338_2, hfz338_3⟩ := fz4 BK421.out; have hnb339 := NB422_388.out; have hnc339 := NB388_422.out; have hnb340 := NB422_389.out; have hnc340 := NB389_422.out; have hnb341 := NB422_393.out; have hnc341 := NB393_422.out; have hnb342 := NB422_397.out; have hnc342 := NB397_422.out; obtain ⟨hcz343_0, hcz343_1⟩ := cz2 BK422.out; obtain ⟨hfz343_0, hfz343_1⟩ := fz2 BK422.out) | (go_at_call 17; (with_reducible refine (spec_ValOk.calls kj62 _ _ t406 _ _ t409 _ _ t412 _ _ t415 t418 t419 true _ ?side1 ?side2 ?side3 ?side4 ?side5 ?side6 ?side7 ?side8 A314.out).mono ?_); (case side1 => exact cz (Kd.R_reads' HO408.out).2.2); (case side2 => exact (Kd.R_reads' HO408.out).2.1); (case side3 => exact cz (Kd.R_reads' HO411.out).2.2); (case side4 => exact (Kd.R_reads' HO411.out).2.1); (case side5 => exact cz (Kd.R_reads' HO414.out).2.2); (case side6 => exact (Kd.R_reads' HO414.out).2.1); (case side7 => exact cz (Kd.R_reads' HO417.out).2.2); (case side8 => exact (Kd.R_reads' HO417.out).2.1); rintro e w344 ⟨rfl, hb⟩; replace HO_389000 := qz HO_389000 hb; replace HO_389001 := qz HO_389001 hb; replace HO_389002 := qz HO_389002 hb; replace HO_389003 := qz HO_389003 hb; replace HO408 := qz HO408 hb; replace HO411 := qz HO411 hb; replace HO414 := qz HO414 hb; replace HO417 := qz HO417 hb; replace BK388 := Aside0.mk (blk_below (kz BK388.out) hb); replace BK389 := Aside0.mk (blk_below (kz BK389.out) hb); replace BK393 := Aside0.mk (blk_below (kz BK393.out) hb); replace BK397 := Aside0.mk (blk_below (kz BK397.out) hb); replace BK421 := Aside0.mk (blk_below (kz BK421.out) hb); replace BK422 := Aside0.mk (blk_below (kz BK422.out) hb); replace HB := Aside0.mk (below_step (bz6 HB.out GE388.out GE389.out GE393.out GE397.out GE421.out GE422.out) hb); (try clear hb); (try clear hi)))
             go_meet
             case rel => exact ⟨_, (decide (t420 > 8)), ez, H', ⟨by have := HJ6.out; have := HJ42.out; have := HJ62.out; first | omega | exact Nat.le_refl _⟩, ⟨by refine rq ?_; exact Kd.R_mono HO_389000.out (fun _ hk => hk.2)⟩, ⟨by refine rq ?_; exact Kd.R_mono HO_389001.out (fun _ hk => hk.2)⟩, ⟨by refine rq ?_; exact Kd.R_mono HO_389002.out (fun _ hk => hk.2)⟩, ⟨by refine rq ?_; exact Kd.R_mono HO_389003.out (fun _ hk => ⟨hk.1.2, ⟨hk.1.1.1, ⟨hk.1.1.2, hk.2⟩⟩⟩)⟩, ⟨by refine rq ?_; exact Kd.R_mono HO408.out (fun _ hk => hk.2)⟩, ⟨by refine rq ?_; exact Kd.R_mono HO411.out (fun _ hk => hk.2)⟩, ⟨by refine rq ?_; exact Kd.R_mono HO414.out (fun _ hk => hk.2)⟩, ⟨by refine rq ?_; exact Kd.R_mono HO417.out (fun _ hk => ⟨hk.1.1.1.2, ⟨hk.1.1.2, ⟨hk.1.2, hk.2⟩⟩⟩)⟩, ⟨by refine kq ?_; exact BK388.out⟩, ⟨by refine kq ?_; exact BK389.out⟩, ⟨by refine kq ?_; exact BK393.out⟩, ⟨by refine kq ?_; exact BK397.out⟩, ⟨by refine kq ?_; exact BK421.out⟩, ⟨by refine kq ?_; exact BK422.out⟩, ⟨(bz6 HB.out GE388.out GE389.out GE393.out GE397.out GE421.out GE422.out)⟩⟩
           ·replace c315 := Bool.eq_false_iff.mpr c315
            subst c315
            have H1 := hq H
            clear H
            have H := H1
            clear H1
            have H' := Aside0.mk H
            clear H
            have hnb345 := NB421_388.out
            have hnc345 := NB388_421.out
            have hnb346 := NB421_389.out
            have hnc346 := NB389_421.out
            have hnb347 := NB421_393.out
            have hnc347 := NB393_421.out
            have hnb348 := NB421_397.out
            have hnc348 := NB397_421.out
            have hnb349 := NB421_422.out
            have hnc349 := NB422_421.out
            obtain ⟨hcz350_0, hcz350_1, hcz350_2, hcz350_3⟩ := cz4 BK421.out
            obtain ⟨hfz350_0, hfz350_1, hfz350_2, hfz350_3⟩ := fz4 BK421.out
            go_wp2_with (first | ((with_reducible refine gate_callee (f := 14) rfl ?_); refine goesL_ (some 132) rfl rfl Tryd.func14 (by kernel_rfl) rfl #[.agg #[.slice Ao296 t406.length co296, .slice Ao303 t409.length co303, .slice Ao304 t412.length co304, .slice Ao305 t415.length co305]] rfl lz ?_; (with_reducible refine (spec_HeapOk.calls kj62 _ _ t406 _ _ t409 _ _ t412 _ _ t415 true _ ?side1 ?side2 ?side3 ?side4 ?side5 ?side6 ?side7 ?side8 A312.out).mono ?_); (case side1 => exact cz (Kd.R_reads' HO408.out).2.2); (case side2 => exact (Kd.R_reads' HO408.out).2.1); (case side3 => exact cz (Kd.R_reads' HO411.out).2.2); (case side4 => exact (Kd.R_reads' HO411.out).2.1); (case side5 => exact cz (Kd.R_reads' HO414.out).2.2); (case side6 => exact (Kd.R_reads' HO414.out).2.1); (case side7 => exact cz (Kd.R_reads' HO417.out).2.2); (case side8 => exact (Kd.R_reads' HO417.out).2.1); rintro e w351 ⟨rfl, hb⟩; refine ⟨_, rfl, ?_⟩; replace HO_389000 := qz HO_389000 hb; replace HO_389001 := qz HO_389001 hb; replace HO_389002 := qz HO_389002 hb; replace HO_389003 := qz HO_389003 hb; replace HO408 := qz HO408 hb; replace HO411 := qz HO411 hb; replace HO414 := qz HO414 hb; replace HO417 := qz HO417 hb; replace BK388 := Aside0.mk (blk_below (kz BK388.out) hb); replace BK389 := Aside0.mk (blk_below (kz BK389.out) hb); replace BK393 := Aside0.mk (blk_below (kz BK393.out) hb); replace BK397 := Aside0.mk (blk_below (kz BK397.out) hb); replace BK421 := Aside0.mk (blk_below (kz BK421.out) hb); replace BK422 := Aside0.mk (blk_below (kz BK422.out) hb); replace HB := Aside0.mk (below_step (bz6 HB.out GE388.out GE389.out GE393.out GE397.out GE421.out GE422.out) hb); (try clear hb); obtain ⟨hcz352_0, hcz352_1, hcz352_2, hcz352_3⟩ := cz4 BK421.out; obtain ⟨hfz352_0, hfz352_1, hfz352_2, hfz352_3⟩ := fz4 BK421.out; have hnb353 := NB422_388.out; have hnc353 := NB388_422.out; have hnb354 := NB422_389.out; have hnc354 := NB389_422.out; have hnb355 := NB422_393.out; have hnc355 := NB393_422.out; have hnb356 := NB422_397.out; have hnc356 := NB397_422.out; obtain ⟨hcz357_0, hcz357_1⟩ := cz2 BK422.out; obtain ⟨hfz357_0, hfz357_1⟩ := fz2 BK422.out) | (go_at_call 17; (with_reducible refine (spec_ValOk.calls kj62 _ _ t406 _ _ t409 _ _ t412 _ _ t415 t418 t419 false _ ?side1 ?side2 ?side3 ?side4 ?side5 ?side6 ?side7 ?side8 A314.out).mono ?_); (case side1 => exact cz (Kd.R_reads' HO408.out).2.2); (case side2 => exact (Kd.R_reads' HO408.out).2.1); (case side3 => exact cz (Kd.R_reads' HO411.out).2.2); (case side4 => exact (Kd.R_reads' HO411.out).2.1); (case side5 => exact cz (Kd.R_reads' HO414.out).2.2); (case side6 => exact (Kd.R_reads' HO414.out).2.1); (case side7 => exact cz (Kd.R_reads' HO417.out).2.2); (case side8 => exact (Kd.R_reads' HO417.out).2.1); rintro e w358 ⟨rfl, hb⟩; replace HO_389000 := qz HO_389000 hb; replace HO_389001 := qz HO_389001 hb; replace HO_389002 := qz HO_389002 hb; replace HO_389003 := qz HO_389003 hb; replace HO408 := qz HO408 hb; replace HO411 := qz HO411 hb; replace HO414 := qz HO414 hb; replace HO417 := qz HO417 hb; replace BK388 := Aside0.mk (blk_below (kz BK388.out) hb); replace BK389 := Aside0.mk (blk_below (kz BK389.out) hb); replace BK393 := Aside0.mk (blk_below (kz BK393.out) hb); replace BK397 := Aside0.mk (blk_below (kz BK397.out) hb); replace BK421 := Aside0.mk (blk_below (kz BK421.out) hb); replace BK422 := Aside0.mk (blk_below (kz BK422.out) hb); replace HB := Aside0.mk (below_step (bz6 HB.out GE388.out GE389.out GE393.out GE397.out GE421.out GE422.out) hb); (try clear hb); (try clear hi)))
            go_meet
            case rel => exact ⟨_, (true), ez, H', ⟨by have := HJ6.out; have := HJ42.out; have := HJ62.out; first | omega | exact Nat.le_refl _⟩, ⟨by refine rq ?_; exact Kd.R_mono HO_389000.out (fun _ hk => hk.2)⟩, ⟨by refine rq ?_; exact Kd.R_mono HO_389001.out (fun _ hk => hk.2)⟩, ⟨by refine rq ?_; exact Kd.R_mono HO_389002.out (fun _ hk => hk.2)⟩, ⟨by refine rq ?_; exact Kd.R_mono HO_389003.out (fun _ hk => ⟨hk.1.2, ⟨hk.1.1.1, ⟨hk.1.1.2, hk.2⟩⟩⟩)⟩, ⟨by refine rq ?_; exact Kd.R_mono HO408.out (fun _ hk => hk.2)⟩, ⟨by refine rq ?_; exact Kd.R_mono HO411.out (fun _ hk => hk.2)⟩, ⟨by refine rq ?_; exact Kd.R_mono HO414.out (fun _ hk => hk.2)⟩, ⟨by refine rq ?_; exact Kd.R_mono HO417.out (fun _ hk => ⟨hk.1.1.1.2, ⟨hk.1.1.2, ⟨hk.1.2, hk.2⟩⟩⟩)⟩, ⟨by refine kq ?_; exact BK388.out⟩, ⟨by refine kq ?_; exact BK389.out⟩, ⟨by refine kq ?_; exact BK393.out⟩, ⟨by refine kq ?_; exact BK397.out⟩, ⟨by refine kq ?_; exact BK421.out⟩, ⟨by refine kq ?_; exact BK422.out⟩, ⟨(bz6 HB.out GE388.out GE389.out GE393.out GE397.out GE421.out GE422.out)⟩⟩
          ·replace c313 := Bool.eq_false_iff.mpr c313
           subst c313
           have H1 := hq H
           clear H
           have H := H1
           clear H1
           have H' := Aside0.mk H
           clear H
           have hnb359 := NB421_388.out
           have hnc359 := NB388_421.out
           have hnb360 := NB421_389.out
           have hnc360 := NB389_421.out
           have hnb361 := NB421_393.out
           have hnc361 := NB393_421.out
           have hnb362 := NB421_397.out
           have hnc362 := NB397_421.out
           have hnb363 := NB421_422.out
           have hnc363 := NB422_421.out
           obtain ⟨hcz364_0, hcz364_1, hcz364_2, hcz364_3⟩ := cz4 BK421.out
           obtain ⟨hfz364_0, hfz364_1, hfz364_2, hfz364_3⟩ := fz4 BK421.out
           go_wp2_with (first | ((with_reducible refine gate_callee (f := 14) rfl ?_); refine goesL_ (some 132) rfl rfl Tryd.func14 (by kernel_rfl) rfl #[.agg #[.slice Ao296 t406.length co296, .slice Ao303 t409.length co303, .slice Ao304 t412.length co304, .slice Ao305 t415.length co305]] rfl lz ?_; (with_reducible refine (spec_HeapOk.calls kj62 _ _ t406 _ _ t409 _ _ t412 _ _ t415 false _ ?side1 ?side2 ?side3 ?side4 ?side5 ?side6 ?side7 ?side8 A312.out).mono ?_); (case side1 => exact cz (Kd.R_reads' HO408.out).2.2); (case side2 => exact (Kd.R_reads' HO408.out).2.1); (case side3 => exact cz (Kd.R_reads' HO411.out).2.2); (case side4 => exact (Kd.R_reads' HO411.out).2.1); (case side5 => exact cz (Kd.R_reads' HO414.out).2.2); (case side6 => exact (Kd.R_reads' HO414.out).2.1); (case side7 => exact cz (Kd.R_reads' HO417.out).2.2); (case side8 => exact (Kd.R_reads' HO417.out).2.1); rintro e w365 ⟨rfl, hb⟩; refine ⟨_, rfl, ?_⟩; replace HO_389000 := qz HO_389000 hb; replace HO_389001 := qz HO_389001 hb; replace HO_389002 := qz HO_389002 hb; replace HO_389003 := qz HO_389003 hb; replace HO408 := qz HO408 hb; replace HO411 := qz HO411 hb; replace HO414 := qz HO414 hb; replace HO417 := qz HO417 hb; replace BK388 := Aside0.mk (blk_below (kz BK388.out) hb); replace BK389 := Aside0.mk (blk_below (kz BK389.out) hb); replace BK393 := Aside0.mk (blk_below (kz BK393.out) hb); replace BK397 := Aside0.mk (blk_below (kz BK397.out) hb); replace BK421 := Aside0.mk (blk_below (kz BK421.out) hb); replace BK422 := Aside0.mk (blk_below (kz BK422.out) hb); replace HB := Aside0.mk (below_step (bz6 HB.out GE388.out GE389.out GE393.out GE397.out GE421.out GE422.out) hb); (try clear hb); (try clear hi)))
           go_meet
           case rel => exact ⟨_, (true), ez, H', ⟨by have := HJ6.out; have := HJ42.out; have := HJ62.out; first | omega | exact Nat.le_refl _⟩, ⟨by refine rq ?_; exact Kd.R_mono HO_389000.out (fun _ hk => hk.2)⟩, ⟨by refine rq ?_; exact Kd.R_mono HO_389001.out (fun _ hk => hk.2)⟩, ⟨by refine rq ?_; exact Kd.R_mono HO_389002.out (fun _ hk => hk.2)⟩, ⟨by refine rq ?_; exact Kd.R_mono HO_389003.out (fun _ hk => ⟨hk.1.2, ⟨hk.1.1.1, ⟨hk.1.1.2, hk.2⟩⟩⟩)⟩, ⟨by refine rq ?_; exact Kd.R_mono HO408.out (fun _ hk => hk.2)⟩, ⟨by refine rq ?_; exact Kd.R_mono HO411.out (fun _ hk => hk.2)⟩, ⟨by refine rq ?_; exact Kd.R_mono HO414.out (fun _ hk => hk.2)⟩, ⟨by refine rq ?_; exact Kd.R_mono HO417.out (fun _ hk => ⟨hk.1.1.1.2, ⟨hk.1.1.2, ⟨hk.1.2, hk.2⟩⟩⟩)⟩, ⟨by refine kq ?_; exact BK388.out⟩, ⟨by refine kq ?_; exact BK389.out⟩, ⟨by refine kq ?_; exact BK393.out⟩, ⟨by refine kq ?_; exact BK397.out⟩, ⟨by refine kq ?_; exact BK421.out⟩, ⟨by refine kq ?_; exact BK422.out⟩, ⟨(bz6 HB.out GE388.out GE389.out GE393.out GE397.out GE421.out GE422.out)⟩⟩
         case rest =>
          clear HC292
          try clear c1
          try clear c2
          try clear p2
          try clear c3
          try clear p4
          try clear q4
          try clear hx4
          try clear c14
          try clear c15
          try clear c16
          try clear c29
          try clear c30
          try clear c31
          try clear c32
          try clear c33
          try clear c34
          try clear c35
          try clear c36
          try clear p40
          try clear q40
          try clear hx40
          try clear c297
          try clear c298
          try clear c299
          try clear c300
          try clear c301
          try clear c306
          try clear c307
          try clear c308
          try clear c309
          try clear c313
          try clear c315
          try clear c316
          try clear c316b0
          try clear c317
          try clear c318
          try clear c319
          try clear c320
          try clear c321
          try clear c325
          try clear c326
          try clear c327
          try clear c328
          try clear c331
          try clear c332
          try clear c333
          try clear c334
          try clear c335
          try clear c339
          try clear c340
          try clear c341
          try clear c342
          try clear c345
          try clear c346
          try clear c347
          try clear c348
          try clear c349
          try clear c353
          try clear c354
          try clear c355
          try clear c356
          try clear c359
          try clear c360
          try clear c361
          try clear c362
          try clear c363
          try clear hcz132_0 hcz132_1 hcz132_2 hcz132_3 hcz132_4
          try clear hcz135_0 hcz135_1
          try clear hcz13_0 hcz13_1 hcz13_2 hcz13_3
          try clear hcz143_0 hcz143_1
          try clear hcz144_0 hcz144_1 hcz144_2 hcz144_3 hcz144_4
          try clear hcz145_0 hcz145_1
          try clear hcz151_0 hcz151_1 hcz151_2 hcz151_3
          try clear hcz155_0 hcz155_1 hcz155_2 hcz155_3 hcz155_4
          try clear hcz158_0 hcz158_1
          try clear hcz166_0 hcz166_1
          try clear hcz167_0 hcz167_1 hcz167_2 hcz167_3 hcz167_4
          try clear hcz168_0 hcz168_1
          try clear hcz174_0 hcz174_1 hcz174_2 hcz174_3
          try clear hcz178_0 hcz178_1 hcz178_2 hcz178_3 hcz178_4
          try clear hcz17_0 hcz17_1
          try clear hcz181_0 hcz181_1
          try clear hcz189_0 hcz189_1
          try clear hcz190_0 hcz190_1 hcz190_2 hcz190_3 hcz190_4
          try clear hcz191_0 hcz191_1
          try clear hcz193_0 hcz193_1
          try clear hcz198_0 hcz198_1 hcz198_2 hcz198_3
          try clear hcz202_0 hcz202_1 hcz202_2 hcz202_3 hcz202_4
          try clear hcz205_0 hcz205_1
          try clear hcz213_0 hcz213_1
          try clear hcz214_0 hcz214_1 hcz214_2 hcz214_3 hcz214_4
          try clear hcz215_0 hcz215_1
          try clear hcz217_0 hcz217_1
          try clear hcz223_0 hcz223_1 hcz223_2 hcz223_3
          try clear hcz227_0 hcz227_1 hcz227_2 hcz227_3 hcz227_4
          try clear hcz22_0 hcz22_1
          try clear hcz230_0 hcz230_1
          try clear hcz238_0 hcz238_1
          try clear hcz239_0 hcz239_1 hcz239_2 hcz239_3 hcz239_4
          try clear hcz23_0 hcz23_1 hcz23_2 hcz23_3
          try clear hcz240_0 hcz240_1
          try clear hcz246_0 hcz246_1 hcz246_2 hcz246_3
          try clear hcz24_0 hcz24_1
          try clear hcz250_0 hcz250_1 hcz250_2 hcz250_3 hcz250_4
          try clear hcz253_0 hcz253_1
          try clear hcz261_0 hcz261_1
          try clear hcz262_0 hcz262_1 hcz262_2 hcz262_3 hcz262_4
          try clear hcz263_0 hcz263_1
          try clear hcz265_0 hcz265_1
          try clear hcz270_0 hcz270_1 hcz270_2 hcz270_3
          try clear hcz274_0 hcz274_1 hcz274_2 hcz274_3 hcz274_4
          try clear hcz277_0 hcz277_1
          try clear hcz285_0 hcz285_1
          try clear hcz286_0 hcz286_1 hcz286_2 hcz286_3 hcz286_4
          try clear hcz287_0 hcz287_1
          try clear hcz289_0 hcz289_1
          try clear hcz302_0 hcz302_1 hcz302_2 hcz302_3
          try clear hcz30_0 hcz30_1
          try clear hcz310_0 hcz310_1
          try clear hcz322_0 hcz322_1 hcz322_2 hcz322_3
          try clear hcz324_0 hcz324_1 hcz324_2 hcz324_3
          try clear hcz329_0 hcz329_1
          try clear hcz336_0 hcz336_1 hcz336_2 hcz336_3
          try clear hcz338_0 hcz338_1 hcz338_2 hcz338_3
          try clear hcz343_0 hcz343_1
          try clear hcz350_0 hcz350_1 hcz350_2 hcz350_3
          try clear hcz352_0 hcz352_1 hcz352_2 hcz352_3
          try clear hcz357_0 hcz357_1
          try clear hcz364_0 hcz364_1 hcz364_2 hcz364_3
          try clear hcz37_0 hcz37_1 hcz37_2 hcz37_3
          try clear hcz40_0 hcz40_1
          try clear hcz50_0 hcz50_1 hcz50_2 hcz50_3
          try clear hcz52_0 hcz52_1 hcz52_2 hcz52_3
          try clear hcz56_0 hcz56_1 hcz56_2 hcz56_3
          try clear hcz61_0 hcz61_1 hcz61_2 hcz61_3
          try clear hcz71_0 hcz71_1 hcz71_2 hcz71_3
          try clear hcz77_0 hcz77_1 hcz77_2 hcz77_3 hcz77_4
          try clear hcz85_0 hcz85_1 hcz85_2 hcz85_3 hcz85_4
          try clear hcz89_0 hcz89_1
          try clear hcz92_0 hcz92_1
          try clear hcz97_0 hcz97_1 hcz97_2 hcz97_3 hcz97_4
          try clear hfz101_0 hfz101_1
          try clear hfz106_0 hfz106_1 hfz106_2 hfz106_3 hfz106_4
          try clear hfz110_0 hfz110_1
          try clear hfz115_0 hfz115_1 hfz115_2 hfz115_3 hfz115_4
          try clear hfz119_0 hfz119_1
          try clear hfz128_0 hfz128_1 hfz128_2 hfz128_3
          try clear hfz132_0 hfz132_1 hfz132_2 hfz132_3 hfz132_4
          try clear hfz135_0 hfz135_1
          try clear hfz13_0 hfz13_1 hfz13_2 hfz13_3
          try clear hfz143_0 hfz143_1
          try clear hfz144_0 hfz144_1 hfz144_2 hfz144_3 hfz144_4
          try clear hfz145_0 hfz145_1
          try clear hfz151_0 hfz151_1 hfz151_2 hfz151_3
          try clear hfz155_0 hfz155_1 hfz155_2 hfz155_3 hfz155_4
          try clear hfz158_0 hfz158_1
          try clear hfz166_0 hfz166_1
          try clear hfz167_0 hfz167_1 hfz167_2 hfz167_3 hfz167_4
          try clear hfz168_0 hfz168_1
          try clear hfz174_0 hfz174_1 hfz174_2 hfz174_3
          try clear hfz178_0 hfz178_1 hfz178_2 hfz178_3 hfz178_4
          try clear hfz17_0 hfz17_1
          try clear hfz181_0 hfz181_1
          try clear hfz189_0 hfz189_1
          try clear hfz190_0 hfz190_1 hfz190_2 hfz190_3 hfz190_4
          try clear hfz191_0 hfz191_1
          try clear hfz193_0 hfz193_1
          try clear hfz198_0 hfz198_1 hfz198_2 hfz198_3
          try clear hfz202_0 hfz202_1 hfz202_2 hfz202_3 hfz202_4
          try clear hfz205_0 hfz205_1
          try clear hfz213_0 hfz213_1
          try clear hfz214_0 hfz214_1 hfz214_2 hfz214_3 hfz214_4
          try clear hfz215_0 hfz215_1
          try clear hfz217_0 hfz217_1
          try clear hfz223_0 hfz223_1 hfz223_2 hfz223_3
          try clear hfz227_0 hfz227_1 hfz227_2 hfz227_3 hfz227_4
          try clear hfz22_0 hfz22_1
          try clear hfz230_0 hfz230_1
          try clear hfz238_0 hfz238_1
          try clear hfz239_0 hfz239_1 hfz239_2 hfz239_3 hfz239_4
          try clear hfz23_0 hfz23_1 hfz23_2 hfz23_3
          try clear hfz240_0 hfz240_1
          try clear hfz246_0 hfz246_1 hfz246_2 hfz246_3
          try clear hfz24_0 hfz24_1
          try clear hfz250_0 hfz250_1 hfz250_2 hfz250_3 hfz250_4
          try clear hfz253_0 hfz253_1
          try clear hfz261_0 hfz261_1
          try clear hfz262_0 hfz262_1 hfz262_2 hfz262_3 hfz262_4
          try clear hfz263_0 hfz263_1
          try clear hfz265_0 hfz265_1
          try clear hfz270_0 hfz270_1 hfz270_2 hfz270_3
          try clear hfz274_0 hfz274_1 hfz274_2 hfz274_3 hfz274_4
          try clear hfz277_0 hfz277_1
          try clear hfz285_0 hfz285_1
          try clear hfz286_0 hfz286_1 hfz286_2 hfz286_3 hfz286_4
          try clear hfz287_0 hfz287_1
          try clear hfz289_0 hfz289_1
          try clear hfz302_0 hfz302_1 hfz302_2 hfz302_3
          try clear hfz30_0 hfz30_1
          try clear hfz310_0 hfz310_1
          try clear hfz322_0 hfz322_1 hfz322_2 hfz322_3
          try clear hfz324_0 hfz324_1 hfz324_2 hfz324_3
          try clear hfz329_0 hfz329_1
          try clear hfz336_0 hfz336_1 hfz336_2 hfz336_3
          try clear hfz338_0 hfz338_1 hfz338_2 hfz338_3
          try clear hfz343_0 hfz343_1
          try clear hfz350_0 hfz350_1 hfz350_2 hfz350_3
          try clear hfz352_0 hfz352_1 hfz352_2 hfz352_3
          try clear hfz357_0 hfz357_1
          try clear hfz364_0 hfz364_1 hfz364_2 hfz364_3
          try clear hfz37_0 hfz37_1 hfz37_2 hfz37_3
          try clear hfz40_0 hfz40_1
          try clear hfz50_0 hfz50_1 hfz50_2 hfz50_3
          try clear hfz52_0 hfz52_1 hfz52_2 hfz52_3
          try clear hfz56_0 hfz56_1 hfz56_2 hfz56_3
          try clear hfz61_0 hfz61_1 hfz61_2 hfz61_3
          try clear hfz71_0 hfz71_1 hfz71_2 hfz71_3
          try clear hfz77_0 hfz77_1 hfz77_2 hfz77_3 hfz77_4
          try clear hfz85_0 hfz85_1 hfz85_2 hfz85_3 hfz85_4
          try clear hfz89_0 hfz89_1
          try clear hfz92_0 hfz92_1
          try clear hfz97_0 hfz97_1 hfz97_2 hfz97_3 hfz97_4
          try clear hx400_0
          try clear hx400_1
          try clear hx400_2
          try clear hx400_3
          try clear hx400_4
          try clear p2
          try clear p400
          try clear q400
          obtain ⟨kq, x147_291, rfl, HA, HJ291, HO_389000, HO_389001, HO_389002, HO_389003, HO_422000, HO_422001, HO_422002, HO_422003, BK388, BK389, BK393, BK397, BK421, BK422, HB⟩ := hcut
          cases kq with
          | zero => exact absurd HA.out (by simp [laws_FnValues.j4])
          | succ kj291 =>
           have H := HA.out
           clear HA
           simp only [laws_FnValues.j4] at H
           by_cases c366 : x147_291 = true
           · as_aux_lemma =>
            subst c366
            have H1 := hp H
            clear H
            have H := H1
            clear H1
            obtain rfl := Option.some.inj H
            go_wp2
            go_ret
            exact ⟨gz, (bz6 HB.out GE388.out GE389.out GE393.out GE397.out GE421.out GE422.out)⟩
           ·replace c366 := Bool.eq_false_iff.mpr c366
            subst c366
            have H1 := hq H
            clear H
            have H := H1
            clear H1
            by_cases c367 : t418 = 0
            · as_aux_lemma =>
             rw [if_pos c367] at H
             have c367b0 : (t418 == 0) = true := beq_iff_eq.mpr c367
             have c367b1 : (t418 != 0) = false := bne_eq_false_iff_eq.mpr c367
             clear c367
             replace H := bi H
             obtain ⟨t426, A3680, H⟩ := H
             try dsimp only at H
             have A368 := Aside0.mk A3680
             clear A3680
             obtain rfl := Option.some.inj H
             have hnb369 := NB422_388.out
             have hnc369 := NB388_422.out
             have hnb370 := NB422_389.out
             have hnc370 := NB389_422.out
             have hnb371 := NB422_393.out
             have hnc371 := NB393_422.out
             have hnb372 := NB422_397.out
             have hnc372 := NB397_422.out
             have hnb373 := NB422_421.out
             have hnc373 := NB421_422.out
             obtain ⟨hcz374_0, hcz374_1⟩ := cz2 BK422.out
             obtain ⟨hfz374_0, hfz374_1⟩ := fz2 BK422.out
             go_wp2_with (first | ((with_reducible refine gate_callee (f := 18) rfl ?_); refine goesL_ (some 157) rfl rfl Tryd.func18 (by kernel_rfl) rfl #[.int .i64 t419] rfl lz ?_; (with_reducible refine (impl_Dec.calls t419 t426 _ A368.out ?hT_).mono ?_); (case hT_ => exact PW.below hT_ (bz6 HB.out GE388.out GE389.out GE393.out GE397.out GE421.out GE422.out)); rintro e w375 ⟨rfl, hb⟩; refine ⟨_, rfl, ?_⟩; replace HO_389000 := qz HO_389000 hb; replace HO_389001 := qz HO_389001 hb; replace HO_389002 := qz HO_389002 hb; replace HO_389003 := qz HO_389003 hb; replace HO_422000 := qz HO_422000 hb; replace HO_422001 := qz HO_422001 hb; replace HO_422002 := qz HO_422002 hb; replace HO_422003 := qz HO_422003 hb; replace BK388 := Aside0.mk (blk_below (kz BK388.out) hb); replace BK389 := Aside0.mk (blk_below (kz BK389.out) hb); replace BK393 := Aside0.mk (blk_below (kz BK393.out) hb); replace BK397 := Aside0.mk (blk_below (kz BK397.out) hb); replace BK421 := Aside0.mk (blk_below (kz BK421.out) hb); replace BK422 := Aside0.mk (blk_below (kz BK422.out) hb); replace HB := Aside0.mk (below_step (bz6 HB.out GE388.out GE389.out GE393.out GE397.out GE421.out GE422.out) hb); (try clear hb); (try clear hi)))
             go_ret
             exact ⟨gz, (bz6 HB.out GE388.out GE389.out GE393.out GE397.out GE421.out GE422.out)⟩
            ·rw [if_neg c367] at H
             have c367b0 : (t418 == 0) = false := beq_eq_false_iff_ne.mpr c367
             have c367b1 : (t418 != 0) = true := bne_iff_ne.mpr c367
             have HC376 := Aside0.mk H
             clear H
             have hnb377 := NB422_388.out
             have hnc377 := NB388_422.out
             have hnb378 := NB422_389.out
             have hnc378 := NB389_422.out
             have hnb379 := NB422_393.out
             have hnc379 := NB393_422.out
             have hnb380 := NB422_397.out
             have hnc380 := NB397_422.out
             have hnb381 := NB422_421.out
             have hnc381 := NB421_422.out
             obtain ⟨hcz382_0, hcz382_1⟩ := cz2 BK422.out
             obtain ⟨hfz382_0, hfz382_1⟩ := fz2 BK422.out
             go_upto_if 159 with (fail)
             go_cut [159] (fun v159 wc => ∃ (kq : Nat) (x159_375 : Bool), v159 = .bool x159_375 /\ Aside0 (laws_FnValues.j5 kq t420 t423 x159_375 t406 t409 t412 t415 t418 t419 = some r) /\ Aside0 (kq <= kj291) /\ Aside0 (Kd.R k41 41 wc w.heap.size (fun k_ => some k_ ≠ ((.slice Ao296 t406.length co296) : Value).ownBlock) (.slice Ao11 t373.length co11) t373) /\ Aside0 (Kd.R k86 86 wc w.heap.size (fun k_ => some k_ ≠ ((.slice Ao303 t409.length co303) : Value).ownBlock) (.slice Ao14 t376.length co14) t376) /\ Aside0 (Kd.R k47 47 wc w.heap.size (fun k_ => some k_ ≠ ((.slice Ao304 t412.length co304) : Value).ownBlock) (.slice Ao15 t379.length co15) t379) /\ Aside0 (Kd.R k35 35 wc w.heap.size (fun k_ => some k_ ≠ ((.slice Ao305 t415.length co305) : Value).ownBlock /\ k_ ≠ gb393 /\ k_ ≠ gb397 /\ k_ ≠ gb422) (.slice Ao16 t382.length co16) t382) /\ Aside0 (Kd.R k41 41 wc w.heap.size (fun k_ => some k_ ≠ ((.slice Ao11 t373.length co11) : Value).ownBlock) (.slice Ao296 t406.length co296) t406) /\ Aside0 (Kd.R k86 86 wc w.heap.size (fun k_ => some k_ ≠ ((.slice Ao14 t376.length co14) : Value).ownBlock) (.slice Ao303 t409.length co303) t409) /\ Aside0 (Kd.R k47 47 wc w.heap.size (fun k_ => some k_ ≠ ((.slice Ao15 t379.length co15) : Value).ownBlock) (.slice Ao304 t412.length co304) t412) /\ Aside0 (Kd.R k35 35 wc w.heap.size (fun k_ => some k_ ≠ ((.slice Ao16 t382.length co16) : Value).ownBlock /\ k_ ≠ gb393 /\ k_ ≠ gb397 /\ k_ ≠ gb422) (.slice Ao305 t415.length co305) t415) /\ Aside0 (wc.heap[gb388]? = some (.cells #[(.slice Ao11 t373.length co11), (.slice Ao14 t376.length co14), (.slice Ao15 t379.length co15), (.slice Ao16 t382.length co16)] 29 (0, 0))) /\ Aside0 (wc.heap[gb389]? = some (.cells #[.int .i64 t386, .int .i64 t387] 31 (0, 0))) /\ Aside0 (wc.heap[gb393]? = some (.cells #[.int .i64 t390, .int .i64 t391] 35 (0, 0))) /\ Aside0 (wc.heap[gb397]? = some (.cells #[.int .i64 t394, .int .i64 t395] 35 (0, 0))) /\ Aside0 (wc.heap[gb421]? = some (.cells #[(.slice Ao296 t406.length co296), (.slice Ao303 t409.length co303), (.slice Ao304 t412.length co304), (.slice Ao305 t415.length co305)] 29 (0, 0))) /\ Aside0 (wc.heap[gb422]? = some (.cells #[.int .i64 t418, .int .i64 t419] 35 (0, 0))) /\ Aside0 (Below w.heap.size w wc))
             case first => as_aux_lemma =>
              have H := HC376.out
              clear HC376
              by_cases c383 : t418 = 3
              ·rw [if_pos c383] at H
               have c383b0 : (t418 == 3) = true := beq_iff_eq.mpr c383
               have c383b1 : (t418 != 3) = false := bne_eq_false_iff_eq.mpr c383
               clear c383
               (first | rw [c383b0] | (simp only [i64_w, i32_w]; rw [c383b0]) | skip)
               have H' := Aside0.mk H
               clear H
               go_wp2
               go_meet
               case rel => exact ⟨_, ((t418 == 3)), ez, H', ⟨by have := HJ6.out; have := HJ42.out; have := HJ62.out; have := HJ291.out; first | omega | exact Nat.le_refl _⟩, ⟨by refine rq ?_; exact HO_389000.out⟩, ⟨by refine rq ?_; exact HO_389001.out⟩, ⟨by refine rq ?_; exact HO_389002.out⟩, ⟨by refine rq ?_; exact HO_389003.out⟩, ⟨by refine rq ?_; exact HO_422000.out⟩, ⟨by refine rq ?_; exact HO_422001.out⟩, ⟨by refine rq ?_; exact HO_422002.out⟩, ⟨by refine rq ?_; exact HO_422003.out⟩, ⟨by refine kq ?_; exact BK388.out⟩, ⟨by refine kq ?_; exact BK389.out⟩, ⟨by refine kq ?_; exact BK393.out⟩, ⟨by refine kq ?_; exact BK397.out⟩, ⟨by refine kq ?_; exact BK421.out⟩, ⟨by refine kq ?_; exact BK422.out⟩, ⟨(bz6 HB.out GE388.out GE389.out GE393.out GE397.out GE421.out GE422.out)⟩⟩
              ·rw [if_neg c383] at H
               have c383b0 : (t418 == 3) = false := beq_eq_false_iff_ne.mpr c383
               have c383b1 : (t418 != 3) = true := bne_iff_ne.mpr c383
               (first | rw [c383b0] | (simp only [i64_w, i32_w]; rw [c383b0]) | skip)
               have H' := Aside0.mk H
               clear H
               go_wp2
               go_meet
               case rel => exact ⟨_, ((t418 == 4)), ez, H', ⟨by have := HJ6.out; have := HJ42.out; have := HJ62.out; have := HJ291.out; first | omega | exact Nat.le_refl _⟩, ⟨by refine rq ?_; exact HO_389000.out⟩, ⟨by refine rq ?_; exact HO_389001.out⟩, ⟨by refine rq ?_; exact HO_389002.out⟩, ⟨by refine rq ?_; exact HO_389003.out⟩, ⟨by refine rq ?_; exact HO_422000.out⟩, ⟨by refine rq ?_; exact HO_422001.out⟩, ⟨by refine rq ?_; exact HO_422002.out⟩, ⟨by refine rq ?_; exact HO_422003.out⟩, ⟨by refine kq ?_; exact BK388.out⟩, ⟨by refine kq ?_; exact BK389.out⟩, ⟨by refine kq ?_; exact BK393.out⟩, ⟨by refine kq ?_; exact BK397.out⟩, ⟨by refine kq ?_; exact BK421.out⟩, ⟨by refine kq ?_; exact BK422.out⟩, ⟨(bz6 HB.out GE388.out GE389.out GE393.out GE397.out GE421.out GE422.out)⟩⟩
             case rest => as_aux_lemma =>
              clear HC376
              try clear c1
              try clear p2
              try clear c3
              try clear p4
              try clear q4
              try clear hx4
              try clear c18
              try clear c36
              try clear c37
              try clear c38
              try clear p40
              try clear q40
              try clear hx40
              try clear c366
              try clear c367
              try clear c367b0
              try clear c367b1
              try clear c369
              try clear c370
              try clear c371
              try clear c372
              try clear c373
              try clear c377
              try clear c378
              try clear c379
              try clear c380
              try clear c381
              try clear c383
              try clear c383b0
              try clear c383b1
              try clear hcz144_2
              try clear hcz144_3
              try clear hcz144_4
              try clear hcz145_0 hcz145_1
              try clear hcz151_0 hcz151_1 hcz151_2 hcz151_3
              try clear hcz155_0 hcz155_1 hcz155_2 hcz155_3 hcz155_4
              try clear hcz158_0 hcz158_1
              try clear hcz166_0 hcz166_1
              try clear hcz167_0 hcz167_1 hcz167_2 hcz167_3 hcz167_4
              try clear hcz168_0 hcz168_1
              try clear hcz174_0 hcz174_1 hcz174_2 hcz174_3
              try clear hcz178_0 hcz178_1 hcz178_2 hcz178_3 hcz178_4
              try clear hcz17_0 hcz17_1
              try clear hcz181_0 hcz181_1
              try clear hcz189_0 hcz189_1
              try clear hcz190_0 hcz190_1 hcz190_2 hcz190_3 hcz190_4
              try clear hcz191_0 hcz191_1
              try clear hcz193_0 hcz193_1
              try clear hcz198_0 hcz198_1 hcz198_2 hcz198_3
              try clear hcz202_0 hcz202_1 hcz202_2 hcz202_3 hcz202_4
              try clear hcz205_0 hcz205_1
              try clear hcz213_0 hcz213_1
              try clear hcz214_0 hcz214_1 hcz214_2 hcz214_3 hcz214_4
              try clear hcz215_0 hcz215_1
              try clear hcz217_0 hcz217_1
              try clear hcz223_0 hcz223_1 hcz223_2 hcz223_3
              try clear hcz227_0 hcz227_1 hcz227_2 hcz227_3 hcz227_4
              try clear hcz22_0 hcz22_1
              try clear hcz230_0 hcz230_1
              try clear hcz238_0 hcz238_1
              try clear hcz239_0 hcz239_1 hcz239_2 hcz239_3 hcz239_4
              try clear hcz23_0 hcz23_1 hcz23_2 hcz23_3
              try clear hcz240_0 hcz240_1
              try clear hcz246_0 hcz246_1 hcz246_2 hcz246_3
              try clear hcz24_0 hcz24_1
              try clear hcz250_0 hcz250_1 hcz250_2 hcz250_3 hcz250_4
              try clear hcz253_0 hcz253_1
              try clear hcz261_0 hcz261_1
              try clear hcz262_0 hcz262_1 hcz262_2 hcz262_3 hcz262_4
              try clear hcz263_0 hcz263_1
              try clear hcz265_0 hcz265_1
              try clear hcz270_0 hcz270_1 hcz270_2 hcz270_3
              try clear hcz274_0 hcz274_1 hcz274_2 hcz274_3 hcz274_4
              try clear hcz277_0 hcz277_1
              try clear hcz285_0 hcz285_1
              try clear hcz286_0 hcz286_1 hcz286_2 hcz286_3 hcz286_4
              try clear hcz287_0 hcz287_1
              try clear hcz289_0 hcz289_1
              try clear hcz302_0 hcz302_1 hcz302_2 hcz302_3
              try clear hcz30_0 hcz30_1
              try clear hcz310_0 hcz310_1
              try clear hcz322_0 hcz322_1 hcz322_2 hcz322_3
              try clear hcz324_0 hcz324_1 hcz324_2 hcz324_3
              try clear hcz329_0 hcz329_1
              try clear hcz336_0 hcz336_1 hcz336_2 hcz336_3
              try clear hcz338_0 hcz338_1 hcz338_2 hcz338_3
              try clear hcz343_0 hcz343_1
              try clear hcz350_0 hcz350_1 hcz350_2 hcz350_3
              try clear hcz352_0 hcz352_1 hcz352_2 hcz352_3
              try clear hcz357_0 hcz357_1
              try clear hcz364_0 hcz364_1 hcz364_2 hcz364_3
              try clear hcz374_0 hcz374_1
              try clear hcz37_0 hcz37_1 hcz37_2 hcz37_3
              try clear hcz382_0 hcz382_1
              try clear hcz40_0 hcz40_1
              try clear hcz50_0 hcz50_1 hcz50_2 hcz50_3
              try clear hcz52_0 hcz52_1 hcz52_2 hcz52_3
              try clear hcz56_0 hcz56_1 hcz56_2 hcz56_3
              try clear hcz61_0 hcz61_1 hcz61_2 hcz61_3
              try clear hcz71_0 hcz71_1 hcz71_2 hcz71_3
              try clear hcz77_0 hcz77_1 hcz77_2 hcz77_3 hcz77_4
              try clear hcz85_0 hcz85_1 hcz85_2 hcz85_3 hcz85_4
              try clear hcz89_0 hcz89_1
              try clear hcz92_0 hcz92_1
              try clear hcz97_0 hcz97_1 hcz97_2 hcz97_3 hcz97_4
              try clear hfz101_0 hfz101_1
              try clear hfz106_0 hfz106_1 hfz106_2 hfz106_3 hfz106_4
              try clear hfz110_0 hfz110_1
              try clear hfz115_0 hfz115_1 hfz115_2 hfz115_3 hfz115_4
              try clear hfz119_0 hfz119_1
              try clear hfz128_0 hfz128_1 hfz128_2 hfz128_3
              try clear hfz132_0 hfz132_1 hfz132_2 hfz132_3 hfz132_4
              try clear hfz135_0 hfz135_1
              try clear hfz13_0 hfz13_1 hfz13_2 hfz13_3
              try clear hfz143_0 hfz143_1
              try clear hfz144_0 hfz144_1 hfz144_2 hfz144_3 hfz144_4
              try clear hfz145_0 hfz145_1
              try clear hfz151_0 hfz151_1 hfz151_2 hfz151_3
              try clear hfz155_0 hfz155_1 hfz155_2 hfz155_3 hfz155_4
              try clear hfz158_0 hfz158_1
              try clear hfz166_0 hfz166_1
              try clear hfz167_0 hfz167_1 hfz167_2 hfz167_3 hfz167_4
              try clear hfz168_0 hfz168_1
              try clear hfz174_0 hfz174_1 hfz174_2 hfz174_3
              try clear hfz178_0 hfz178_1 hfz178_2 hfz178_3 hfz178_4
              try clear hfz17_0 hfz17_1
              try clear hfz181_0 hfz181_1
              try clear hfz189_0 hfz189_1
              try clear hfz190_0 hfz190_1 hfz190_2 hfz190_3 hfz190_4
              try clear hfz191_0 hfz191_1
              try clear hfz193_0 hfz193_1
              try clear hfz198_0 hfz198_1 hfz198_2 hfz198_3
              try clear hfz202_0 hfz202_1 hfz202_2 hfz202_3 hfz202_4
              try clear hfz205_0 hfz205_1
              try clear hfz213_0 hfz213_1
              try clear hfz214_0 hfz214_1 hfz214_2 hfz214_3 hfz214_4
              try clear hfz215_0 hfz215_1
              try clear hfz217_0 hfz217_1
              try clear hfz223_0 hfz223_1 hfz223_2 hfz223_3
              try clear hfz227_0 hfz227_1 hfz227_2 hfz227_3 hfz227_4
              try clear hfz22_0 hfz22_1
              try clear hfz230_0 hfz230_1
              try clear hfz238_0 hfz238_1
              try clear hfz239_0 hfz239_1 hfz239_2 hfz239_3 hfz239_4
              try clear hfz23_0 hfz23_1 hfz23_2 hfz23_3
              try clear hfz240_0 hfz240_1
              try clear hfz246_0 hfz246_1 hfz246_2 hfz246_3
              try clear hfz24_0 hfz24_1
              try clear hfz250_0 hfz250_1 hfz250_2 hfz250_3 hfz250_4
              try clear hfz253_0 hfz253_1
              try clear hfz261_0 hfz261_1
              try clear hfz262_0 hfz262_1 hfz262_2 hfz262_3 hfz262_4
              try clear hfz263_0 hfz263_1
              try clear hfz265_0 hfz265_1
              try clear hfz270_0 hfz270_1 hfz270_2 hfz270_3
              try clear hfz274_0 hfz274_1 hfz274_2 hfz274_3 hfz274_4
              try clear hfz277_0 hfz277_1
              try clear hfz285_0 hfz285_1
              try clear hfz286_0 hfz286_1 hfz286_2 hfz286_3 hfz286_4
              try clear hfz287_0 hfz287_1
              try clear hfz289_0 hfz289_1
              try clear hfz302_0 hfz302_1 hfz302_2 hfz302_3
              try clear hfz30_0 hfz30_1
              try clear hfz310_0 hfz310_1
              try clear hfz322_0 hfz322_1 hfz322_2 hfz322_3
              try clear hfz324_0 hfz324_1 hfz324_2 hfz324_3
              try clear hfz329_0 hfz329_1
              try clear hfz336_0 hfz336_1 hfz336_2 hfz336_3
              try clear hfz338_0 hfz338_1 hfz338_2 hfz338_3
              try clear hfz343_0 hfz343_1
              try clear hfz350_0 hfz350_1 hfz350_2 hfz350_3
              try clear hfz352_0 hfz352_1 hfz352_2 hfz352_3
              try clear hfz357_0 hfz357_1
              try clear hfz364_0 hfz364_1 hfz364_2 hfz364_3
              try clear hfz374_0 hfz374_1
              try clear hfz37_0 hfz37_1 hfz37_2 hfz37_3
              try clear hfz382_0 hfz382_1
              try clear hfz40_0 hfz40_1
              try clear hfz50_0 hfz50_1 hfz50_2 hfz50_3
              try clear hfz52_0 hfz52_1 hfz52_2 hfz52_3
              try clear hfz56_0 hfz56_1 hfz56_2 hfz56_3
              try clear hfz61_0 hfz61_1 hfz61_2 hfz61_3
              try clear hfz71_0 hfz71_1 hfz71_2 hfz71_3
              try clear hfz77_0 hfz77_1 hfz77_2 hfz77_3 hfz77_4
              try clear hfz85_0 hfz85_1 hfz85_2 hfz85_3 hfz85_4
              try clear hfz89_0 hfz89_1
              try clear hfz92_0 hfz92_1
              try clear hfz97_0 hfz97_1 hfz97_2 hfz97_3 hfz97_4
              try clear hx400_0
              try clear hx400_1
              try clear hx400_2
              try clear hx400_3
              try clear hx400_4
              try clear p2
              try clear p400
              try clear q400
              obtain ⟨kq, x159_375, rfl, HA, HJ375, HO_389000, HO_389001, HO_389002, HO_389003, HO_422000, HO_422001, HO_422002, HO_422003, BK388, BK389, BK393, BK397, BK421, BK422, HB⟩ := hcut
              cases kq with
              | zero => exact absurd HA.out (by simp [laws_FnValues.j5])
              | succ kj375 =>
               have H := HA.out
               clear HA
               simp only [laws_FnValues.j5] at H
               by_cases c384 : x159_375 = true
               ·subst c384
                have H1 := hp H
                clear H
                have H := H1
                clear H1
                by_cases c385 : t420 = 0
                ·rw [if_pos c385] at H
                 have c385b0 : (t420 == 0) = true := beq_iff_eq.mpr c385
                 have c385b1 : (t420 != 0) = false := bne_eq_false_iff_eq.mpr c385
                 clear c385
                 obtain rfl := Option.some.inj H
                 go_wp2
                 go_ret
                 exact ⟨gz, (bz6 HB.out GE388.out GE389.out GE393.out GE397.out GE421.out GE422.out)⟩
                ·rw [if_neg c385] at H
                 have c385b0 : (t420 == 0) = false := beq_eq_false_iff_ne.mpr c385
                 have c385b1 : (t420 != 0) = true := bne_iff_ne.mpr c385
                 replace H := bi H
                 obtain ⟨t427, A3860, H⟩ := H
                 try dsimp only at H
                 have A386 := Aside0.mk A3860
                 clear A3860
                 replace H := iz H
                 obtain ⟨c387, H⟩ := H
                 have c387b0 := decide_eq_true c387
                 clear c387
                 replace H := iz H
                 obtain ⟨c388, H⟩ := H
                 have c388b0 := decide_eq_true c388
                 clear c388
                 replace H := bi H
                 obtain ⟨t429, A3890, H⟩ := H
                 try dsimp only at H
                 have A389 := Aside0.mk A3890
                 clear A3890
                 replace H := iz H
                 obtain ⟨c390, H⟩ := H
                 have c390b0 := eq_true c390
                 have c390b1 : decide (t427.size + t429.size <= 9223372036854775807) = true := decide_eq_true c390
                 try have c390b2 : (9223372036854775807 < t427.size + t429.size) = False := eq_false (Nat.not_lt.2 c390)
                 replace H := iz H
                 obtain ⟨c391, H⟩ := H
                 have c391b0 := eq_true c391
                 have c391b1 : decide ((t427 ++ t429).size + 1 <= 9223372036854775807) = true := decide_eq_true c391
                 try have c391b2 : (9223372036854775807 < (t427 ++ t429).size + 1) = False := eq_false (Nat.not_lt.2 c391)
                 (try (have c391b2z := c391b2; simp only [ByteArray.size_append] at c391b2z))
                 replace H := bi H
                 obtain ⟨t431, A3920, H⟩ := H
                 try dsimp only at H
                 have A392 := Aside0.mk A3920
                 clear A3920
                 replace H := iz H
                 obtain ⟨c393, H⟩ := H
                 have c393b0 := eq_true c393
                 have c393b1 : decide (((t427 ++ t429) ++ (⟨#[32]⟩ : ByteArray)).size + t431.size <= 9223372036854775807) = true := decide_eq_true c393
                 try have c393b2 : (9223372036854775807 < ((t427 ++ t429) ++ (⟨#[32]⟩ : ByteArray)).size + t431.size) = False := eq_false (Nat.not_lt.2 c393)
                 (try (have c393b2z := c393b2; simp only [ByteArray.size_append, show (⟨#[32]⟩ : ByteArray).size = 1 from rfl] at c393b2z))
                 replace H := iz H
                 obtain ⟨c394, H⟩ := H
                 have c394b0 := eq_true c394
                 have c394b1 : decide ((((t427 ++ t429) ++ (⟨#[32]⟩ : ByteArray)) ++ t431).size + 1 <= 9223372036854775807) = true := decide_eq_true c394
                 try have c394b2 : (9223372036854775807 < (((t427 ++ t429) ++ (⟨#[32]⟩ : ByteArray)) ++ t431).size + 1) = False := eq_false (Nat.not_lt.2 c394)
                 (try (have c394b2z := c394b2; simp only [ByteArray.size_append, show (⟨#[32]⟩ : ByteArray).size = 1 from rfl] at c394b2z))
                 obtain rfl := Option.some.inj H
                 try go_wp2
                 have n0_ := Aside0.mk (Kd.R_drew HO_389000.out)
                 have n1_ := Aside0.mk (Kd.R_drew HO_389001.out)
                 have n2_ := Aside0.mk (Kd.R_drew HO_389002.out)
                 have n3_ := Aside0.mk (Kd.R_drew HO_389003.out)
                 have n4_ := Aside0.mk (Kd.R_drew HO_422000.out)
                 have n5_ := Aside0.mk (Kd.R_drew HO_422001.out)
                 have n6_ := Aside0.mk (Kd.R_drew HO_422002.out)
                 have n7_ := Aside0.mk (Kd.R_drew HO_422003.out)
                 have n8_ := Aside0.mk (blk_drew BK388.out)
                 have n9_ := Aside0.mk (blk_drew BK389.out)
                 have n10_ := Aside0.mk (blk_drew BK393.out)
                 have n11_ := Aside0.mk (blk_drew BK397.out)
                 have n12_ := Aside0.mk (blk_drew BK421.out)
                 have n13_ := Aside0.mk (blk_drew BK422.out)
                 have n14_ := Aside0.mk (below_drew1 HB.out)
                 clear HO_389000
                 clear HO_389001
                 clear HO_389002
                 clear HO_389003
                 clear HO_422000
                 clear HO_422001
                 clear HO_422002
                 clear HO_422003
                 clear BK388
                 clear BK389
                 clear BK393
                 clear BK397
                 clear BK421
                 clear BK422
                 clear HB
                 have HO_389000 := n0_
                 have HO_389001 := n1_
                 have HO_389002 := n2_
                 have HO_389003 := n3_
                 have HO_422000 := n4_
                 have HO_422001 := n5_
                 have HO_422002 := n6_
                 have HO_422003 := n7_
                 have BK388 := n8_
                 have BK389 := n9_
                 have BK393 := n10_
                 have BK397 := n11_
                 have BK421 := n12_
                 have BK422 := n13_
                 have HB := n14_
                 clear n0_ n1_ n2_ n3_ n4_ n5_ n6_ n7_ n8_ n9_ n10_ n11_ n12_ n13_ n14_
                 have p428 : 0 <= (t419 : Int) := oz
                 have q428 : t419 < (t412.length : Int) := oz
                 obtain ⟨ad428, e428, hx428_0, hx428_1, hx428_2, hx428_3⟩ := at_T47 (Kd.R_reads' HO_422002.out).2.2 t419 p428 q428
                 cases e428
                 replace p428 := eq_true p428
                 replace q428 := eq_true q428
                 have p430 : 0 <= (t419 : Int) := oz
                 have q430 : t419 < (t412.length : Int) := oz
                 obtain ⟨ad430, e430, hx430_0, hx430_1, hx430_2, hx430_3⟩ := at_T47 (Kd.R_reads' HO_422002.out).2.2 t419 p430 q430
                 obtain rfl : ad428 = ad430 := (by injection e430)
                 replace p430 := eq_true p430
                 replace q430 := eq_true q430
                 refine start_ (n := 32) (S := fun w' => w'.cell? ⟨gb422, 0, none⟩ = some (.int .i64 t418) /\ w'.cell? ⟨gb422, 1, none⟩ = some (.int .i64 t419) /\ w'.cell? ⟨gb421, 0, none⟩ = some (.slice Ao296 t406.length co296) /\ w'.cell? ⟨gb421, 1, none⟩ = some (.slice Ao303 t409.length co303) /\ w'.cell? ⟨gb421, 2, none⟩ = some (.slice (some ad428) t412.length co304) /\ w'.cell? ⟨gb421, 3, none⟩ = some (.slice Ao305 t415.length co305) /\ w'.cell? (ad428.add ((t419).toNat * 4)) = some (.int .i64 ((rd_T47 t412 t419).f0.f0)) /\ w'.cell? ⟨(ad428.add ((t419).toNat * 4)).block, (ad428.add ((t419).toNat * 4)).off + 1, none⟩ = some (.int .i64 ((rd_T47 t412 t419).f0.f1)) /\ w'.cell? ⟨(ad428.add ((t419).toNat * 4)).block, (ad428.add ((t419).toNat * 4)).off + 2, none⟩ = some (.int .i64 ((rd_T47 t412 t419).f1.f0)) /\ w'.cell? ⟨(ad428.add ((t419).toNat * 4)).block, (ad428.add ((t419).toNat * 4)).off + 3, none⟩ = some (.int .i64 ((rd_T47 t412 t419).f1.f1)) /\ w'.cell? (ad428.add ((t419).toNat * 4)) = some (.int .i64 ((rd_T47 t412 t419).f0.f0)) /\ w'.cell? ⟨(ad428.add ((t419).toNat * 4)).block, (ad428.add ((t419).toNat * 4)).off + 1, none⟩ = some (.int .i64 ((rd_T47 t412 t419).f0.f1)) /\ w'.cell? ⟨(ad428.add ((t419).toNat * 4)).block, (ad428.add ((t419).toNat * 4)).off + 2, none⟩ = some (.int .i64 ((rd_T47 t412 t419).f1.f0)) /\ w'.cell? ⟨(ad428.add ((t419).toNat * 4)).block, (ad428.add ((t419).toNat * 4)).off + 3, none⟩ = some (.int .i64 ((rd_T47 t412 t419).f1.f1))) (ds := []) (mk_ 0 32) (by kernel_rfl) rfl rfl ⟨(blk_cell BK422.out 0).trans rfl, (blk_cell BK422.out 1).trans rfl, (blk_cell BK421.out 0).trans rfl, (blk_cell BK421.out 1).trans rfl, (blk_cell BK421.out 2).trans rfl, (blk_cell BK421.out 3).trans rfl, hx428_0, hx428_1, hx428_2, hx428_3, hx430_0, hx430_1, hx430_2, hx430_3⟩ (fun hHeld => ?_); refine with_tabW laws_FnValues.tab26 laws_FnValues.bits26 (fun HT_ HW_ => ?_)
                 generalize wc.drew = w395 at HO_389000 HO_389001 HO_389002 HO_389003 HO_422000 HO_422001 HO_422002 HO_422003 BK388 BK389 BK393 BK397 BK421 BK422 HB hx428_0 hx428_1 hx428_2 hx428_3 hx430_0 hx430_1 hx430_2 hx430_3 hHeld ⊢
                 refine pv 0 166 (mk_ 1 31) HT_ rfl rfl ?_
                 refine pv 1 167 (mk_ 2 30) HT_ rfl rfl ?_
                 refine pv 5 171 (bm_ 32 35) HT_ rfl rfl ?_
                 refine pv 7 173 (bm_ 32 163) HT_ rfl rfl ?_
                 refine pv 12 178 (bm_ 32 4259) HT_ rfl rfl ?_
                 refine pv 13 179 (bm_ 32 12451) HT_ rfl rfl ?_
                 refine pv 18 184 (bm_ 32 274595) HT_ rfl rfl ?_
                 refine pv 20 186 (bm_ 32 1323171) HT_ rfl rfl ?_
                 refine pv 25 191 (bm_ 32 34877603) HT_ rfl rfl ?_
                 refine pv 26 192 (bm_ 32 101986467) HT_ rfl rfl ?_
                 refine tv14 2 168 (bm_ 32 101986471) HT_ HW_ rfl rfl hHeld ?_
                 refine tv14 4 170 (bm_ 32 101986487) HT_ HW_ rfl rfl hHeld ?_
                 refine tv14 6 172 (bm_ 32 101986551) HT_ HW_ rfl rfl hHeld ?_
                 refine tv14 8 174 (bm_ 32 101986807) HT_ HW_ rfl rfl hHeld ?_
                 refine pv 9 175 (bm_ 32 101987319) HT_ rfl rfl ?_
                 refine pv 10 176 (bm_ 32 101988343) HT_ rfl rfl ?_
                 refine tv14 11 177 (bm_ 32 101990391) HT_ HW_ rfl rfl hHeld ?_
                 refine tv14 17 183 (bm_ 32 102121463) HT_ HW_ rfl rfl hHeld ?_
                 refine tv14 19 185 (bm_ 32 102645751) HT_ HW_ rfl rfl hHeld ?_
                 refine tv14 21 187 (bm_ 32 104742903) HT_ HW_ rfl rfl hHeld ?_
                 refine pv 22 188 (bm_ 32 108937207) HT_ rfl rfl ?_
                 refine pv 23 189 (bm_ 32 117325815) HT_ rfl rfl ?_
                 refine tv14 24 190 (bm_ 32 134103031) HT_ HW_ rfl rfl hHeld ?_
                 refine one_ (i := 3) (N := some 169) (bm_ 32 134103039) rfl rfl (one_of HT_.out (by kernel_rfl)) (by decide) (fun K hK => ?_)
                 refine goes_ Tryd.func19 (by kernel_rfl) rfl #[.int .i64 t418] (by rfl) rfl rfl lz ?_
                 with_reducible refine (laws_map2.calls t418 t427 _ A386.out).mono ?_
                 rintro e w' ⟨rfl, ⟨nd, rfl⟩⟩
                 refine ⟨_, rfl, ?_⟩
                 refine hK.out _ _ ⟨(blk_cell BK422.out 0).trans rfl, (blk_cell BK422.out 1).trans rfl, (blk_cell BK421.out 0).trans rfl, (blk_cell BK421.out 1).trans rfl, (blk_cell BK421.out 2).trans rfl, (blk_cell BK421.out 3).trans rfl, hHeld.2.2.2.2.2.2.1, hHeld.2.2.2.2.2.2.2.1, hHeld.2.2.2.2.2.2.2.2.1, hHeld.2.2.2.2.2.2.2.2.2.1, hHeld.2.2.2.2.2.2.2.2.2.2.1, hHeld.2.2.2.2.2.2.2.2.2.2.2.1, hHeld.2.2.2.2.2.2.2.2.2.2.2.2.1, hHeld.2.2.2.2.2.2.2.2.2.2.2.2.2⟩ (fun hHeld => ?_)
                 clear hK K
                 refine norm_ (a' := ?_) ?_ ?_
                 rotate_left
                 ·show Act.put _ (some 169) _ = _
                  simp only [Act.put, sz1, sz2, sz3, i64_w, i32_w]
                  rfl
                 refine one_ (i := 14) (N := some 180) (bm_ 32 134119423) rfl rfl (one_of HT_.out (by kernel_rfl)) (by decide) (fun K hK => ?_)
                 refine goes_ Tryd.func16 (by kernel_rfl) rfl #[.agg #[.slice Ao296 t406.length co296, .slice Ao303 t409.length co303, .slice (some ad428) t412.length co304, .slice Ao305 t415.length co305], .agg #[.int .i64 ((rd_T47 t412 t419).f0.f0), .int .i64 ((rd_T47 t412 t419).f0.f1)], .int .i64 (wrap64 (t420 - 1))] (by rfl) rfl rfl lz ?_
                 with_reducible refine (impl_ShowVal.calls kj375 _ _ t406 _ _ t409 _ _ t412 _ _ t415 ((rd_T47 t412 t419).f0.f0) ((rd_T47 t412 t419).f0.f1) (wrap64 (t420 - 1)) t429 _ ?side1 ?side2 ?side3 ?side4 ?side5 ?side6 ?side7 ?side8 A389.out ?hT_).mono ?_
                 (case hT_ => exact PW.below hT_ (bz6 HB.out GE388.out GE389.out GE393.out GE397.out GE421.out GE422.out))
                 (case side1 => exact cz (Kd.R_reads' HO_422000.out).2.2)
                 (case side2 => exact (Kd.R_reads' HO_422000.out).2.1)
                 (case side3 => exact cz (Kd.R_reads' HO_422001.out).2.2)
                 (case side4 => exact (Kd.R_reads' HO_422001.out).2.1)
                 (case side5 => exact cz (Kd.R_reads' HO_422002.out).2.2)
                 (case side6 => exact (Kd.R_reads' HO_422002.out).2.1)
                 (case side7 => exact cz (Kd.R_reads' HO_422003.out).2.2)
                 (case side8 => exact (Kd.R_reads' HO_422003.out).2.1)
                 rintro e w396 ⟨rfl, hb⟩
                 have HS6_ := (hb.cell (World.block_lt_of_cell? _ _ (hHeld.2.2.2.2.2.2.1))).trans (hHeld.2.2.2.2.2.2.1)
                 have HS7_ := (hb.cell (World.block_lt_of_cell? _ _ (hHeld.2.2.2.2.2.2.2.1))).trans (hHeld.2.2.2.2.2.2.2.1)
                 have HS8_ := (hb.cell (World.block_lt_of_cell? _ _ (hHeld.2.2.2.2.2.2.2.2.1))).trans (hHeld.2.2.2.2.2.2.2.2.1)
                 have HS9_ := (hb.cell (World.block_lt_of_cell? _ _ (hHeld.2.2.2.2.2.2.2.2.2.1))).trans (hHeld.2.2.2.2.2.2.2.2.2.1)
                 have HS10_ := (hb.cell (World.block_lt_of_cell? _ _ (hHeld.2.2.2.2.2.2.2.2.2.2.1))).trans (hHeld.2.2.2.2.2.2.2.2.2.2.1)
                 have HS11_ := (hb.cell (World.block_lt_of_cell? _ _ (hHeld.2.2.2.2.2.2.2.2.2.2.2.1))).trans (hHeld.2.2.2.2.2.2.2.2.2.2.2.1)
                 have HS12_ := (hb.cell (World.block_lt_of_cell? _ _ (hHeld.2.2.2.2.2.2.2.2.2.2.2.2.1))).trans (hHeld.2.2.2.2.2.2.2.2.2.2.2.2.1)
                 have HS13_ := (hb.cell (World.block_lt_of_cell? _ _ (hHeld.2.2.2.2.2.2.2.2.2.2.2.2.2))).trans (hHeld.2.2.2.2.2.2.2.2.2.2.2.2.2)
                 refine ⟨_, rfl, ?_⟩
                 have n0_ := qz HO_389000 hb
                 have n1_ := qz HO_389001 hb
                 have n2_ := qz HO_389002 hb
                 have n3_ := qz HO_389003 hb
                 have n4_ := qz HO_422000 hb
                 have n5_ := qz HO_422001 hb
                 have n6_ := qz HO_422002 hb
                 have n7_ := qz HO_422003 hb
                 have n8_ := Aside0.mk (blk_below (kz BK388.out) hb)
                 have n9_ := Aside0.mk (blk_below (kz BK389.out) hb)
                 have n10_ := Aside0.mk (blk_below (kz BK393.out) hb)
                 have n11_ := Aside0.mk (blk_below (kz BK397.out) hb)
                 have n12_ := Aside0.mk (blk_below (kz BK421.out) hb)
                 have n13_ := Aside0.mk (blk_below (kz BK422.out) hb)
                 have n14_ := Aside0.mk (below_step (bz6 HB.out GE388.out GE389.out GE393.out GE397.out GE421.out GE422.out) hb)
                 clear HO_389000
                 clear HO_389001
                 clear HO_389002
                 clear HO_389003
                 clear HO_422000
                 clear HO_422001
                 clear HO_422002
                 clear HO_422003
                 clear BK388
                 clear BK389
                 clear BK393
                 clear BK397
                 clear BK421
                 clear BK422
                 clear HB
                 have HO_389000 := n0_
                 have HO_389001 := n1_
                 have HO_389002 := n2_
                 have HO_389003 := n3_
                 have HO_422000 := n4_
                 have HO_422001 := n5_
                 have HO_422002 := n6_
                 have HO_422003 := n7_
                 have BK388 := n8_
                 have BK389 := n9_
                 have BK393 := n10_
                 have BK397 := n11_
                 have BK421 := n12_
                 have BK422 := n13_
                 have HB := n14_
                 clear n0_ n1_ n2_ n3_ n4_ n5_ n6_ n7_ n8_ n9_ n10_ n11_ n12_ n13_ n14_
                 (try clear hb)
                 (try clear hb2)
                 (try clear hk)
                 (try clear hi)
                 refine hK.out _ _ ⟨(blk_cell BK422.out 0).trans rfl, (blk_cell BK422.out 1).trans rfl, (blk_cell BK421.out 0).trans rfl, (blk_cell BK421.out 1).trans rfl, (blk_cell BK421.out 2).trans rfl, (blk_cell BK421.out 3).trans rfl, HS6_, HS7_, HS8_, HS9_, HS10_, HS11_, HS12_, HS13_⟩ (fun hHeld => ?_)
                 clear hK K
                 refine norm_ (a' := ?_) ?_ ?_
                 rotate_left
                 ·show Act.put _ (some 180) _ = _
                  simp only [Act.put, sz1, sz2, sz3, i64_w, i32_w]
                  rfl
                 refine pv 15 181 (bm_ 32 134152191) HT_ rfl rfl ?_
                 refine pv 16 182 (mk_ 27 5) HT_ rfl rfl ?_
                 refine one_ (i := 27) (N := some 193) (mk_ 28 4) rfl rfl (one_of HT_.out (by kernel_rfl)) (by decide) (fun K hK => ?_)
                 refine goes_ Tryd.func16 (by kernel_rfl) rfl #[.agg #[.slice Ao296 t406.length co296, .slice Ao303 t409.length co303, .slice (some ad428) t412.length co304, .slice Ao305 t415.length co305], .agg #[.int .i64 ((rd_T47 t412 t419).f1.f0), .int .i64 ((rd_T47 t412 t419).f1.f1)], .int .i64 (wrap64 (t420 - 1))] (by rfl) rfl rfl lz ?_
                 with_reducible refine (impl_ShowVal.calls kj375 _ _ t406 _ _ t409 _ _ t412 _ _ t415 ((rd_T47 t412 t419).f1.f0) ((rd_T47 t412 t419).f1.f1) (wrap64 (t420 - 1)) t431 _ ?side1 ?side2 ?side3 ?side4 ?side5 ?side6 ?side7 ?side8 A392.out ?hT_).mono ?_
                 (case hT_ => exact PW.below hT_ (bz6 HB.out GE388.out GE389.out GE393.out GE397.out GE421.out GE422.out))
                 (case side1 => exact cz (Kd.R_reads' HO_422000.out).2.2)
                 (case side2 => exact (Kd.R_reads' HO_422000.out).2.1)
                 (case side3 => exact cz (Kd.R_reads' HO_422001.out).2.2)
                 (case side4 => exact (Kd.R_reads' HO_422001.out).2.1)
                 (case side5 => exact cz (Kd.R_reads' HO_422002.out).2.2)
                 (case side6 => exact (Kd.R_reads' HO_422002.out).2.1)
                 (case side7 => exact cz (Kd.R_reads' HO_422003.out).2.2)
                 (case side8 => exact (Kd.R_reads' HO_422003.out).2.1)
                 rintro e w397 ⟨rfl, hb⟩
                 have HS6_ := (hb.cell (World.block_lt_of_cell? _ _ (hHeld.2.2.2.2.2.2.1))).trans (hHeld.2.2.2.2.2.2.1)
                 have HS7_ := (hb.cell (World.block_lt_of_cell? _ _ (hHeld.2.2.2.2.2.2.2.1))).trans (hHeld.2.2.2.2.2.2.2.1)
                 have HS8_ := (hb.cell (World.block_lt_of_cell? _ _ (hHeld.2.2.2.2.2.2.2.2.1))).trans (hHeld.2.2.2.2.2.2.2.2.1)
                 have HS9_ := (hb.cell (World.block_lt_of_cell? _ _ (hHeld.2.2.2.2.2.2.2.2.2.1))).trans (hHeld.2.2.2.2.2.2.2.2.2.1)
                 have HS10_ := (hb.cell (World.block_lt_of_cell? _ _ (hHeld.2.2.2.2.2.2.2.2.2.2.1))).trans (hHeld.2.2.2.2.2.2.2.2.2.2.1)
                 have HS11_ := (hb.cell (World.block_lt_of_cell? _ _ (hHeld.2.2.2.2.2.2.2.2.2.2.2.1))).trans (hHeld.2.2.2.2.2.2.2.2.2.2.2.1)
                 have HS12_ := (hb.cell (World.block_lt_of_cell? _ _ (hHeld.2.2.2.2.2.2.2.2.2.2.2.2.1))).trans (hHeld.2.2.2.2.2.2.2.2.2.2.2.2.1)
                 have HS13_ := (hb.cell (World.block_lt_of_cell? _ _ (hHeld.2.2.2.2.2.2.2.2.2.2.2.2.2))).trans (hHeld.2.2.2.2.2.2.2.2.2.2.2.2.2)
                 refine ⟨_, rfl, ?_⟩
                 have n0_ := qz HO_389000 hb
                 have n1_ := qz HO_389001 hb
                 have n2_ := qz HO_389002 hb
                 have n3_ := qz HO_389003 hb
                 have n4_ := qz HO_422000 hb
                 have n5_ := qz HO_422001 hb
                 have n6_ := qz HO_422002 hb
                 have n7_ := qz HO_422003 hb
                 have n8_ := Aside0.mk (blk_below (kz BK388.out) hb)
                 have n9_ := Aside0.mk (blk_below (kz BK389.out) hb)
                 have n10_ := Aside0.mk (blk_below (kz BK393.out) hb)
                 have n11_ := Aside0.mk (blk_below (kz BK397.out) hb)
                 have n12_ := Aside0.mk (blk_below (kz BK421.out) hb)
                 have n13_ := Aside0.mk (blk_below (kz BK422.out) hb)
                 have n14_ := Aside0.mk (below_step (bz6 HB.out GE388.out GE389.out GE393.out GE397.out GE421.out GE422.out) hb)
                 clear HO_389000
                 clear HO_389001
                 clear HO_389002
                 clear HO_389003
                 clear HO_422000
                 clear HO_422001
                 clear HO_422002
                 clear HO_422003
                 clear BK388
                 clear BK389
                 clear BK393
                 clear BK397
                 clear BK421
                 clear BK422
                 clear HB
                 have HO_389000 := n0_
                 have HO_389001 := n1_
                 have HO_389002 := n2_
                 have HO_389003 := n3_
                 have HO_422000 := n4_
                 have HO_422001 := n5_
                 have HO_422002 := n6_
                 have HO_422003 := n7_
                 have BK388 := n8_
                 have BK389 := n9_
                 have BK393 := n10_
                 have BK397 := n11_
                 have BK421 := n12_
                 have BK422 := n13_
                 have HB := n14_
                 clear n0_ n1_ n2_ n3_ n4_ n5_ n6_ n7_ n8_ n9_ n10_ n11_ n12_ n13_ n14_
                 (try clear hb)
                 (try clear hb2)
                 (try clear hk)
                 (try clear hi)
                 refine hK.out _ _ ⟨(blk_cell BK422.out 0).trans rfl, (blk_cell BK422.out 1).trans rfl, (blk_cell BK421.out 0).trans rfl, (blk_cell BK421.out 1).trans rfl, (blk_cell BK421.out 2).trans rfl, (blk_cell BK421.out 3).trans rfl, HS6_, HS7_, HS8_, HS9_, HS10_, HS11_, HS12_, HS13_⟩ (fun hHeld => ?_)
                 clear hK K
                 refine norm_ (a' := ?_) ?_ ?_
                 rotate_left
                 ·show Act.put _ (some 193) _ = _
                  simp only [Act.put, sz1, sz2, sz3, i64_w, i32_w]
                  rfl
                 refine pv 28 194 (mk_ 29 3) HT_ rfl rfl ?_
                 refine pv 29 195 (mk_ 30 2) HT_ rfl rfl ?_
                 refine pv 30 196 (mk_ 31 1) HT_ rfl rfl ?_
                 refine pv 31 2 (mk_ 32 0) HT_ rfl rfl ?_
                 refine done_ (done_of HT_.out (by kernel_rfl)) ?_
                 try go_wp2
                 go_ret
                 exact ⟨gz, (bz6 HB.out GE388.out GE389.out GE393.out GE397.out GE421.out GE422.out)⟩
               ·replace c384 := Bool.eq_false_iff.mpr c384
                subst c384
                have H1 := hq H
                clear H
                have H := H1
                clear H1
                by_cases c398 : t423.toList = ([102, 117, 110] : List UInt8)
                ·rw [if_pos c398] at H
                 have c398b0 : (t423.toList == ([102, 117, 110] : List UInt8)) = true := beq_iff_eq.mpr c398
                 have c398b1 : (t423.toList != ([102, 117, 110] : List UInt8)) = false := bne_eq_false_iff_eq.mpr c398
                 clear c398
                 obtain rfl := Option.some.inj H
                 go_wp2
                 go_ret
                 exact ⟨gz, (bz6 HB.out GE388.out GE389.out GE393.out GE397.out GE421.out GE422.out)⟩
                ·rw [if_neg c398] at H
                 have c398b0 : (t423.toList == ([102, 117, 110] : List UInt8)) = false := beq_eq_false_iff_ne.mpr c398
                 have c398b1 : (t423.toList != ([102, 117, 110] : List UInt8)) = true := bne_iff_ne.mpr c398
                 by_cases c399 : t423.toList = ([110, 105, 108] : List UInt8)
                 ·rw [if_pos c399] at H
                  have c399b0 : (t423.toList == ([110, 105, 108] : List UInt8)) = true := beq_iff_eq.mpr c399
                  have c399b1 : (t423.toList != ([110, 105, 108] : List UInt8)) = false := bne_eq_false_iff_eq.mpr c399
                  clear c399
                  obtain rfl := Option.some.inj H
                  go_wp2
                  go_ret
                  exact ⟨gz, (bz6 HB.out GE388.out GE389.out GE393.out GE397.out GE421.out GE422.out)⟩
                 ·rw [if_neg c399] at H
                  have c399b0 : (t423.toList == ([110, 105, 108] : List UInt8)) = false := beq_eq_false_iff_ne.mpr c399
                  have c399b1 : (t423.toList != ([110, 105, 108] : List UInt8)) = true := bne_iff_ne.mpr c399
                  obtain rfl := Option.some.inj H
                  go_wp2
                  go_ret
                  exact ⟨gz, (bz6 HB.out GE388.out GE389.out GE393.out GE397.out GE421.out GE422.out)⟩
def laws_FnValues.Pure : Prop := ∀ (l0 : List Int), l0.length <= maxLen -> l0.length * 1 <= 140737488351232 -> (∀ x ∈ l0, (Lit.int .u8 x).wf = true) -> ∃ k, laws_FnValues.f k l0 = some true
end Go.Proofs.YtlhofeikcaejpaaDoor.PFnValues
