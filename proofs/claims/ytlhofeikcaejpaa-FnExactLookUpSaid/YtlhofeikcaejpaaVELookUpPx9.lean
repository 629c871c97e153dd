/- PFnExactLookUpx9, of the words and walks that the law FnExactLookUp needs; made by this session's program out of printed texts. -/

import Derived.Test.YtlhofeikcaejpaaVELookUpPx0
import Derived.Test.YtlhofeikcaejpaaVELookUpPx1
import Derived.Test.YtlhofeikcaejpaaVELookUpPx3
import Derived.Test.YtlhofeikcaejpaaVELookUpPx4
import Derived.Test.YtlhofeikcaejpaaVELookUpPx6
import Derived.Test.YtlhofeikcaejpaaVELookUpPx8
namespace Go.Proofs.Ytlhofeikcaejpaa.PFnExactLookUp
open Go.RowKit Go.Proofs.YtlhofeikcaejpaaW.PrintWords Go.Proofs.YtlhofeikcaejpaaW.PrintLast Go.Proofs.YtlhofeikcaejpaaW.PrintMore
attribute [local go_sem] max2_int min2_int max_two min_two max_three min_three max_four min_four
set_option linter.unusedVariables false
set_option linter.unusedSimpArgs false
def laws_FnExactLookUp.j0 : Nat -> Bool -> List (S106) -> List (S108) -> List (S111) -> List (S104) -> List (S97) -> List (S100) -> List (S102) -> List (S49) -> Option (Bool)
 | 0, _, _, _, _, _, _, _, _, _ => none
 | k + 1, x45, x273000, x273001, x273002, x273003, x306000, x306001, x306002, x306003 => if x45 = true then (some false) else ((laws_toHeap.f k x273000 x273001 x273002 x273003).bind fun bt313 => ((laws_eqHeap.f k x306000 x306001 x306002 x306003 bt313.1 bt313.2.1 bt313.2.2.1 bt313.2.2.2).bind fun t325 => (if t325 = true then (some true) else (some false))))
def laws_FnExactLookUp.f (k : Nat) (l0_0 : List (S106)) (l0_1 : List (S108)) (l0_2 : List (S111)) (l0_3 : List (S104)) (a1 : Int) (a2_0 : Int) (a2_1 : Int) : Option (Bool) := (laws_szHeap.f l0_0 l0_1 l0_2 l0_3 1048576).bind fun t274 => (if t274 < 0 then (some true) else ((laws_toHeap.f k l0_0 l0_1 l0_2 l0_3).bind fun bt275 => ((laws_toBind.f a2_0 a2_1).bind fun bt287 => ((spec_LookUp.f k bt275.1 bt275.2.1 bt275.2.2.1 bt275.2.2.2 a1 bt287.1 bt287.2).bind fun bt289 => ((laws_toHeap.f k l0_0 l0_1 l0_2 l0_3).bind fun bt293 => ((laws_toBind.f a2_0 a2_1).bind fun bt306 => ((impl_LookUp.f k bt293.1 bt293.2.1 bt293.2.2.1 bt293.2.2.2 a1 bt306.1 bt306.2).bind fun bt308 => ((laws_eqVal.f bt308.1 bt308.2.1 bt289.1 bt289.2.1).bind fun t312 => (if t312 = true then (laws_FnExactLookUp.j0 k (bt308.2.2 != bt289.2.2) l0_0 l0_1 l0_2 l0_3 bt293.1 bt293.2.1 bt293.2.2.1 bt293.2.2.2) else (laws_FnExactLookUp.j0 k true l0_0 l0_1 l0_2 l0_3 bt293.1 bt293.2.1 bt293.2.2.1 bt293.2.2.2))))))))))
theorem laws_FnExactLookUp.mono_l : ∀ k, (∀ y0 y1 y2 y3 y4 y5 y6 y7 y8, LeO (laws_FnExactLookUp.j0 k y0 y1 y2 y3 y4 y5 y6 y7 y8) (laws_FnExactLookUp.j0 (k + 1) y0 y1 y2 y3 y4 y5 y6 y7 y8))
 | 0 => fun _ _ _ _ _ _ _ _ _ r h => by simp [laws_FnExactLookUp.j0] at h
 | k + 1 => by
  have ih0 := laws_FnExactLookUp.mono_l k
  ·intro y0 y1 y2 y3 y4 y5 y6 y7 y8
   unfold laws_FnExactLookUp.j0
   with_reducible repeat' first | exact ih0 _ _ _ _ _ _ _ _ _ | exact impl_LookUp.mono _ _ _ _ _ _ _ _ | exact laws_eqHeap.mono _ _ _ _ _ _ _ _ _ | exact laws_toHeap.mono _ _ _ _ _ | exact spec_LookUp.mono _ _ _ _ _ _ _ _ | exact lrz _ | exact lnz _ | refine liz ?_ ?_ | refine lbz ?_ fun _ => ?_
theorem laws_FnExactLookUp.mono : ∀ a0 a1 a2 a3 a4 a5 a6 k, LeO (laws_FnExactLookUp.f k a0 a1 a2 a3 a4 a5 a6) (laws_FnExactLookUp.f (k + 1) a0 a1 a2 a3 a4 a5 a6) := by
 intro a0 a1 a2 a3 a4 a5 a6 k
 have ih0 := laws_FnExactLookUp.mono_l k
 unfold laws_FnExactLookUp.f
 with_reducible repeat' first | exact ih0 _ _ _ _ _ _ _ _ _ | exact impl_LookUp.mono _ _ _ _ _ _ _ _ | exact laws_eqHeap.mono _ _ _ _ _ _ _ _ _ | exact laws_toHeap.mono _ _ _ _ _ | exact spec_LookUp.mono _ _ _ _ _ _ _ _ | exact lrz _ | exact lnz _ | refine liz ?_ ?_ | refine lbz ?_ fun _ => ?_
def laws_FnExactLookUp.T5 : Bool × List (List Nat × List Nat) := (true, [([], []), ([0], [0]), ([], []), ([], []), ([3, 1], [3]), ([1, 2, 4, 4], [1, 2, 4]), ([5], [5]), ([6], [6]), ([6], [6]), ([], []), ([9, 7, 5, 0, 1, 2, 3, 4, 5, 6, 7, 9], [7, 9]), ([8, 10, 0, 1, 2, 3, 4, 5, 6, 7, 8, 9, 10], [8])])
def laws_FnExactLookUp.B5 : List Nat := [0, 1, 0, 0, 11, 31, 63, 127, 127, 0, 767, 2047]
theorem laws_FnExactLookUp.tab5 : rtab .any (opsOf Try.f5 5) = laws_FnExactLookUp.T5 := by kernel_rfl
theorem laws_FnExactLookUp.bits5 : waitsOk laws_FnExactLookUp.T5.2 laws_FnExactLookUp.B5 = true := by kernel_rfl
def laws_FnExactLookUp.T7 : Bool × List (List Nat × List Nat) := (true, [([], []), ([], []), ([], []), ([2], [2]), ([0, 1, 3, 3], [0, 1, 3]), ([4], [4]), ([5], [5]), ([5], [5]), ([], []), ([8, 6, 4, 0, 1, 2, 3, 4, 5, 6, 8], [6, 8]), ([7, 9, 0, 1, 2, 3, 4, 5, 6, 7, 8, 9], [7])])
def laws_FnExactLookUp.B7 : List Nat := [0, 0, 0, 4, 15, 31, 63, 63, 0, 383, 1023]
theorem laws_FnExactLookUp.tab7 : rtab .any (opsOf Try.f5 7) = laws_FnExactLookUp.T7 := by kernel_rfl
theorem laws_FnExactLookUp.bits7 : waitsOk laws_FnExactLookUp.T7.2 laws_FnExactLookUp.B7 = true := by kernel_rfl
set_option maxHeartbeats 8000000 in
set_option maxRecDepth 100000 in
theorem laws_FnExactLookUp.calls (k : Nat) (A0_0 : Option Addr) (c0_0 : Nat) (l0_0 : List (S106)) (A0_1 : Option Addr) (c0_1 : Nat) (l0_1 : List (S108)) (A0_2 : Option Addr) (c0_2 : Nat) (l0_2 : List (S111)) (A0_3 : Option Addr) (c0_3 : Nat) (l0_3 : List (S104)) (a1 : Int) (a2_0 : Int) (a2_1 : Int) (r : Bool) (w : World) (hr0_0 : Kd.C k106 w A0_0 l0_0.length l0_0) (hc0_0 : l0_0.length <= c0_0) (hr0_1 : Kd.C k108 w A0_1 l0_1.length l0_1) (hc0_1 : l0_1.length <= c0_1) (hr0_2 : Kd.C k111 w A0_2 l0_2.length l0_2) (hc0_2 : l0_2.length <= c0_2) (hr0_3 : Kd.C k104 w A0_3 l0_3.length l0_3) (hc0_3 : l0_3.length <= c0_3) (h : laws_FnExactLookUp.f k l0_0 l0_1 l0_2 l0_3 a1 a2_0 a2_1 = some r) :
  Calls Try.prog 5 #[.agg #[.slice A0_0 l0_0.length c0_0, .slice A0_1 l0_1.length c0_1, .slice A0_2 l0_2.length c0_2, .slice A0_3 l0_3.length c0_3], .int .i64 a1, .agg #[.int .i64 a2_0, .int .i64 a2_1]] w fun e w' => e = .returned (.bool r) /\ Below w.heap.size w w' := by
 have hu44 := Try.underlying44
 have hu46 := Try.underlying46
 have hu49 := Try.underlying49
 have hu57 := Try.underlying57
 have HR0_0 := Aside0.mk hr0_0
 have HC0_0 := Aside0.mk hc0_0
 clear hr0_0 hc0_0
 have HR0_1 := Aside0.mk hr0_1
 have HC0_1 := Aside0.mk hc0_1
 clear hr0_1 hc0_1
 have HR0_2 := Aside0.mk hr0_2
 have HC0_2 := Aside0.mk hc0_2
 clear hr0_2 hc0_2
 have HR0_3 := Aside0.mk hr0_3
 have HC0_3 := Aside0.mk hc0_3
 clear hr0_3 hc0_3
 have HB := Aside0.mk (Below.refl w.heap.size w)
 have H : ((laws_szHeap.f l0_0 l0_1 l0_2 l0_3 1048576).bind fun t274 => (if t274 < 0 then (some true) else ((laws_toHeap.f k l0_0 l0_1 l0_2 l0_3).bind fun bt275 => ((laws_toBind.f a2_0 a2_1).bind fun bt287 => ((spec_LookUp.f k bt275.1 bt275.2.1 bt275.2.2.1 bt275.2.2.2 a1 bt287.1 bt287.2).bind fun bt289 => ((laws_toHeap.f k l0_0 l0_1 l0_2 l0_3).bind fun bt293 => ((laws_toBind.f a2_0 a2_1).bind fun bt306 => ((impl_LookUp.f k bt293.1 bt293.2.1 bt293.2.2.1 bt293.2.2.2 a1 bt306.1 bt306.2).bind fun bt308 => ((laws_eqVal.f bt308.1 bt308.2.1 bt289.1 bt289.2.1).bind fun t312 => (if t312 = true then (laws_FnExactLookUp.j0 k (bt308.2.2 != bt289.2.2) l0_0 l0_1 l0_2 l0_3 bt293.1 bt293.2.1 bt293.2.2.1 bt293.2.2.2) else (laws_FnExactLookUp.j0 k true l0_0 l0_1 l0_2 l0_3 bt293.1 bt293.2.1 bt293.2.2.1 bt293.2.2.2))))))))))) = some r := h
 clear h
 replace H := bi H
 obtain ⟨t274, A40, H⟩ := H
 try dsimp only at H
 have A4 := Aside0.mk A40
 clear A40
 by_cases c5 : t274 < 0
 ·rw [if_pos c5] at H
  have c5b0 := decide_eq_true c5
  clear c5
  obtain rfl := Option.some.inj H
  go_enter Try.func5, Try.ntmps5
  go_wp2_with (first | ((with_reducible refine gate_dst (N := 3) rfl ?_); refine box_event ?hg (N := 3) ?hd (cs := #[.slice A0_0 l0_0.length c0_0, .slice A0_1 l0_1.length c0_1, .slice A0_2 l0_2.length c0_2, .slice A0_3 l0_3.length c0_3]) (t := 44) ?hr ?_; (case hd => rfl); (case hg => rfl); (case hr => exact vz); intro gb272 hg w6 hbox hb; have BK272 := Aside0.mk (hbox); have GW272 := Aside0.mk ((by rw [hg]; exact (below_size (bz0 HB.out)) : w.heap.size <= gb272)); have GE272 := Aside0.mk ((by rw [hg]; exact (below_size (bz0 HB.out)) : w.heap.size <= gb272)); replace HB := Aside0.mk (below_step (bz0 HB.out) hb); clear hb hbox hg) | ((with_reducible refine gate_dst (N := 5) rfl ?_); refine box_event ?hg (N := 5) ?hd (cs := #[.int .i64 a2_0, .int .i64 a2_1]) (t := 46) ?hr ?_; (case hd => rfl); (case hg => rfl); (case hr => exact vz); intro gb273 hg w7 hbox hb; have BK273 := Aside0.mk (hbox); have GW273 := Aside0.mk ((by rw [hg]; exact (below_size (bz1 HB.out GE272.out)) : w.heap.size <= gb273)); have GE273 := Aside0.mk ((by rw [hg]; exact (below_size (bz1 HB.out GE272.out)) : w.heap.size <= gb273)); replace HB := Aside0.mk (below_step (bz1 HB.out GE272.out) hb); have NB272_273 := Aside0.mk ((by rw [hg]; exact Nat.ne_of_lt (blk_lt (g := gb272) (o := .cells #[.slice A0_0 l0_0.length c0_0, .slice A0_1 l0_1.length c0_1, .slice A0_2 l0_2.length c0_2, .slice A0_3 l0_3.length c0_3] 44 (0, 0)) (kz BK272.out)) : gb272 ≠ gb273)); have NB273_272 := Aside0.mk ((by rw [hg]; exact Nat.ne_of_gt (blk_lt (g := gb272) (o := .cells #[.slice A0_0 l0_0.length c0_0, .slice A0_1 l0_1.length c0_1, .slice A0_2 l0_2.length c0_2, .slice A0_3 l0_3.length c0_3] 44 (0, 0)) (kz BK272.out)) : gb273 ≠ gb272)); replace BK272 := Aside0.mk (blk_below (kz BK272.out) hb); clear hb hbox hg; have hnb8 := NB272_273.out; have hnc8 := NB273_272.out; obtain ⟨hcz9_0, hcz9_1, hcz9_2, hcz9_3⟩ := cz4 BK272.out; obtain ⟨hfz9_0, hfz9_1, hfz9_2, hfz9_3⟩ := fz4 BK272.out) | ((with_reducible refine gate_callee (f := 18) rfl ?_); refine goesL_ (some 15) rfl rfl Try.func18 (by kernel_rfl) rfl #[.agg #[.slice A0_0 l0_0.length c0_0, .slice A0_1 l0_1.length c0_1, .slice A0_2 l0_2.length c0_2, .slice A0_3 l0_3.length c0_3], .int .i64 1048576] rfl lz ?_; (with_reducible refine (laws_szHeap.calls _ _ l0_0 _ _ l0_1 _ _ l0_2 _ _ l0_3 1048576 t274 _ ?side1 ?side2 ?side3 ?side4 ?side5 ?side6 ?side7 ?side8 A4.out).mono ?_); (case side1 => exact cz (Kd.C_below HR0_0.out HB.out)); (case side2 => exact HC0_0.out); (case side3 => exact cz (Kd.C_below HR0_1.out HB.out)); (case side4 => exact HC0_1.out); (case side5 => exact cz (Kd.C_below HR0_2.out HB.out)); (case side6 => exact HC0_2.out); (case side7 => exact cz (Kd.C_below HR0_3.out HB.out)); (case side8 => exact HC0_3.out); rintro e w10 ⟨rfl, hb⟩; refine ⟨_, rfl, ?_⟩; replace BK272 := Aside0.mk (blk_below (kz BK272.out) hb); replace BK273 := Aside0.mk (blk_below (kz BK273.out) hb); replace HB := Aside0.mk (below_step (bz2 HB.out GE272.out GE273.out) hb); (try clear hb); (try clear hi)))
  go_ret
  exact ⟨gz, (bz2 HB.out GE272.out GE273.out)⟩
 ·rw [if_neg c5] at H
  have c5b0 := decide_eq_false c5
  clear c5
  replace H := bi H
  obtain ⟨⟨t275, t278, t281, t284⟩, A110, H⟩ := H
  try dsimp only at H
  have A11 := Aside0.mk A110
  clear A110
  replace H := bi H
  obtain ⟨⟨t287, t288⟩, A120, H⟩ := H
  try dsimp only at H
  have A12 := Aside0.mk A120
  clear A120
  replace H := bi H
  obtain ⟨⟨t289, t290, t291⟩, A130, H⟩ := H
  try dsimp only at H
  have A13 := Aside0.mk A130
  clear A130
  replace H := bi H
  obtain ⟨⟨t293, t296, t299, t302⟩, A140, H⟩ := H
  try dsimp only at H
  have A14 := Aside0.mk A140
  clear A140
  replace H := bi H
  obtain ⟨⟨t306, t307⟩, A150, H⟩ := H
  try dsimp only at H
  have A15 := Aside0.mk A150
  clear A150
  replace H := bi H
  obtain ⟨⟨t308, t309, t310⟩, A160, H⟩ := H
  try dsimp only at H
  have A16 := Aside0.mk A160
  clear A160
  have HC17 := Aside0.mk H
  clear H
  go_enter Try.func5, Try.ntmps5
  try go_wp2_with (first | ((with_reducible refine gate_dst (N := 3) rfl ?_); refine box_event ?hg (N := 3) ?hd (cs := #[.slice A0_0 l0_0.length c0_0, .slice A0_1 l0_1.length c0_1, .slice A0_2 l0_2.length c0_2, .slice A0_3 l0_3.length c0_3]) (t := 44) ?hr ?_; (case hd => rfl); (case hg => rfl); (case hr => exact vz); intro gb272 hg w18 hbox hb; have BK272 := Aside0.mk (hbox); have GW272 := Aside0.mk ((by rw [hg]; exact (below_size (bz0 HB.out)) : w.heap.size <= gb272)); have GE272 := Aside0.mk ((by rw [hg]; exact (below_size (bz0 HB.out)) : w.heap.size <= gb272)); replace HB := Aside0.mk (below_step (bz0 HB.out) hb); clear hb hbox hg) | ((with_reducible refine gate_dst (N := 5) rfl ?_); refine box_event ?hg (N := 5) ?hd (cs := #[.int .i64 a2_0, .int .i64 a2_1]) (t := 46) ?hr ?_; (case hd => rfl); (case hg => rfl); (case hr => exact vz); intro gb273 hg w19 hbox hb; have BK273 := Aside0.mk (hbox); have GW273 := Aside0.mk ((by rw [hg]; exact (below_size (bz1 HB.out GE272.out)) : w.heap.size <= gb273)); have GE273 := Aside0.mk ((by rw [hg]; exact (below_size (bz1 HB.out GE272.out)) : w.heap.size <= gb273)); replace HB := Aside0.mk (below_step (bz1 HB.out GE272.out) hb); have NB272_273 := Aside0.mk ((by rw [hg]; exact Nat.ne_of_lt (blk_lt (g := gb272) (o := .cells #[.slice A0_0 l0_0.length c0_0, .slice A0_1 l0_1.length c0_1, .slice A0_2 l0_2.length c0_2, .slice A0_3 l0_3.length c0_3] 44 (0, 0)) (kz BK272.out)) : gb272 ≠ gb273)); have NB273_272 := Aside0.mk ((by rw [hg]; exact Nat.ne_of_gt (blk_lt (g := gb272) (o := .cells #[.slice A0_0 l0_0.length c0_0, .slice A0_1 l0_1.length c0_1, .slice A0_2 l0_2.length c0_2, .slice A0_3 l0_3.length c0_3] 44 (0, 0)) (kz BK272.out)) : gb273 ≠ gb272)); replace BK272 := Aside0.mk (blk_below (kz BK272.out) hb); clear hb hbox hg; have hnb20 := NB272_273.out; have hnc20 := NB273_272.out; obtain ⟨hcz21_0, hcz21_1, hcz21_2, hcz21_3⟩ := cz4 BK272.out; obtain ⟨hfz21_0, hfz21_1, hfz21_2, hfz21_3⟩ := fz4 BK272.out) | ((with_reducible refine gate_callee (f := 18) rfl ?_); refine goesL_ (some 15) rfl rfl Try.func18 (by kernel_rfl) rfl #[.agg #[.slice A0_0 l0_0.length c0_0, .slice A0_1 l0_1.length c0_1, .slice A0_2 l0_2.length c0_2, .slice A0_3 l0_3.length c0_3], .int .i64 1048576] rfl lz ?_; (with_reducible refine (laws_szHeap.calls _ _ l0_0 _ _ l0_1 _ _ l0_2 _ _ l0_3 1048576 t274 _ ?side1 ?side2 ?side3 ?side4 ?side5 ?side6 ?side7 ?side8 A4.out).mono ?_); (case side1 => exact cz (Kd.C_below HR0_0.out HB.out)); (case side2 => exact HC0_0.out); (case side3 => exact cz (Kd.C_below HR0_1.out HB.out)); (case side4 => exact HC0_1.out); (case side5 => exact cz (Kd.C_below HR0_2.out HB.out)); (case side6 => exact HC0_2.out); (case side7 => exact cz (Kd.C_below HR0_3.out HB.out)); (case side8 => exact HC0_3.out); rintro e w22 ⟨rfl, hb⟩; refine ⟨_, rfl, ?_⟩; replace BK272 := Aside0.mk (blk_below (kz BK272.out) hb); replace BK273 := Aside0.mk (blk_below (kz BK273.out) hb); replace HB := Aside0.mk (below_step (bz2 HB.out GE272.out GE273.out) hb); (try clear hb); (try clear hi)))
  have n0_ := Aside0.mk (blk_drew BK272.out)
  have n1_ := Aside0.mk (blk_drew BK273.out)
  have n2_ := Aside0.mk (below_drew1 HB.out)
  clear BK272
  clear BK273
  clear HB
  have BK272 := n0_
  have BK273 := n1_
  have HB := n2_
  clear n0_ n1_ n2_
  refine start_ (n := 12) (S := fun w' => w'.cell? ⟨gb272, 0, none⟩ = some (.slice A0_0 l0_0.length c0_0) /\ w'.cell? ⟨gb272, 1, none⟩ = some (.slice A0_1 l0_1.length c0_1) /\ w'.cell? ⟨gb272, 2, none⟩ = some (.slice A0_2 l0_2.length c0_2) /\ w'.cell? ⟨gb272, 3, none⟩ = some (.slice A0_3 l0_3.length c0_3) /\ w'.cell? ⟨gb273, 0, none⟩ = some (.int .i64 a2_0) /\ w'.cell? ⟨gb273, 1, none⟩ = some (.int .i64 a2_1)) (ds := []) #[ff, ff, ff, ff, ff, ff, ff, ff, ff, ff, ff, ff] (by kernel_rfl) rfl rfl ⟨(blk_cell BK272.out 0).trans rfl, (blk_cell BK272.out 1).trans rfl, (blk_cell BK272.out 2).trans rfl, (blk_cell BK272.out 3).trans rfl, (blk_cell BK273.out 0).trans rfl, (blk_cell BK273.out 1).trans rfl⟩ (fun hHeld => ?_); refine with_tabW laws_FnExactLookUp.tab5 laws_FnExactLookUp.bits5 (fun HT_ HW_ => ?_)
  generalize w22.drew = w23 at BK272 BK273 HB hHeld ⊢
  refine pure_ (i := 2) (N := some 21) (v := ?_) (a' := ?_) #[ff, ff, tt, ff, ff, ff, ff, ff, ff, ff, ff, ff] rfl rfl (any_of HT_.out (by kernel_rfl)) (fun _ _ _ h => h) (Or.inl ⟨by rfl, ?_⟩) ?_ ?_
  rotate_left
  ·intro w'
   go_simp
   with_reducible rfl
  rotate_left
  ·simp only [Act.put, sz1, sz2, sz3, i64_w, i32_w]
   rfl
  refine take_ (i := 0) (N := some 19) (v := ?_) (a' := ?_) #[tt, ff, tt, ff, ff, ff, ff, ff, ff, ff, ff, ff] rfl rfl (take_ofW HT_.out HW_.out (by kernel_rfl)) (fun _ _ _ h => h) (Or.inl ⟨by rfl, ?_⟩) hHeld ?_ ?_
  rotate_left
  ·rintro w' ⟨s0, s1, s2, s3, s4, s5⟩
   go_simp
   with_reducible rfl
  rotate_left
  ·simp only [Act.put, sz1, sz2, sz3, i64_w, i32_w]
   rfl
  refine take_ (i := 3) (N := some 22) (v := ?_) (a' := ?_) #[tt, ff, tt, tt, ff, ff, ff, ff, ff, ff, ff, ff] rfl rfl (take_ofW HT_.out HW_.out (by kernel_rfl)) (fun _ _ _ h => h) (Or.inl ⟨by rfl, ?_⟩) hHeld ?_ ?_
  rotate_left
  ·rintro w' ⟨s0, s1, s2, s3, s4, s5⟩
   go_simp
   with_reducible rfl
  rotate_left
  ·simp only [Act.put, sz1, sz2, sz3, i64_w, i32_w]
   rfl
  refine join_ (σ := Value × Value × Value × Value × Nat) 2 #[true, true, true, true, true, true, true, true, true, true, false, false] (fun s_ => [(20, .agg #[s_.1, s_.2.1, s_.2.2.1, s_.2.2.2.1]), (23, .agg #[.int .i64 t287, .int .i64 t288]), (24, .tuple #[.agg #[.int .i64 t289, .int .i64 t290], .bool t291]), (8, .pointer (some ⟨s_.2.2.2.2, 0, none⟩)), (18, .tuple #[.agg #[.int .i64 t289, .int .i64 t290], .bool t291]), (25, .agg #[.int .i64 t289, .int .i64 t290]), (26, .bool t291)]) (fun s_ w' => (w'.cell? ⟨gb272, 0, none⟩ = some (.slice A0_0 l0_0.length c0_0) /\ w'.cell? ⟨gb272, 1, none⟩ = some (.slice A0_1 l0_1.length c0_1) /\ w'.cell? ⟨gb272, 2, none⟩ = some (.slice A0_2 l0_2.length c0_2) /\ w'.cell? ⟨gb272, 3, none⟩ = some (.slice A0_3 l0_3.length c0_3) /\ w'.cell? ⟨gb273, 0, none⟩ = some (.int .i64 a2_0) /\ w'.cell? ⟨gb273, 1, none⟩ = some (.int .i64 a2_1)) /\ (Kd.R k97 97 w' w.heap.size (fun _ => True) s_.1 t275) /\ (Kd.R k100 100 w' w.heap.size (fun _ => True) s_.2.1 t278) /\ (Kd.R k102 102 w' w.heap.size (fun _ => True) s_.2.2.1 t281) /\ (Kd.R k49 49 w' w.heap.size (fun k_ => k_ ≠ s_.2.2.2.2) s_.2.2.2.1 t284) /\ (w'.heap[gb272]? = some (.cells #[.slice A0_0 l0_0.length c0_0, .slice A0_1 l0_1.length c0_1, .slice A0_2 l0_2.length c0_2, .slice A0_3 l0_3.length c0_3] 44 (0, 0))) /\ (w'.heap[gb273]? = some (.cells #[.int .i64 a2_0, .int .i64 a2_1] 46 (0, 0))) /\ (w'.heap[s_.2.2.2.2]? = some (.cells #[.int .i64 0, .int .i64 0] 49 (0, 0))) /\ (w.heap.size <= s_.2.2.2.2) /\ (w.heap.size <= s_.2.2.2.2) /\ (gb272 ≠ s_.2.2.2.2) /\ (s_.2.2.2.2 ≠ gb272) /\ (gb273 ≠ s_.2.2.2.2) /\ (s_.2.2.2.2 ≠ gb273) /\ (Below w.heap.size w w')) ?_ ?_
  rotate_left
  ·intro hCont
   refine two_ (i := 1) (j := 9) (Ni := some 20) (Nj := some 8) #[true, true, true, true, false, false, false, false, false, false, false, false] #[true, false, true, true, false, false, false, false, false, true, false, false] rfl rfl rfl rfl (two_of HT_.out (by kernel_rfl)) (by decide) (by decide) (fun K hK => ?_) (fun K hK => ?_)
   ·skip
    refine goes_ Try.func20 (by kernel_rfl) rfl #[.agg #[.slice A0_0 l0_0.length c0_0, .slice A0_1 l0_1.length c0_1, .slice A0_2 l0_2.length c0_2, .slice A0_3 l0_3.length c0_3]] (by rfl) rfl rfl lz ?_
    with_reducible refine (laws_toHeap.calls k _ _ l0_0 _ _ l0_1 _ _ l0_2 _ _ l0_3 t275 t278 t281 t284 _ ?side1 ?side2 ?side3 ?side4 ?side5 ?side6 ?side7 ?side8 A11.out).mono ?_
    (case side1 => exact cz (Kd.C_below HR0_0.out HB.out))
    (case side2 => exact HC0_0.out)
    (case side3 => exact cz (Kd.C_below HR0_1.out HB.out))
    (case side4 => exact HC0_1.out)
    (case side5 => exact cz (Kd.C_below HR0_2.out HB.out))
    (case side6 => exact HC0_2.out)
    (case side7 => exact cz (Kd.C_below HR0_3.out HB.out))
    (case side8 => exact HC0_3.out)
    rintro e w24 ⟨v276, v279, v282, v285, rfl, ho0, ho1, ho2, ho3, hb⟩
    refine ⟨_, rfl, ?_⟩
    have n0_ := Aside0.mk (Kd.R_lower ho0 (below_size (bz2 HB.out GE272.out GE273.out)))
    have n1_ := Aside0.mk (Kd.R_lower ho1 (below_size (bz2 HB.out GE272.out GE273.out)))
    have n2_ := Aside0.mk (Kd.R_lower ho2 (below_size (bz2 HB.out GE272.out GE273.out)))
    have n3_ := Aside0.mk (Kd.R_lower ho3 (below_size (bz2 HB.out GE272.out GE273.out)))
    have n4_ := Aside0.mk (blk_below (kz BK272.out) hb)
    have n5_ := Aside0.mk (blk_below (kz BK273.out) hb)
    have n6_ := Aside0.mk (below_step (bz2 HB.out GE272.out GE273.out) hb)
    clear BK272
    clear BK273
    clear HB
    have HO277 := n0_
    have HO280 := n1_
    have HO283 := n2_
    have HO286 := n3_
    have BK272 := n4_
    have BK273 := n5_
    have HB := n6_
    clear n0_ n1_ n2_ n3_ n4_ n5_ n6_
    (try clear hb)
    (try clear hb2)
    (try clear hk)
    (try clear hi)
    (try clear ho0)
    (try clear ho1)
    (try clear ho2)
    (try clear ho3)
    refine hK.out _ _ ⟨(blk_cell BK272.out 0).trans rfl, (blk_cell BK272.out 1).trans rfl, (blk_cell BK272.out 2).trans rfl, (blk_cell BK272.out 3).trans rfl, (blk_cell BK273.out 0).trans rfl, (blk_cell BK273.out 1).trans rfl⟩ (fun hHeld => ?_)
    clear hK K
    refine norm_ (a' := ?_) ?_ ?_
    rotate_left
    ·show Act.put _ (some 20) _ = _
     simp only [Act.put, sz1, sz2, sz3, i64_w, i32_w]
     rfl
    refine two_ (i := 4) (j := 9) (Ni := some 23) (Nj := some 8) #[true, true, true, true, true, false, false, false, false, false, false, false] #[true, true, true, true, false, false, false, false, false, true, false, false] rfl rfl rfl rfl (two_of HT_.out (by kernel_rfl)) (by decide) (by decide) (fun K hK => ?_) (fun K hK => ?_)
    ·skip
     refine goes_ Try.func21 (by kernel_rfl) rfl #[.agg #[.int .i64 a2_0, .int .i64 a2_1]] (by rfl) rfl rfl lz ?_
     with_reducible refine (laws_toBind.calls a2_0 a2_1 t287 t288 _ A12.out).mono ?_
     rintro e w25 ⟨rfl, hb⟩
     refine ⟨_, rfl, ?_⟩
     have n0_ := qz HO277 hb
     have n1_ := qz HO280 hb
     have n2_ := qz HO283 hb
     have n3_ := qz HO286 hb
     have n4_ := Aside0.mk (blk_below (kz BK272.out) hb)
     have n5_ := Aside0.mk (blk_below (kz BK273.out) hb)
     have n6_ := Aside0.mk (below_step (bz2 HB.out GE272.out GE273.out) hb)
     clear HO277
     clear HO280
     clear HO283
     clear HO286
     clear BK272
     clear BK273
     clear HB
     have HO277 := n0_
     have HO280 := n1_
     have HO283 := n2_
     have HO286 := n3_
     have BK272 := n4_
     have BK273 := n5_
     have HB := n6_
     clear n0_ n1_ n2_ n3_ n4_ n5_ n6_
     (try clear hb)
     (try clear hb2)
     (try clear hk)
     (try clear hi)
     obtain ⟨Ao26, co26, eo26⟩ := Kd.R_slice HO277.out
     (first | subst eo26 | (injection eo26 with f1_ f2_ f3_; have f4_ := f1_.symm; have f5_ := f3_.symm; clear f1_ f2_ f3_; subst f4_; subst f5_))
     obtain ⟨Ao27, co27, eo27⟩ := Kd.R_slice HO280.out
     (first | subst eo27 | (injection eo27 with f1_ f2_ f3_; have f4_ := f1_.symm; have f5_ := f3_.symm; clear f1_ f2_ f3_; subst f4_; subst f5_))
     obtain ⟨Ao28, co28, eo28⟩ := Kd.R_slice HO283.out
     (first | subst eo28 | (injection eo28 with f1_ f2_ f3_; have f4_ := f1_.symm; have f5_ := f3_.symm; clear f1_ f2_ f3_; subst f4_; subst f5_))
     obtain ⟨Ao29, co29, eo29⟩ := Kd.R_slice HO286.out
     (first | subst eo29 | (injection eo29 with f1_ f2_ f3_; have f4_ := f1_.symm; have f5_ := f3_.symm; clear f1_ f2_ f3_; subst f4_; subst f5_))
     refine hK.out _ _ ⟨(blk_cell BK272.out 0).trans rfl, (blk_cell BK272.out 1).trans rfl, (blk_cell BK272.out 2).trans rfl, (blk_cell BK272.out 3).trans rfl, (blk_cell BK273.out 0).trans rfl, (blk_cell BK273.out 1).trans rfl⟩ (fun hHeld => ?_)
     clear hK K
     refine norm_ (a' := ?_) ?_ ?_
     rotate_left
     ·show Act.put _ (some 23) _ = _
      simp only [Act.put, sz1, sz2, sz3, i64_w, i32_w]
      rfl
     refine two_ (i := 5) (j := 9) (Ni := some 24) (Nj := some 8) #[true, true, true, true, true, true, false, false, false, false, false, false] #[true, true, true, true, true, false, false, false, false, true, false, false] rfl rfl rfl rfl (two_of HT_.out (by kernel_rfl)) (by decide) (by decide) (fun K hK => ?_) (fun K hK => ?_)
     ·skip
      refine goes_ Try.func19 (by kernel_rfl) rfl #[.agg #[.slice Ao26 t275.length co26, .slice Ao27 t278.length co27, .slice Ao28 t281.length co28, .slice Ao29 t284.length co29], .int .i64 a1, .agg #[.int .i64 t287, .int .i64 t288]] (by rfl) rfl rfl lz ?_
      with_reducible refine (spec_LookUp.calls k _ _ t275 _ _ t278 _ _ t281 _ _ t284 a1 t287 t288 t289 t290 t291 _ ?side1 ?side2 ?side3 ?side4 ?side5 ?side6 ?side7 ?side8 A13.out).mono ?_
      (case side1 => exact cz (Kd.R_reads' HO277.out).2.2)
      (case side2 => exact (Kd.R_reads' HO277.out).2.1)
      (case side3 => exact cz (Kd.R_reads' HO280.out).2.2)
      (case side4 => exact (Kd.R_reads' HO280.out).2.1)
      (case side5 => exact cz (Kd.R_reads' HO283.out).2.2)
      (case side6 => exact (Kd.R_reads' HO283.out).2.1)
      (case side7 => exact cz (Kd.R_reads' HO286.out).2.2)
      (case side8 => exact (Kd.R_reads' HO286.out).2.1)
      rintro e w30 ⟨rfl, hb⟩
      refine ⟨_, rfl, ?_⟩
      have n0_ := qz HO277 hb
      have n1_ := qz HO280 hb
      have n2_ := qz HO283 hb
      have n3_ := qz HO286 hb
      have n4_ := Aside0.mk (blk_below (kz BK272.out) hb)
      have n5_ := Aside0.mk (blk_below (kz BK273.out) hb)
      have n6_ := Aside0.mk (below_step (bz2 HB.out GE272.out GE273.out) hb)
      clear HO277
      clear HO280
      clear HO283
      clear HO286
      clear BK272
      clear BK273
      clear HB
      have HO277 := n0_
      have HO280 := n1_
      have HO283 := n2_
      have HO286 := n3_
      have BK272 := n4_
      have BK273 := n5_
      have HB := n6_
      clear n0_ n1_ n2_ n3_ n4_ n5_ n6_
      (try clear hb)
      (try clear hb2)
      (try clear hk)
      (try clear hi)
      refine hK.out _ _ ⟨(blk_cell BK272.out 0).trans rfl, (blk_cell BK272.out 1).trans rfl, (blk_cell BK272.out 2).trans rfl, (blk_cell BK272.out 3).trans rfl, (blk_cell BK273.out 0).trans rfl, (blk_cell BK273.out 1).trans rfl⟩ (fun hHeld => ?_)
      clear hK K
      refine norm_ (a' := ?_) ?_ ?_
      rotate_left
      ·show Act.put _ (some 24) _ = _
       simp only [Act.put, sz1, sz2, sz3, i64_w, i32_w]
       rfl
      refine pure_ (i := 6) (N := some 18) (v := ?_) (a' := ?_) #[tt, tt, tt, tt, tt, tt, tt, ff, ff, ff, ff, ff] rfl rfl (any_of HT_.out (by kernel_rfl)) (fun _ _ _ h => h) (Or.inl ⟨by rfl, ?_⟩) ?_ ?_
      rotate_left
      ·intro w'
       go_simp
       with_reducible rfl
      rotate_left
      ·simp only [Act.put, sz1, sz2, sz3, i64_w, i32_w]
       rfl
      refine pure_ (i := 7) (N := some 25) (v := ?_) (a' := ?_) #[tt, tt, tt, tt, tt, tt, tt, tt, ff, ff, ff, ff] rfl rfl (any_of HT_.out (by kernel_rfl)) (fun _ _ _ h => h) (Or.inl ⟨by rfl, ?_⟩) ?_ ?_
      rotate_left
      ·intro w'
       go_simp
       with_reducible rfl
      rotate_left
      ·simp only [Act.put, sz1, sz2, sz3, i64_w, i32_w]
       rfl
      refine pure_ (i := 8) (N := some 26) (v := ?_) (a' := ?_) #[tt, tt, tt, tt, tt, tt, tt, tt, tt, ff, ff, ff] rfl rfl (any_of HT_.out (by kernel_rfl)) (fun _ _ _ h => h) (Or.inl ⟨by rfl, ?_⟩) ?_ ?_
      rotate_left
      ·intro w'
       go_simp
       with_reducible rfl
      rotate_left
      ·simp only [Act.put, sz1, sz2, sz3, i64_w, i32_w]
       rfl
      refine one_ (i := 9) (N := some 8) #[tt, tt, tt, tt, tt, tt, tt, tt, tt, tt, ff, ff] rfl rfl (one_of HT_.out (by kernel_rfl)) (by decide) (fun K hK => ?_)
      refine box_step ?hg (N := 8) ?hd (cs := #[.int .i64 0, .int .i64 0]) (t := 49) ?hr ?_; (case hd => rfl); (case hg => rfl); (case hr => exact vz)
      intro gb292 hg w31 hbox hb
      have n0_ := qz HO277 hb
      have n1_ := qz HO280 hb
      have n2_ := qz HO283 hb
      have n3_ := Aside0.mk (Kd.R_below (Kd.R_elderB (rz HO286.out) gb292 (Nat.le_of_eq hg.symm)) hb)
      have n4_ := Aside0.mk (blk_below (kz BK272.out) hb)
      have n5_ := Aside0.mk (blk_below (kz BK273.out) hb)
      have n6_ := Aside0.mk (below_step (bz2 HB.out GE272.out GE273.out) hb)
      have n7_ := Aside0.mk (hbox)
      have n8_ := Aside0.mk ((by rw [hg]; exact (below_size (bz2 HB.out GE272.out GE273.out)) : w.heap.size <= gb292))
      have n9_ := Aside0.mk ((by rw [hg]; exact (below_size (bz2 HB.out GE272.out GE273.out)) : w.heap.size <= gb292))
      have n10_ := Aside0.mk ((by rw [hg]; exact Nat.ne_of_lt (blk_lt (g := gb272) (o := .cells #[.slice A0_0 l0_0.length c0_0, .slice A0_1 l0_1.length c0_1, .slice A0_2 l0_2.length c0_2, .slice A0_3 l0_3.length c0_3] 44 (0, 0)) (kz BK272.out)) : gb272 ≠ gb292))
      have n11_ := Aside0.mk ((by rw [hg]; exact Nat.ne_of_gt (blk_lt (g := gb272) (o := .cells #[.slice A0_0 l0_0.length c0_0, .slice A0_1 l0_1.length c0_1, .slice A0_2 l0_2.length c0_2, .slice A0_3 l0_3.length c0_3] 44 (0, 0)) (kz BK272.out)) : gb292 ≠ gb272))
      have n12_ := Aside0.mk ((by rw [hg]; exact Nat.ne_of_lt (blk_lt (g := gb273) (o := .cells #[.int .i64 a2_0, .int .i64 a2_1] 46 (0, 0)) (kz BK273.out)) : gb273 ≠ gb292))
      have n13_ := Aside0.mk ((by rw [hg]; exact Nat.ne_of_gt (blk_lt (g := gb273) (o := .cells #[.int .i64 a2_0, .int .i64 a2_1] 46 (0, 0)) (kz BK273.out)) : gb292 ≠ gb273))
      clear HO277
      clear HO280
      clear HO283
      clear HO286
      clear BK272
      clear BK273
      clear HB
      have HO277 := n0_
      have HO280 := n1_
      have HO283 := n2_
      have HO286 := n3_
      have BK272 := n4_
      have BK273 := n5_
      have HB := n6_
      have BK292 := n7_
      have GW292 := n8_
      have GE292 := n9_
      have NB272_292 := n10_
      have NB292_272 := n11_
      have NB273_292 := n12_
      have NB292_273 := n13_
      clear n0_ n1_ n2_ n3_ n4_ n5_ n6_ n7_ n8_ n9_ n10_ n11_ n12_ n13_
      clear hb hbox hg
      refine hK.out _ _ ⟨(blk_cell BK272.out 0).trans rfl, (blk_cell BK272.out 1).trans rfl, (blk_cell BK272.out 2).trans rfl, (blk_cell BK272.out 3).trans rfl, (blk_cell BK273.out 0).trans rfl, (blk_cell BK273.out 1).trans rfl⟩ (fun hHeld => ?_)
      clear hK K
      refine norm_ (a' := ?_) ?_ ?_
      rotate_left
      ·show Act.put _ (some 8) _ = _
       simp only [Act.put, sz1, sz2, sz3, i64_w, i32_w]
       rfl
      exact norm_ (by simp only [putAll, Act.put, List.setIfInBounds_toArray, List.set_cons_zero, List.set_cons_succ]) (hCont (.slice Ao26 t275.length co26, .slice Ao27 t278.length co27, .slice Ao28 t281.length co28, .slice Ao29 t284.length co29, gb292) _ ⟨hHeld, (rz HO277.out), (rz HO280.out), (rz HO283.out), (by refine rq ?_; exact Kd.R_mono HO286.out (fun _ hk => hk.2)), (kz BK272.out), (kz BK273.out), (kz BK292.out), GW292.out, GE292.out, NB272_292.out, NB292_272.out, NB273_292.out, NB292_273.out, (bz3 HB.out GE272.out GE273.out GE292.out)⟩)
     ·skip
      refine box_step ?hg (N := 8) ?hd (cs := #[.int .i64 0, .int .i64 0]) (t := 49) ?hr ?_; (case hd => rfl); (case hg => rfl); (case hr => exact vz)
      intro gb292 hg w26 hbox hb
      have n0_ := qz HO277 hb
      have n1_ := qz HO280 hb
      have n2_ := qz HO283 hb
      have n3_ := Aside0.mk (Kd.R_below (Kd.R_elderB (rz HO286.out) gb292 (Nat.le_of_eq hg.symm)) hb)
      have n4_ := Aside0.mk (blk_below (kz BK272.out) hb)
      have n5_ := Aside0.mk (blk_below (kz BK273.out) hb)
      have n6_ := Aside0.mk (below_step (bz2 HB.out GE272.out GE273.out) hb)
      have n7_ := Aside0.mk (hbox)
      have n8_ := Aside0.mk ((by rw [hg]; exact (below_size (bz2 HB.out GE272.out GE273.out)) : w.heap.size <= gb292))
      have n9_ := Aside0.mk ((by rw [hg]; exact (below_size (bz2 HB.out GE272.out GE273.out)) : w.heap.size <= gb292))
      have n10_ := Aside0.mk ((by rw [hg]; exact Nat.ne_of_lt (blk_lt (g := gb272) (o := .cells #[.slice A0_0 l0_0.length c0_0, .slice A0_1 l0_1.length c0_1, .slice A0_2 l0_2.length c0_2, .slice A0_3 l0_3.length c0_3] 44 (0, 0)) (kz BK272.out)) : gb272 ≠ gb292))
      have n11_ := Aside0.mk ((by rw [hg]; exact Nat.ne_of_gt (blk_lt (g := gb272) (o := .cells #[.slice A0_0 l0_0.length c0_0, .slice A0_1 l0_1.length c0_1, .slice A0_2 l0_2.length c0_2, .slice A0_3 l0_3.length c0_3] 44 (0, 0)) (kz BK272.out)) : gb292 ≠ gb272))
      have n12_ := Aside0.mk ((by rw [hg]; exact Nat.ne_of_lt (blk_lt (g := gb273) (o := .cells #[.int .i64 a2_0, .int .i64 a2_1] 46 (0, 0)) (kz BK273.out)) : gb273 ≠ gb292))
      have n13_ := Aside0.mk ((by rw [hg]; exact Nat.ne_of_gt (blk_lt (g := gb273) (o := .cells #[.int .i64 a2_0, .int .i64 a2_1] 46 (0, 0)) (kz BK273.out)) : gb292 ≠ gb273))
      clear HO277
      clear HO280
      clear HO283
      clear HO286
      clear BK272
      clear BK273
      clear HB
      have HO277 := n0_
      have HO280 := n1_
      have HO283 := n2_
      have HO286 := n3_
      have BK272 := n4_
      have BK273 := n5_
      have HB := n6_
      have BK292 := n7_
      have GW292 := n8_
      have GE292 := n9_
      have NB272_292 := n10_
      have NB292_272 := n11_
      have NB273_292 := n12_
      have NB292_273 := n13_
      clear n0_ n1_ n2_ n3_ n4_ n5_ n6_ n7_ n8_ n9_ n10_ n11_ n12_ n13_
      clear hb hbox hg
      obtain ⟨Ao27, co27, eo27⟩ := Kd.R_slice HO277.out
      (first | subst eo27 | (injection eo27 with f1_ f2_ f3_; have f4_ := f1_.symm; have f5_ := f3_.symm; clear f1_ f2_ f3_; subst f4_; subst f5_))
      obtain ⟨Ao28, co28, eo28⟩ := Kd.R_slice HO280.out
      (first | subst eo28 | (injection eo28 with f1_ f2_ f3_; have f4_ := f1_.symm; have f5_ := f3_.symm; clear f1_ f2_ f3_; subst f4_; subst f5_))
      obtain ⟨Ao29, co29, eo29⟩ := Kd.R_slice HO283.out
      (first | subst eo29 | (injection eo29 with f1_ f2_ f3_; have f4_ := f1_.symm; have f5_ := f3_.symm; clear f1_ f2_ f3_; subst f4_; subst f5_))
      obtain ⟨Ao30, co30, eo30⟩ := Kd.R_slice HO286.out
      (first | subst eo30 | (injection eo30 with f1_ f2_ f3_; have f4_ := f1_.symm; have f5_ := f3_.symm; clear f1_ f2_ f3_; subst f4_; subst f5_))
      refine hK.out _ _ ⟨(blk_cell BK272.out 0).trans rfl, (blk_cell BK272.out 1).trans rfl, (blk_cell BK272.out 2).trans rfl, (blk_cell BK272.out 3).trans rfl, (blk_cell BK273.out 0).trans rfl, (blk_cell BK273.out 1).trans rfl⟩ (fun hHeld => ?_)
      clear hK K
      refine norm_ (a' := ?_) ?_ ?_
      rotate_left
      ·show Act.put _ (some 8) _ = _
       simp only [Act.put, sz1, sz2, sz3, i64_w, i32_w]
       rfl
      refine one_ (i := 5) (N := some 24) #[tt, tt, tt, tt, tt, tt, ff, ff, ff, tt, ff, ff] rfl rfl (one_of HT_.out (by kernel_rfl)) (by decide) (fun K hK => ?_)
      refine goes_ Try.func19 (by kernel_rfl) rfl #[.agg #[.slice Ao27 t275.length co27, .slice Ao28 t278.length co28, .slice Ao29 t281.length co29, .slice Ao30 t284.length co30], .int .i64 a1, .agg #[.int .i64 t287, .int .i64 t288]] (by rfl) rfl rfl lz ?_
      with_reducible refine (spec_LookUp.calls k _ _ t275 _ _ t278 _ _ t281 _ _ t284 a1 t287 t288 t289 t290 t291 _ ?side1 ?side2 ?side3 ?side4 ?side5 ?side6 ?side7 ?side8 A13.out).mono ?_
      (case side1 => exact cz (Kd.R_reads' HO277.out).2.2)
      (case side2 => exact (Kd.R_reads' HO277.out).2.1)
      (case side3 => exact cz (Kd.R_reads' HO280.out).2.2)
      (case side4 => exact (Kd.R_reads' HO280.out).2.1)
      (case side5 => exact cz (Kd.R_reads' HO283.out).2.2)
      (case side6 => exact (Kd.R_reads' HO283.out).2.1)
      (case side7 => exact cz (Kd.R_reads' HO286.out).2.2)
      (case side8 => exact (Kd.R_reads' HO286.out).2.1)
      rintro e w31 ⟨rfl, hb⟩
      refine ⟨_, rfl, ?_⟩
      have n0_ := qz HO277 hb
      have n1_ := qz HO280 hb
      have n2_ := qz HO283 hb
      have n3_ := qz HO286 hb
      have n4_ := Aside0.mk (blk_below (kz BK272.out) hb)
      have n5_ := Aside0.mk (blk_below (kz BK273.out) hb)
      have n6_ := Aside0.mk (blk_below (kz BK292.out) hb)
      have n7_ := Aside0.mk (below_step (bz3 HB.out GE272.out GE273.out GE292.out) hb)
      clear HO277
      clear HO280
      clear HO283
      clear HO286
      clear BK272
      clear BK273
      clear BK292
      clear HB
      have HO277 := n0_
      have HO280 := n1_
      have HO283 := n2_
      have HO286 := n3_
      have BK272 := n4_
      have BK273 := n5_
      have BK292 := n6_
      have HB := n7_
      clear n0_ n1_ n2_ n3_ n4_ n5_ n6_ n7_
      (try clear hb)
      (try clear hb2)
      (try clear hk)
      (try clear hi)
      refine hK.out _ _ ⟨(blk_cell BK272.out 0).trans rfl, (blk_cell BK272.out 1).trans rfl, (blk_cell BK272.out 2).trans rfl, (blk_cell BK272.out 3).trans rfl, (blk_cell BK273.out 0).trans rfl, (blk_cell BK273.out 1).trans rfl⟩ (fun hHeld => ?_)
      clear hK K
      refine norm_ (a' := ?_) ?_ ?_
      rotate_left
      ·show Act.put _ (some 24) _ = _
       simp only [Act.put, sz1, sz2, sz3, i64_w, i32_w]
       rfl
      refine pure_ (i := 6) (N := some 18) (v := ?_) (a' := ?_) #[tt, tt, tt, tt, tt, tt, tt, ff, ff, tt, ff, ff] rfl rfl (any_of HT_.out (by kernel_rfl)) (fun _ _ _ h => h) (Or.inl ⟨by rfl, ?_⟩) ?_ ?_
      rotate_left
      ·intro w'
       go_simp
       with_reducible rfl
      rotate_left
      ·simp only [Act.put, sz1, sz2, sz3, i64_w, i32_w]
       rfl
      refine pure_ (i := 7) (N := some 25) (v := ?_) (a' := ?_) #[tt, tt, tt, tt, tt, tt, tt, tt, ff, tt, ff, ff] rfl rfl (any_of HT_.out (by kernel_rfl)) (fun _ _ _ h => h) (Or.inl ⟨by rfl, ?_⟩) ?_ ?_
      rotate_left
      ·intro w'
       go_simp
       with_reducible rfl
      rotate_left
      ·simp only [Act.put, sz1, sz2, sz3, i64_w, i32_w]
       rfl
      refine pure_ (i := 8) (N := some 26) (v := ?_) (a' := ?_) #[tt, tt, tt, tt, tt, tt, tt, tt, tt, tt, ff, ff] rfl rfl (any_of HT_.out (by kernel_rfl)) (fun _ _ _ h => h) (Or.inl ⟨by rfl, ?_⟩) ?_ ?_
      rotate_left
      ·intro w'
       go_simp
       with_reducible rfl
      rotate_left
      ·simp only [Act.put, sz1, sz2, sz3, i64_w, i32_w]
       rfl
      exact norm_ (by simp only [putAll, Act.put, List.setIfInBounds_toArray, List.set_cons_zero, List.set_cons_succ]) (hCont (.slice Ao27 t275.length co27, .slice Ao28 t278.length co28, .slice Ao29 t281.length co29, .slice Ao30 t284.length co30, gb292) _ ⟨hHeld, (rz HO277.out), (rz HO280.out), (rz HO283.out), (by refine rq ?_; exact Kd.R_mono HO286.out (fun _ hk => hk.2)), (kz BK272.out), (kz BK273.out), (kz BK292.out), GW292.out, GE292.out, NB272_292.out, NB292_272.out, NB273_292.out, NB292_273.out, (bz3 HB.out GE272.out GE273.out GE292.out)⟩)
    ·skip
     refine box_step ?hg (N := 8) ?hd (cs := #[.int .i64 0, .int .i64 0]) (t := 49) ?hr ?_; (case hd => rfl); (case hg => rfl); (case hr => exact vz)
     intro gb292 hg w25 hbox hb
     have n0_ := qz HO277 hb
     have n1_ := qz HO280 hb
     have n2_ := qz HO283 hb
     have n3_ := Aside0.mk (Kd.R_below (Kd.R_elderB (rz HO286.out) gb292 (Nat.le_of_eq hg.symm)) hb)
     have n4_ := Aside0.mk (blk_below (kz BK272.out) hb)
     have n5_ := Aside0.mk (blk_below (kz BK273.out) hb)
     have n6_ := Aside0.mk (below_step (bz2 HB.out GE272.out GE273.out) hb)
     have n7_ := Aside0.mk (hbox)
     have n8_ := Aside0.mk ((by rw [hg]; exact (below_size (bz2 HB.out GE272.out GE273.out)) : w.heap.size <= gb292))
     have n9_ := Aside0.mk ((by rw [hg]; exact (below_size (bz2 HB.out GE272.out GE273.out)) : w.heap.size <= gb292))
     have n10_ := Aside0.mk ((by rw [hg]; exact Nat.ne_of_lt (blk_lt (g := gb272) (o := .cells #[.slice A0_0 l0_0.length c0_0, .slice A0_1 l0_1.length c0_1, .slice A0_2 l0_2.length c0_2, .slice A0_3 l0_3.length c0_3] 44 (0, 0)) (kz BK272.out)) : gb272 ≠ gb292))
     have n11_ := Aside0.mk ((by rw [hg]; exact Nat.ne_of_gt (blk_lt (g := gb272) (o := .cells #[.slice A0_0 l0_0.length c0_0, .slice A0_1 l0_1.length c0_1, .slice A0_2 l0_2.length c0_2, .slice A0_3 l0_3.length c0_3] 44 (0, 0)) (kz BK272.out)) : gb292 ≠ gb272))
     have n12_ := Aside0.mk ((by rw [hg]; exact Nat.ne_of_lt (blk_lt (g := gb273) (o := .cells #[.int .i64 a2_0, .int .i64 a2_1] 46 (0, 0)) (kz BK273.out)) : gb273 ≠ gb292))
     have n13_ := Aside0.mk ((by rw [hg]; exact Nat.ne_of_gt (blk_lt (g := gb273) (o := .cells #[.int .i64 a2_0, .int .i64 a2_1] 46 (0, 0)) (kz BK273.out)) : gb292 ≠ gb273))
     clear HO277
     clear HO280
     clear HO283
     clear HO286
     clear BK272
     clear BK273
     clear HB
     have HO277 := n0_
     have HO280 := n1_
     have HO283 := n2_
     have HO286 := n3_
     have BK272 := n4_
     have BK273 := n5_
     have HB := n6_
     have BK292 := n7_
     have GW292 := n8_
     have GE292 := n9_
     have NB272_292 := n10_
     have NB292_272 := n11_
     have NB273_292 := n12_
     have NB292_273 := n13_
     clear n0_ n1_ n2_ n3_ n4_ n5_ n6_ n7_ n8_ n9_ n10_ n11_ n12_ n13_
     clear hb hbox hg
     refine hK.out _ _ ⟨(blk_cell BK272.out 0).trans rfl, (blk_cell BK272.out 1).trans rfl, (blk_cell BK272.out 2).trans rfl, (blk_cell BK272.out 3).trans rfl, (blk_cell BK273.out 0).trans rfl, (blk_cell BK273.out 1).trans rfl⟩ (fun hHeld => ?_)
     clear hK K
     refine norm_ (a' := ?_) ?_ ?_
     rotate_left
     ·show Act.put _ (some 8) _ = _
      simp only [Act.put, sz1, sz2, sz3, i64_w, i32_w]
      rfl
     refine one_ (i := 4) (N := some 23) #[tt, tt, tt, tt, tt, ff, ff, ff, ff, tt, ff, ff] rfl rfl (one_of HT_.out (by kernel_rfl)) (by decide) (fun K hK => ?_)
     refine goes_ Try.func21 (by kernel_rfl) rfl #[.agg #[.int .i64 a2_0, .int .i64 a2_1]] (by rfl) rfl rfl lz ?_
     with_reducible refine (laws_toBind.calls a2_0 a2_1 t287 t288 _ A12.out).mono ?_
     rintro e w26 ⟨rfl, hb⟩
     refine ⟨_, rfl, ?_⟩
     have n0_ := qz HO277 hb
     have n1_ := qz HO280 hb
     have n2_ := qz HO283 hb
     have n3_ := qz HO286 hb
     have n4_ := Aside0.mk (blk_below (kz BK272.out) hb)
     have n5_ := Aside0.mk (blk_below (kz BK273.out) hb)
     have n6_ := Aside0.mk (blk_below (kz BK292.out) hb)
     have n7_ := Aside0.mk (below_step (bz3 HB.out GE272.out GE273.out GE292.out) hb)
     clear HO277
     clear HO280
     clear HO283
     clear HO286
     clear BK272
     clear BK273
     clear BK292
     clear HB
     have HO277 := n0_
     have HO280 := n1_
     have HO283 := n2_
     have HO286 := n3_
     have BK272 := n4_
     have BK273 := n5_
     have BK292 := n6_
     have HB := n7_
     clear n0_ n1_ n2_ n3_ n4_ n5_ n6_ n7_
     (try clear hb)
     (try clear hb2)
     (try clear hk)
     (try clear hi)
     obtain ⟨Ao27, co27, eo27⟩ := Kd.R_slice HO277.out
     (first | subst eo27 | (injection eo27 with f1_ f2_ f3_; have f4_ := f1_.symm; have f5_ := f3_.symm; clear f1_ f2_ f3_; subst f4_; subst f5_))
     obtain ⟨Ao28, co28, eo28⟩ := Kd.R_slice HO280.out
     (first | subst eo28 | (injection eo28 with f1_ f2_ f3_; have f4_ := f1_.symm; have f5_ := f3_.symm; clear f1_ f2_ f3_; subst f4_; subst f5_))
     obtain ⟨Ao29, co29, eo29⟩ := Kd.R_slice HO283.out
     (first | subst eo29 | (injection eo29 with f1_ f2_ f3_; have f4_ := f1_.symm; have f5_ := f3_.symm; clear f1_ f2_ f3_; subst f4_; subst f5_))
     obtain ⟨Ao30, co30, eo30⟩ := Kd.R_slice HO286.out
     (first | subst eo30 | (injection eo30 with f1_ f2_ f3_; have f4_ := f1_.symm; have f5_ := f3_.symm; clear f1_ f2_ f3_; subst f4_; subst f5_))
     refine hK.out _ _ ⟨(blk_cell BK272.out 0).trans rfl, (blk_cell BK272.out 1).trans rfl, (blk_cell BK272.out 2).trans rfl, (blk_cell BK272.out 3).trans rfl, (blk_cell BK273.out 0).trans rfl, (blk_cell BK273.out 1).trans rfl⟩ (fun hHeld => ?_)
     clear hK K
     refine norm_ (a' := ?_) ?_ ?_
     rotate_left
     ·show Act.put _ (some 23) _ = _
      simp only [Act.put, sz1, sz2, sz3, i64_w, i32_w]
      rfl
     refine one_ (i := 5) (N := some 24) #[tt, tt, tt, tt, tt, tt, ff, ff, ff, tt, ff, ff] rfl rfl (one_of HT_.out (by kernel_rfl)) (by decide) (fun K hK => ?_)
     refine goes_ Try.func19 (by kernel_rfl) rfl #[.agg #[.slice Ao27 t275.length co27, .slice Ao28 t278.length co28, .slice Ao29 t281.length co29, .slice Ao30 t284.length co30], .int .i64 a1, .agg #[.int .i64 t287, .int .i64 t288]] (by rfl) rfl rfl lz ?_
     with_reducible refine (spec_LookUp.calls k _ _ t275 _ _ t278 _ _ t281 _ _ t284 a1 t287 t288 t289 t290 t291 _ ?side1 ?side2 ?side3 ?side4 ?side5 ?side6 ?side7 ?side8 A13.out).mono ?_
     (case side1 => exact cz (Kd.R_reads' HO277.out).2.2)
     (case side2 => exact (Kd.R_reads' HO277.out).2.1)
     (case side3 => exact cz (Kd.R_reads' HO280.out).2.2)
     (case side4 => exact (Kd.R_reads' HO280.out).2.1)
     (case side5 => exact cz (Kd.R_reads' HO283.out).2.2)
     (case side6 => exact (Kd.R_reads' HO283.out).2.1)
     (case side7 => exact cz (Kd.R_reads' HO286.out).2.2)
     (case side8 => exact (Kd.R_reads' HO286.out).2.1)
     rintro e w31 ⟨rfl, hb⟩
     refine ⟨_, rfl, ?_⟩
     have n0_ := qz HO277 hb
     have n1_ := qz HO280 hb
     have n2_ := qz HO283 hb
     have n3_ := qz HO286 hb
     have n4_ := Aside0.mk (blk_below (kz BK272.out) hb)
     have n5_ := Aside0.mk (blk_below (kz BK273.out) hb)
     have n6_ := Aside0.mk (blk_below (kz BK292.out) hb)
     have n7_ := Aside0.mk (below_step (bz3 HB.out GE272.out GE273.out GE292.out) hb)
     clear HO277
     clear HO280
     clear HO283
     clear HO286
     clear BK272
     clear BK273
     clear BK292
     clear HB
     have HO277 := n0_
     have HO280 := n1_
     have HO283 := n2_
     have HO286 := n3_
     have BK272 := n4_
     have BK273 := n5_
     have BK292 := n6_
     have HB := n7_
     clear n0_ n1_ n2_ n3_ n4_ n5_ n6_ n7_
     (try clear hb)
     (try clear hb2)
     (try clear hk)
     (try clear hi)
     refine hK.out _ _ ⟨(blk_cell BK272.out 0).trans rfl, (blk_cell BK272.out 1).trans rfl, (blk_cell BK272.out 2).trans rfl, (blk_cell BK272.out 3).trans rfl, (blk_cell BK273.out 0).trans rfl, (blk_cell BK273.out 1).trans rfl⟩ (fun hHeld => ?_)
     clear hK K
     refine norm_ (a' := ?_) ?_ ?_
     rotate_left
     ·show Act.put _ (some 24) _ = _
      simp only [Act.put, sz1, sz2, sz3, i64_w, i32_w]
      rfl
     refine pure_ (i := 6) (N := some 18) (v := ?_) (a' := ?_) #[tt, tt, tt, tt, tt, tt, tt, ff, ff, tt, ff, ff] rfl rfl (any_of HT_.out (by kernel_rfl)) (fun _ _ _ h => h) (Or.inl ⟨by rfl, ?_⟩) ?_ ?_
     rotate_left
     ·intro w'
      go_simp
      with_reducible rfl
     rotate_left
     ·simp only [Act.put, sz1, sz2, sz3, i64_w, i32_w]
      rfl
     refine pure_ (i := 7) (N := some 25) (v := ?_) (a' := ?_) #[tt, tt, tt, tt, tt, tt, tt, tt, ff, tt, ff, ff] rfl rfl (any_of HT_.out (by kernel_rfl)) (fun _ _ _ h => h) (Or.inl ⟨by rfl, ?_⟩) ?_ ?_
     rotate_left
     ·intro w'
      go_simp
      with_reducible rfl
     rotate_left
     ·simp only [Act.put, sz1, sz2, sz3, i64_w, i32_w]
      rfl
     refine pure_ (i := 8) (N := some 26) (v := ?_) (a' := ?_) #[tt, tt, tt, tt, tt, tt, tt, tt, tt, tt, ff, ff] rfl rfl (any_of HT_.out (by kernel_rfl)) (fun _ _ _ h => h) (Or.inl ⟨by rfl, ?_⟩) ?_ ?_
     rotate_left
     ·intro w'
      go_simp
      with_reducible rfl
     rotate_left
     ·simp only [Act.put, sz1, sz2, sz3, i64_w, i32_w]
      rfl
     exact norm_ (by simp only [putAll, Act.put, List.setIfInBounds_toArray, List.set_cons_zero, List.set_cons_succ]) (hCont (.slice Ao27 t275.length co27, .slice Ao28 t278.length co28, .slice Ao29 t281.length co29, .slice Ao30 t284.length co30, gb292) _ ⟨hHeld, (rz HO277.out), (rz HO280.out), (rz HO283.out), (by refine rq ?_; exact Kd.R_mono HO286.out (fun _ hk => hk.2)), (kz BK272.out), (kz BK273.out), (kz BK292.out), GW292.out, GE292.out, NB272_292.out, NB292_272.out, NB273_292.out, NB292_273.out, (bz3 HB.out GE272.out GE273.out GE292.out)⟩)
   ·skip
    refine box_step ?hg (N := 8) ?hd (cs := #[.int .i64 0, .int .i64 0]) (t := 49) ?hr ?_; (case hd => rfl); (case hg => rfl); (case hr => exact vz)
    intro gb292 hg w24 hbox hb
    have n0_ := Aside0.mk (blk_below (kz BK272.out) hb)
    have n1_ := Aside0.mk (blk_below (kz BK273.out) hb)
    have n2_ := Aside0.mk (below_step (bz2 HB.out GE272.out GE273.out) hb)
    have n3_ := Aside0.mk (hbox)
    have n4_ := Aside0.mk ((by rw [hg]; exact (below_size (bz2 HB.out GE272.out GE273.out)) : w.heap.size <= gb292))
    have n5_ := Aside0.mk ((by rw [hg]; exact (below_size (bz2 HB.out GE272.out GE273.out)) : w.heap.size <= gb292))
    have n6_ := Aside0.mk ((by rw [hg]; exact Nat.ne_of_lt (blk_lt (g := gb272) (o := .cells #[.slice A0_0 l0_0.length c0_0, .slice A0_1 l0_1.length c0_1, .slice A0_2 l0_2.length c0_2, .slice A0_3 l0_3.length c0_3] 44 (0, 0)) (kz BK272.out)) : gb272 ≠ gb292))
    have n7_ := Aside0.mk ((by rw [hg]; exact Nat.ne_of_gt (blk_lt (g := gb272) (o := .cells #[.slice A0_0 l0_0.length c0_0, .slice A0_1 l0_1.length c0_1, .slice A0_2 l0_2.length c0_2, .slice A0_3 l0_3.length c0_3] 44 (0, 0)) (kz BK272.out)) : gb292 ≠ gb272))
    have n8_ := Aside0.mk ((by rw [hg]; exact Nat.ne_of_lt (blk_lt (g := gb273) (o := .cells #[.int .i64 a2_0, .int .i64 a2_1] 46 (0, 0)) (kz BK273.out)) : gb273 ≠ gb292))
    have n9_ := Aside0.mk ((by rw [hg]; exact Nat.ne_of_gt (blk_lt (g := gb273) (o := .cells #[.int .i64 a2_0, .int .i64 a2_1] 46 (0, 0)) (kz BK273.out)) : gb292 ≠ gb273))
    clear BK272
    clear BK273
    clear HB
    have BK272 := n0_
    have BK273 := n1_
    have HB := n2_
    have BK292 := n3_
    have GW292 := n4_
    have GE292 := n5_
    have NB272_292 := n6_
    have NB292_272 := n7_
    have NB273_292 := n8_
    have NB292_273 := n9_
    clear n0_ n1_ n2_ n3_ n4_ n5_ n6_ n7_ n8_ n9_
    clear hb hbox hg
    refine hK.out _ _ ⟨(blk_cell BK272.out 0).trans rfl, (blk_cell BK272.out 1).trans rfl, (blk_cell BK272.out 2).trans rfl, (blk_cell BK272.out 3).trans rfl, (blk_cell BK273.out 0).trans rfl, (blk_cell BK273.out 1).trans rfl⟩ (fun hHeld => ?_)
    clear hK K
    refine norm_ (a' := ?_) ?_ ?_
    rotate_left
    ·show Act.put _ (some 8) _ = _
     simp only [Act.put, sz1, sz2, sz3, i64_w, i32_w]
     rfl
    refine one_ (i := 1) (N := some 20) #[tt, tt, tt, tt, ff, ff, ff, ff, ff, tt, ff, ff] rfl rfl (one_of HT_.out (by kernel_rfl)) (by decide) (fun K hK => ?_)
    refine goes_ Try.func20 (by kernel_rfl) rfl #[.agg #[.slice A0_0 l0_0.length c0_0, .slice A0_1 l0_1.length c0_1, .slice A0_2 l0_2.length c0_2, .slice A0_3 l0_3.length c0_3]] (by rfl) rfl rfl lz ?_
    with_reducible refine (laws_toHeap.calls k _ _ l0_0 _ _ l0_1 _ _ l0_2 _ _ l0_3 t275 t278 t281 t284 _ ?side1 ?side2 ?side3 ?side4 ?side5 ?side6 ?side7 ?side8 A11.out).mono ?_
    (case side1 => exact cz (Kd.C_below HR0_0.out HB.out))
    (case side2 => exact HC0_0.out)
    (case side3 => exact cz (Kd.C_below HR0_1.out HB.out))
    (case side4 => exact HC0_1.out)
    (case side5 => exact cz (Kd.C_below HR0_2.out HB.out))
    (case side6 => exact HC0_2.out)
    (case side7 => exact cz (Kd.C_below HR0_3.out HB.out))
    (case side8 => exact HC0_3.out)
    rintro e w25 ⟨v276, v279, v282, v285, rfl, ho0, ho1, ho2, ho3, hb⟩
    refine ⟨_, rfl, ?_⟩
    have n0_ := Aside0.mk (Kd.R_lower ho0 (below_size (bz3 HB.out GE272.out GE273.out GE292.out)))
    have n1_ := Aside0.mk (Kd.R_lower ho1 (below_size (bz3 HB.out GE272.out GE273.out GE292.out)))
    have n2_ := Aside0.mk (Kd.R_lower ho2 (below_size (bz3 HB.out GE272.out GE273.out GE292.out)))
    have n3_ := Aside0.mk (Kd.R_lower (Kd.R_newB ho3 (g := gb292) (o := .cells #[.int .i64 0, .int .i64 0] 49 (0, 0)) (kz BK292.out)) (below_size (bz3 HB.out GE272.out GE273.out GE292.out)))
    have n4_ := Aside0.mk (blk_below (kz BK272.out) hb)
    have n5_ := Aside0.mk (blk_below (kz BK273.out) hb)
    have n6_ := Aside0.mk (blk_below (kz BK292.out) hb)
    have n7_ := Aside0.mk (below_step (bz3 HB.out GE272.out GE273.out GE292.out) hb)
    clear BK272
    clear BK273
    clear BK292
    clear HB
    have HO277 := n0_
    have HO280 := n1_
    have HO283 := n2_
    have HO286 := n3_
    have BK272 := n4_
    have BK273 := n5_
    have BK292 := n6_
    have HB := n7_
    clear n0_ n1_ n2_ n3_ n4_ n5_ n6_ n7_
    (try clear hb)
    (try clear hb2)
    (try clear hk)
    (try clear hi)
    (try clear ho0)
    (try clear ho1)
    (try clear ho2)
    (try clear ho3)
    refine hK.out _ _ ⟨(blk_cell BK272.out 0).trans rfl, (blk_cell BK272.out 1).trans rfl, (blk_cell BK272.out 2).trans rfl, (blk_cell BK272.out 3).trans rfl, (blk_cell BK273.out 0).trans rfl, (blk_cell BK273.out 1).trans rfl⟩ (fun hHeld => ?_)
    clear hK K
    refine norm_ (a' := ?_) ?_ ?_
    rotate_left
    ·show Act.put _ (some 20) _ = _
     simp only [Act.put, sz1, sz2, sz3, i64_w, i32_w]
     rfl
    refine one_ (i := 4) (N := some 23) #[tt, tt, tt, tt, tt, ff, ff, ff, ff, tt, ff, ff] rfl rfl (one_of HT_.out (by kernel_rfl)) (by decide) (fun K hK => ?_)
    refine goes_ Try.func21 (by kernel_rfl) rfl #[.agg #[.int .i64 a2_0, .int .i64 a2_1]] (by rfl) rfl rfl lz ?_
    with_reducible refine (laws_toBind.calls a2_0 a2_1 t287 t288 _ A12.out).mono ?_
    rintro e w26 ⟨rfl, hb⟩
    refine ⟨_, rfl, ?_⟩
    have n0_ := qz HO277 hb
    have n1_ := qz HO280 hb
    have n2_ := qz HO283 hb
    have n3_ := qz HO286 hb
    have n4_ := Aside0.mk (blk_below (kz BK272.out) hb)
    have n5_ := Aside0.mk (blk_below (kz BK273.out) hb)
    have n6_ := Aside0.mk (blk_below (kz BK292.out) hb)
    have n7_ := Aside0.mk (below_step (bz3 HB.out GE272.out GE273.out GE292.out) hb)
    clear HO277
    clear HO280
    clear HO283
    clear HO286
    clear BK272
    clear BK273
    clear BK292
    clear HB
    have HO277 := n0_
    have HO280 := n1_
    have HO283 := n2_
    have HO286 := n3_
    have BK272 := n4_
    have BK273 := n5_
    have BK292 := n6_
    have HB := n7_
    clear n0_ n1_ n2_ n3_ n4_ n5_ n6_ n7_
    (try clear hb)
    (try clear hb2)
    (try clear hk)
    (try clear hi)
    obtain ⟨Ao27, co27, eo27⟩ := Kd.R_slice HO277.out
    (first | subst eo27 | (injection eo27 with f1_ f2_ f3_; have f4_ := f1_.symm; have f5_ := f3_.symm; clear f1_ f2_ f3_; subst f4_; subst f5_))
    obtain ⟨Ao28, co28, eo28⟩ := Kd.R_slice HO280.out
    (first | subst eo28 | (injection eo28 with f1_ f2_ f3_; have f4_ := f1_.symm; have f5_ := f3_.symm; clear f1_ f2_ f3_; subst f4_; subst f5_))
    obtain ⟨Ao29, co29, eo29⟩ := Kd.R_slice HO283.out
    (first | subst eo29 | (injection eo29 with f1_ f2_ f3_; have f4_ := f1_.symm; have f5_ := f3_.symm; clear f1_ f2_ f3_; subst f4_; subst f5_))
    obtain ⟨Ao30, co30, eo30⟩ := Kd.R_slice HO286.out
    (first | subst eo30 | (injection eo30 with f1_ f2_ f3_; have f4_ := f1_.symm; have f5_ := f3_.symm; clear f1_ f2_ f3_; subst f4_; subst f5_))
    refine hK.out _ _ ⟨(blk_cell BK272.out 0).trans rfl, (blk_cell BK272.out 1).trans rfl, (blk_cell BK272.out 2).trans rfl, (blk_cell BK272.out 3).trans rfl, (blk_cell BK273.out 0).trans rfl, (blk_cell BK273.out 1).trans rfl⟩ (fun hHeld => ?_)
    clear hK K
    refine norm_ (a' := ?_) ?_ ?_
    rotate_left
    ·show Act.put _ (some 23) _ = _
     simp only [Act.put, sz1, sz2, sz3, i64_w, i32_w]
     rfl
    refine one_ (i := 5) (N := some 24) #[tt, tt, tt, tt, tt, tt, ff, ff, ff, tt, ff, ff] rfl rfl (one_of HT_.out (by kernel_rfl)) (by decide) (fun K hK => ?_)
    refine goes_ Try.func19 (by kernel_rfl) rfl #[.agg #[.slice Ao27 t275.length co27, .slice Ao28 t278.length co28, .slice Ao29 t281.length co29, .slice Ao30 t284.length co30], .int .i64 a1, .agg #[.int .i64 t287, .int .i64 t288]] (by rfl) rfl rfl lz ?_
    with_reducible refine (spec_LookUp.calls k _ _ t275 _ _ t278 _ _ t281 _ _ t284 a1 t287 t288 t289 t290 t291 _ ?side1 ?side2 ?side3 ?side4 ?side5 ?side6 ?side7 ?side8 A13.out).mono ?_
    (case side1 => exact cz (Kd.R_reads' HO277.out).2.2)
    (case side2 => exact (Kd.R_reads' HO277.out).2.1)
    (case side3 => exact cz (Kd.R_reads' HO280.out).2.2)
    (case side4 => exact (Kd.R_reads' HO280.out).2.1)
    (case side5 => exact cz (Kd.R_reads' HO283.out).2.2)
    (case side6 => exact (Kd.R_reads' HO283.out).2.1)
    (case side7 => exact cz (Kd.R_reads' HO286.out).2.2)
    (case side8 => exact (Kd.R_reads' HO286.out).2.1)
    rintro e w31 ⟨rfl, hb⟩
    refine ⟨_, rfl, ?_⟩
    have n0_ := qz HO277 hb
    have n1_ := qz HO280 hb
    have n2_ := qz HO283 hb
    have n3_ := qz HO286 hb
    have n4_ := Aside0.mk (blk_below (kz BK272.out) hb)
    have n5_ := Aside0.mk (blk_below (kz BK273.out) hb)
    have n6_ := Aside0.mk (blk_below (kz BK292.out) hb)
    have n7_ := Aside0.mk (below_step (bz3 HB.out GE272.out GE273.out GE292.out) hb)
    clear HO277
    clear HO280
    clear HO283
    clear HO286
    clear BK272
    clear BK273
    clear BK292
    clear HB
    have HO277 := n0_
    have HO280 := n1_
    have HO283 := n2_
    have HO286 := n3_
    have BK272 := n4_
    have BK273 := n5_
    have BK292 := n6_
    have HB := n7_
    clear n0_ n1_ n2_ n3_ n4_ n5_ n6_ n7_
    (try clear hb)
    (try clear hb2)
    (try clear hk)
    (try clear hi)
    refine hK.out _ _ ⟨(blk_cell BK272.out 0).trans rfl, (blk_cell BK272.out 1).trans rfl, (blk_cell BK272.out 2).trans rfl, (blk_cell BK272.out 3).trans rfl, (blk_cell BK273.out 0).trans rfl, (blk_cell BK273.out 1).trans rfl⟩ (fun hHeld => ?_)
    clear hK K
    refine norm_ (a' := ?_) ?_ ?_
    rotate_left
    ·show Act.put _ (some 24) _ = _
     simp only [Act.put, sz1, sz2, sz3, i64_w, i32_w]
     rfl
    refine pure_ (i := 6) (N := some 18) (v := ?_) (a' := ?_) #[tt, tt, tt, tt, tt, tt, tt, ff, ff, tt, ff, ff] rfl rfl (any_of HT_.out (by kernel_rfl)) (fun _ _ _ h => h) (Or.inl ⟨by rfl, ?_⟩) ?_ ?_
    rotate_left
    ·intro w'
     go_simp
     with_reducible rfl
    rotate_left
    ·simp only [Act.put, sz1, sz2, sz3, i64_w, i32_w]
     rfl
    refine pure_ (i := 7) (N := some 25) (v := ?_) (a' := ?_) #[tt, tt, tt, tt, tt, tt, tt, tt, ff, tt, ff, ff] rfl rfl (any_of HT_.out (by kernel_rfl)) (fun _ _ _ h => h) (Or.inl ⟨by rfl, ?_⟩) ?_ ?_
    rotate_left
    ·intro w'
     go_simp
     with_reducible rfl
    rotate_left
    ·simp only [Act.put, sz1, sz2, sz3, i64_w, i32_w]
     rfl
    refine pure_ (i := 8) (N := some 26) (v := ?_) (a' := ?_) #[tt, tt, tt, tt, tt, tt, tt, tt, tt, tt, ff, ff] rfl rfl (any_of HT_.out (by kernel_rfl)) (fun _ _ _ h => h) (Or.inl ⟨by rfl, ?_⟩) ?_ ?_
    rotate_left
    ·intro w'
     go_simp
     with_reducible rfl
    rotate_left
    ·simp only [Act.put, sz1, sz2, sz3, i64_w, i32_w]
     rfl
    exact norm_ (by simp only [putAll, Act.put, List.setIfInBounds_toArray, List.set_cons_zero, List.set_cons_succ]) (hCont (.slice Ao27 t275.length co27, .slice Ao28 t278.length co28, .slice Ao29 t281.length co29, .slice Ao30 t284.length co30, gb292) _ ⟨hHeld, (rz HO277.out), (rz HO280.out), (rz HO283.out), (by refine rq ?_; exact Kd.R_mono HO286.out (fun _ hk => hk.2)), (kz BK272.out), (kz BK273.out), (kz BK292.out), GW292.out, GE292.out, NB272_292.out, NB292_272.out, NB273_292.out, NB292_273.out, (bz3 HB.out GE272.out GE273.out GE292.out)⟩)
  rintro ⟨v276, v279, v282, v285, gb292⟩ w32 ⟨hS_, h0_, h1_, h2_, h3_, h4_, h5_, h6_, h7_, h8_, h9_, h10_, h11_, h12_, h13_⟩
  have n0_ : Aside0 (Kd.R k97 97 w32 w.heap.size (fun _ => True) v276 t275) := ⟨h0_⟩
  have n1_ : Aside0 (Kd.R k100 100 w32 w.heap.size (fun _ => True) v279 t278) := ⟨h1_⟩
  have n2_ : Aside0 (Kd.R k102 102 w32 w.heap.size (fun _ => True) v282 t281) := ⟨h2_⟩
  have n3_ : Aside0 (Kd.R k49 49 w32 w.heap.size (fun k_ => k_ ≠ gb292) v285 t284) := ⟨h3_⟩
  have n4_ : Aside0 (w32.heap[gb272]? = some (.cells #[.slice A0_0 l0_0.length c0_0, .slice A0_1 l0_1.length c0_1, .slice A0_2 l0_2.length c0_2, .slice A0_3 l0_3.length c0_3] 44 (0, 0))) := ⟨h4_⟩
  have n5_ : Aside0 (w32.heap[gb273]? = some (.cells #[.int .i64 a2_0, .int .i64 a2_1] 46 (0, 0))) := ⟨h5_⟩
  have n6_ : Aside0 (w32.heap[gb292]? = some (.cells #[.int .i64 0, .int .i64 0] 49 (0, 0))) := ⟨h6_⟩
  have n7_ : Aside0 (w.heap.size <= gb292) := ⟨h7_⟩
  have n8_ : Aside0 (w.heap.size <= gb292) := ⟨h8_⟩
  have n9_ : Aside0 (gb272 ≠ gb292) := ⟨h9_⟩
  have n10_ : Aside0 (gb292 ≠ gb272) := ⟨h10_⟩
  have n11_ : Aside0 (gb273 ≠ gb292) := ⟨h11_⟩
  have n12_ : Aside0 (gb292 ≠ gb273) := ⟨h12_⟩
  have n13_ : Aside0 (Below w.heap.size w w32) := ⟨h13_⟩
  clear BK272
  clear BK273
  clear HB
  clear h0_ h1_ h2_ h3_ h4_ h5_ h6_ h7_ h8_ h9_ h10_ h11_ h12_ h13_
  have HO277 := n0_
  have HO280 := n1_
  have HO283 := n2_
  have HO286 := n3_
  have BK272 := n4_
  have BK273 := n5_
  have BK292 := n6_
  have GW292 := n7_
  have GE292 := n8_
  have NB272_292 := n9_
  have NB292_272 := n10_
  have NB273_292 := n11_
  have NB292_273 := n12_
  have HB := n13_
  clear n0_ n1_ n2_ n3_ n4_ n5_ n6_ n7_ n8_ n9_ n10_ n11_ n12_ n13_
  have hHeld : w32.cell? ⟨gb272, 0, none⟩ = some (.slice A0_0 l0_0.length c0_0) /\ w32.cell? ⟨gb272, 1, none⟩ = some (.slice A0_1 l0_1.length c0_1) /\ w32.cell? ⟨gb272, 2, none⟩ = some (.slice A0_2 l0_2.length c0_2) /\ w32.cell? ⟨gb272, 3, none⟩ = some (.slice A0_3 l0_3.length c0_3) /\ w32.cell? ⟨gb273, 0, none⟩ = some (.int .i64 a2_0) /\ w32.cell? ⟨gb273, 1, none⟩ = some (.int .i64 a2_1) := hS_
  refine norm_ (a' := ?_) ?_ ?_
  rotate_left
  ·simp only [putAll, Act.put, List.setIfInBounds_toArray, List.set_cons_zero, List.set_cons_succ]
   rfl
  refine one_ (i := 10) (N := none) #[tt, tt, tt, tt, tt, tt, tt, tt, tt, tt, tt, ff] rfl rfl (one_of HT_.out (by kernel_rfl)) (by decide) (fun K hK => ?_)
  have hs33 : w32.cell? ⟨gb292, 0, none⟩ = some (.int .i64 0) := (blk_cell BK292.out 0).trans rfl
  have hfs33 := blk_frozen BK292.out 0
  have hns33_0 := NB272_292.out
  have hns33_1 := NB273_292.out
  have hms33_0 := NB292_272.out
  have hms33_1 := NB292_273.out
  have hs34 : w32.cell? ⟨gb292, 1, none⟩ = some (.int .i64 0) := (blk_cell BK292.out 1).trans rfl
  have hfs34 := blk_frozen BK292.out 1
  have hns34_0 := NB272_292.out
  have hns34_1 := NB273_292.out
  have hms34_0 := NB292_272.out
  have hms34_1 := NB292_273.out
  refine skip_ (w1 := ?_) (by rfl) rfl ?_ ?_
  rotate_left
  ·go_simp
   rfl
  refine hK.out _ _ ⟨((cell_far (p := ⟨gb292, _, none⟩) NB272_292.out _).trans (((cell_far (p := ⟨gb292, _, none⟩) NB272_292.out _).trans (hHeld.1)))), ((cell_far (p := ⟨gb292, _, none⟩) NB272_292.out _).trans (((cell_far (p := ⟨gb292, _, none⟩) NB272_292.out _).trans (hHeld.2.1)))), ((cell_far (p := ⟨gb292, _, none⟩) NB272_292.out _).trans (((cell_far (p := ⟨gb292, _, none⟩) NB272_292.out _).trans (hHeld.2.2.1)))), ((cell_far (p := ⟨gb292, _, none⟩) NB272_292.out _).trans (((cell_far (p := ⟨gb292, _, none⟩) NB272_292.out _).trans (hHeld.2.2.2.1)))), ((cell_far (p := ⟨gb292, _, none⟩) NB273_292.out _).trans (((cell_far (p := ⟨gb292, _, none⟩) NB273_292.out _).trans (hHeld.2.2.2.2.1)))), ((cell_far (p := ⟨gb292, _, none⟩) NB273_292.out _).trans (((cell_far (p := ⟨gb292, _, none⟩) NB273_292.out _).trans (hHeld.2.2.2.2.2))))⟩ (fun hHeld => ?_)
  clear hK K
  refine pure_ (i := 11) (N := some 9) (v := ?_) (a' := ?_) #[tt, tt, tt, tt, tt, tt, tt, tt, tt, tt, tt, tt] rfl rfl (any_of HT_.out (by kernel_rfl)) (fun _ _ _ h => h) (Or.inl ⟨by rfl, ?_⟩) ?_ ?_
  rotate_left
  ·intro w'
   go_simp
   with_reducible rfl
  rotate_left
  ·simp only [Act.put, sz1, sz2, sz3, i64_w, i32_w]
   rfl
  refine done_ (done_of HT_.out (by kernel_rfl)) ?_
  have hnb35 := NB272_292.out
  have hnc35 := NB292_272.out
  obtain ⟨hcz36_0, hcz36_1, hcz36_2, hcz36_3⟩ := cz4 BK272.out
  obtain ⟨hfz36_0, hfz36_1, hfz36_2, hfz36_3⟩ := fz4 BK272.out
  try go_wp2_with (first | ((with_reducible refine gate_callee (f := 20) rfl ?_); refine goesL_ (some 28) rfl rfl Try.func20 (by kernel_rfl) rfl #[.agg #[.slice A0_0 l0_0.length c0_0, .slice A0_1 l0_1.length c0_1, .slice A0_2 l0_2.length c0_2, .slice A0_3 l0_3.length c0_3]] rfl lz ?_; (with_reducible refine (laws_toHeap.calls k _ _ l0_0 _ _ l0_1 _ _ l0_2 _ _ l0_3 t293 t296 t299 t302 _ ?side1 ?side2 ?side3 ?side4 ?side5 ?side6 ?side7 ?side8 A14.out).mono ?_); (case side1 => exact Kd.C_below HR0_0.out (bz3 HB.out GE272.out GE273.out GE292.out)); (case side2 => exact HC0_0.out); (case side3 => exact Kd.C_below HR0_1.out (bz3 HB.out GE272.out GE273.out GE292.out)); (case side4 => exact HC0_1.out); (case side5 => exact Kd.C_below HR0_2.out (bz3 HB.out GE272.out GE273.out GE292.out)); (case side6 => exact HC0_2.out); (case side7 => exact Kd.C_below HR0_3.out (bz3 HB.out GE272.out GE273.out GE292.out)); (case side8 => exact HC0_3.out); rintro e w37 ⟨v294, v297, v300, v303, rfl, ho0, ho1, ho2, ho3, hb⟩; refine ⟨_, rfl, ?_⟩; have HO295 := Aside0.mk (Kd.R_lower (Kd.R_new' ho0 (Kd.R_lt (by refine rq ?_; exact (Kd.R_mono (Kd.R_far (p := ⟨gb292, 1, none⟩) (Kd.R_far (p := ⟨gb292, 0, none⟩) (Kd.R_types HO277.out BK292.out (by decide)) (fun _ hk => hk.2) (.int .i64 t289)) (fun _ hk => hk.2) (.int .i64 t290)) (fun _ h_ => h_.1))))) (below_size (bz3 HB.out GE272.out GE273.out GE292.out))); replace HO277 := Aside0.mk (Kd.R_elder' (by refine rq ?_; exact (Kd.R_mono (Kd.R_far (p := ⟨gb292, 1, none⟩) (Kd.R_far (p := ⟨gb292, 0, none⟩) (Kd.R_types HO277.out BK292.out (by decide)) (fun _ hk => hk.2) (.int .i64 t289)) (fun _ hk => hk.2) (.int .i64 t290)) (fun _ h_ => h_.1))) (Kd.R_base ho0) hb); have HO298 := Aside0.mk (Kd.R_lower (Kd.R_new' ho1 (Kd.R_lt (by refine rq ?_; exact (Kd.R_mono (Kd.R_far (p := ⟨gb292, 1, none⟩) (Kd.R_far (p := ⟨gb292, 0, none⟩) (Kd.R_types HO280.out BK292.out (by decide)) (fun _ hk => hk.2) (.int .i64 t289)) (fun _ hk => hk.2) (.int .i64 t290)) (fun _ h_ => h_.1))))) (below_size (bz3 HB.out GE272.out GE273.out GE292.out))); replace HO280 := Aside0.mk (Kd.R_elder' (by refine rq ?_; exact (Kd.R_mono (Kd.R_far (p := ⟨gb292, 1, none⟩) (Kd.R_far (p := ⟨gb292, 0, none⟩) (Kd.R_types HO280.out BK292.out (by decide)) (fun _ hk => hk.2) (.int .i64 t289)) (fun _ hk => hk.2) (.int .i64 t290)) (fun _ h_ => h_.1))) (Kd.R_base ho1) hb); have HO301 := Aside0.mk (Kd.R_lower (Kd.R_new' ho2 (Kd.R_lt (by refine rq ?_; exact (Kd.R_mono (Kd.R_far (p := ⟨gb292, 1, none⟩) (Kd.R_far (p := ⟨gb292, 0, none⟩) (Kd.R_types HO283.out BK292.out (by decide)) (fun _ hk => hk.2) (.int .i64 t289)) (fun _ hk => hk.2) (.int .i64 t290)) (fun _ h_ => h_.1))))) (below_size (bz3 HB.out GE272.out GE273.out GE292.out))); replace HO283 := Aside0.mk (Kd.R_elder' (by refine rq ?_; exact (Kd.R_mono (Kd.R_far (p := ⟨gb292, 1, none⟩) (Kd.R_far (p := ⟨gb292, 0, none⟩) (Kd.R_types HO283.out BK292.out (by decide)) (fun _ hk => hk.2) (.int .i64 t289)) (fun _ hk => hk.2) (.int .i64 t290)) (fun _ h_ => h_.1))) (Kd.R_base ho2) hb); have HO304 := Aside0.mk (Kd.R_lower (Kd.R_newB (Kd.R_new' ho3 (Kd.R_lt (by refine rq ?_; exact (Kd.R_mono (Kd.R_far (p := ⟨gb292, 1, none⟩) (Kd.R_far (p := ⟨gb292, 0, none⟩) (Kd.R_mono HO286.out (fun k_ hk => (⟨hk, hk⟩ : _ /\ k_ ≠ gb292))) (fun _ hk => hk.2) (.int .i64 t289)) (fun _ hk => hk.2) (.int .i64 t290)) (fun _ h_ => h_.1))))) (g := gb292) (o := .cells #[.int .i64 t289, .int .i64 t290] 49 (0, 0)) (by refine kq ?_; refine blk_put (cs := #[.int .i64 t289, .int .i64 0]) ?_ 1 _ rfl; refine kq ?_; refine blk_put (cs := #[.int .i64 0, .int .i64 0]) ?_ 0 _ rfl; refine kq ?_; exact BK292.out)) (below_size (bz3 HB.out GE272.out GE273.out GE292.out))); replace HO286 := Aside0.mk (Kd.R_elder' (by refine rq ?_; exact (Kd.R_mono (Kd.R_far (p := ⟨gb292, 1, none⟩) (Kd.R_far (p := ⟨gb292, 0, none⟩) (Kd.R_mono HO286.out (fun k_ hk => (⟨hk, hk⟩ : _ /\ k_ ≠ gb292))) (fun _ hk => hk.2) (.int .i64 t289)) (fun _ hk => hk.2) (.int .i64 t290)) (fun _ h_ => h_.1))) (Kd.R_base ho3) hb); replace BK272 := Aside0.mk (blk_below (g := gb272) (o := .cells #[.slice A0_0 l0_0.length c0_0, .slice A0_1 l0_1.length c0_1, .slice A0_2 l0_2.length c0_2, .slice A0_3 l0_3.length c0_3] 44 (0, 0)) (by refine kq ?_; refine blk_far ?_ NB272_292.out _; refine kq ?_; refine blk_far ?_ NB272_292.out _; refine kq ?_; exact BK272.out) hb); replace BK273 := Aside0.mk (blk_below (g := gb273) (o := .cells #[.int .i64 a2_0, .int .i64 a2_1] 46 (0, 0)) (by refine kq ?_; refine blk_far ?_ NB273_292.out _; refine kq ?_; refine blk_far ?_ NB273_292.out _; refine kq ?_; exact BK273.out) hb); replace BK292 := Aside0.mk (blk_below (g := gb292) (o := .cells #[.int .i64 t289, .int .i64 t290] 49 (0, 0)) (by refine kq ?_; refine blk_put (cs := #[.int .i64 t289, .int .i64 0]) ?_ 1 _ rfl; refine kq ?_; refine blk_put (cs := #[.int .i64 0, .int .i64 0]) ?_ 0 _ rfl; refine kq ?_; exact BK292.out) hb); replace HB := Aside0.mk (below_step (bz3 HB.out GE272.out GE273.out GE292.out) hb); (try clear hb); (try clear hk); (try clear ho0); (try clear ho1); (try clear ho2); (try clear ho3)) | ((with_reducible refine gate_dst (N := 10) rfl ?_); refine box_event ?hg (N := 10) ?hd (cs := #[.slice none 0 0, .slice none 0 0, .slice none 0 0, .slice none 0 0]) (t := 57) ?hr ?_; (case hd => rfl); (case hg => rfl); (case hr => exact vz); intro gb305 hg w38 hbox hb; replace HO277 := qz HO277 hb; replace HO280 := qz HO280 hb; replace HO283 := qz HO283 hb; replace HO286 := qz HO286 hb; replace HO295 := qz HO295 hb; replace HO298 := qz HO298 hb; replace HO301 := qz HO301 hb; replace HO304 := qz HO304 hb; have BK305 := Aside0.mk (hbox); have GW305 := Aside0.mk ((by rw [hg]; exact (below_size (bz3 HB.out GE272.out GE273.out GE292.out)) : w.heap.size <= gb305)); have GE305 := Aside0.mk ((by rw [hg]; exact (below_size (bz3 HB.out GE272.out GE273.out GE292.out)) : w.heap.size <= gb305)); replace HB := Aside0.mk (below_step (bz3 HB.out GE272.out GE273.out GE292.out) hb); have NB272_305 := Aside0.mk ((by rw [hg]; exact Nat.ne_of_lt (blk_lt (g := gb272) (o := .cells #[.slice A0_0 l0_0.length c0_0, .slice A0_1 l0_1.length c0_1, .slice A0_2 l0_2.length c0_2, .slice A0_3 l0_3.length c0_3] 44 (0, 0)) (kz BK272.out)) : gb272 ≠ gb305)); have NB305_272 := Aside0.mk ((by rw [hg]; exact Nat.ne_of_gt (blk_lt (g := gb272) (o := .cells #[.slice A0_0 l0_0.length c0_0, .slice A0_1 l0_1.length c0_1, .slice A0_2 l0_2.length c0_2, .slice A0_3 l0_3.length c0_3] 44 (0, 0)) (kz BK272.out)) : gb305 ≠ gb272)); replace BK272 := Aside0.mk (blk_below (kz BK272.out) hb); have NB273_305 := Aside0.mk ((by rw [hg]; exact Nat.ne_of_lt (blk_lt (g := gb273) (o := .cells #[.int .i64 a2_0, .int .i64 a2_1] 46 (0, 0)) (kz BK273.out)) : gb273 ≠ gb305)); have NB305_273 := Aside0.mk ((by rw [hg]; exact Nat.ne_of_gt (blk_lt (g := gb273) (o := .cells #[.int .i64 a2_0, .int .i64 a2_1] 46 (0, 0)) (kz BK273.out)) : gb305 ≠ gb273)); replace BK273 := Aside0.mk (blk_below (kz BK273.out) hb); have NB292_305 := Aside0.mk ((by rw [hg]; exact Nat.ne_of_lt (blk_lt (g := gb292) (o := .cells #[.int .i64 t289, .int .i64 t290] 49 (0, 0)) (kz BK292.out)) : gb292 ≠ gb305)); have NB305_292 := Aside0.mk ((by rw [hg]; exact Nat.ne_of_gt (blk_lt (g := gb292) (o := .cells #[.int .i64 t289, .int .i64 t290] 49 (0, 0)) (kz BK292.out)) : gb305 ≠ gb292)); replace BK292 := Aside0.mk (blk_below (kz BK292.out) hb); clear hb hbox hg; obtain ⟨Ao39, co39, eo39⟩ := Kd.R_slice HO295.out; subst eo39; have hnb40 := NB305_272.out; have hnc40 := NB272_305.out; have hnb41 := NB305_273.out; have hnc41 := NB273_305.out; have hnb42 := NB305_292.out; have hnc42 := NB292_305.out; obtain ⟨hcz43_0, hcz43_1, hcz43_2, hcz43_3⟩ := cz4 BK305.out; obtain ⟨hfz43_0, hfz43_1, hfz43_2, hfz43_3⟩ := fz4 BK305.out; obtain ⟨Ao44, co44, eo44⟩ := Kd.R_slice HO298.out; subst eo44; obtain ⟨Ao45, co45, eo45⟩ := Kd.R_slice HO301.out; subst eo45; obtain ⟨Ao46, co46, eo46⟩ := Kd.R_slice HO304.out; subst eo46))
  have n0_ : Aside0 (Kd.R k97 97 ((((w38.setCell ⟨gb305, 0, none⟩ (.slice Ao39 t293.length co39)).setCell ⟨gb305, 1, none⟩ (.slice Ao44 t296.length co44)).setCell ⟨gb305, 2, none⟩ (.slice Ao45 t299.length co45)).setCell ⟨gb305, 3, none⟩ (.slice Ao46 t302.length co46)) w.heap.size (fun k_ => some k_ ≠ (.slice Ao39 t293.length co39 : Value).ownBlock) v276 t275) := ⟨by refine rq ?_; first | (with_reducible exact Kd.R_mono (Kd.R_far (p := ⟨gb305, 3, none⟩) (Kd.R_far (p := ⟨gb305, 2, none⟩) (Kd.R_far (p := ⟨gb305, 1, none⟩) (Kd.R_far (p := ⟨gb305, 0, none⟩) (Kd.R_types HO277.out BK305.out (by decide)) (fun _ hk => hk.2) (.slice Ao39 t293.length co39)) (fun _ hk => hk.2) (.slice Ao44 t296.length co44)) (fun _ hk => hk.2) (.slice Ao45 t299.length co45)) (fun _ hk => hk.2) (.slice Ao46 t302.length co46)) (fun _ hk => hk.1.2)) | (with_reducible exact Kd.R_mono (Kd.R_far (p := ⟨gb305, 3, none⟩) (Kd.R_drewN (Kd.R_far (p := ⟨gb305, 2, none⟩) (Kd.R_far (p := ⟨gb305, 1, none⟩) (Kd.R_far (p := ⟨gb305, 0, none⟩) (Kd.R_types HO277.out BK305.out (by decide)) (fun _ hk => hk.2) (.slice Ao39 t293.length co39)) (fun _ hk => hk.2) (.slice Ao44 t296.length co44)) (fun _ hk => hk.2) (.slice Ao45 t299.length co45)) _) (fun _ hk => hk.2) (.slice Ao46 t302.length co46)) (fun _ hk => hk.1.2)) | exact Kd.R_mono (Kd.R_far (p := ⟨gb305, 3, none⟩) (Kd.R_drewN (Kd.R_far (p := ⟨gb305, 2, none⟩) (Kd.R_far (p := ⟨gb305, 1, none⟩) (Kd.R_far (p := ⟨gb305, 0, none⟩) (Kd.R_types HO277.out BK305.out (by decide)) (fun _ hk => hk.2) (.slice Ao39 t293.length co39)) (fun _ hk => hk.2) (.slice Ao44 t296.length co44)) (fun _ hk => hk.2) (.slice Ao45 t299.length co45)) _) (fun _ hk => hk.2) (.slice Ao46 t302.length co46)) (fun _ hk => hk.1.2)⟩
  have n1_ : Aside0 (Kd.R k100 100 ((((w38.setCell ⟨gb305, 0, none⟩ (.slice Ao39 t293.length co39)).setCell ⟨gb305, 1, none⟩ (.slice Ao44 t296.length co44)).setCell ⟨gb305, 2, none⟩ (.slice Ao45 t299.length co45)).setCell ⟨gb305, 3, none⟩ (.slice Ao46 t302.length co46)) w.heap.size (fun k_ => some k_ ≠ (.slice Ao44 t296.length co44 : Value).ownBlock) v279 t278) := ⟨by refine rq ?_; first | (with_reducible exact Kd.R_mono (Kd.R_far (p := ⟨gb305, 3, none⟩) (Kd.R_far (p := ⟨gb305, 2, none⟩) (Kd.R_far (p := ⟨gb305, 1, none⟩) (Kd.R_far (p := ⟨gb305, 0, none⟩) (Kd.R_types HO280.out BK305.out (by decide)) (fun _ hk => hk.2) (.slice Ao39 t293.length co39)) (fun _ hk => hk.2) (.slice Ao44 t296.length co44)) (fun _ hk => hk.2) (.slice Ao45 t299.length co45)) (fun _ hk => hk.2) (.slice Ao46 t302.length co46)) (fun _ hk => hk.1.2)) | (with_reducible exact Kd.R_mono (Kd.R_far (p := ⟨gb305, 3, none⟩) (Kd.R_drewN (Kd.R_far (p := ⟨gb305, 2, none⟩) (Kd.R_far (p := ⟨gb305, 1, none⟩) (Kd.R_far (p := ⟨gb305, 0, none⟩) (Kd.R_types HO280.out BK305.out (by decide)) (fun _ hk => hk.2) (.slice Ao39 t293.length co39)) (fun _ hk => hk.2) (.slice Ao44 t296.length co44)) (fun _ hk => hk.2) (.slice Ao45 t299.length co45)) _) (fun _ hk => hk.2) (.slice Ao46 t302.length co46)) (fun _ hk => hk.1.2)) | exact Kd.R_mono (Kd.R_far (p := ⟨gb305, 3, none⟩) (Kd.R_drewN (Kd.R_far (p := ⟨gb305, 2, none⟩) (Kd.R_far (p := ⟨gb305, 1, none⟩) (Kd.R_far (p := ⟨gb305, 0, none⟩) (Kd.R_types HO280.out BK305.out (by decide)) (fun _ hk => hk.2) (.slice Ao39 t293.length co39)) (fun _ hk => hk.2) (.slice Ao44 t296.length co44)) (fun _ hk => hk.2) (.slice Ao45 t299.length co45)) _) (fun _ hk => hk.2) (.slice Ao46 t302.length co46)) (fun _ hk => hk.1.2)⟩
  have n2_ : Aside0 (Kd.R k102 102 ((((w38.setCell ⟨gb305, 0, none⟩ (.slice Ao39 t293.length co39)).setCell ⟨gb305, 1, none⟩ (.slice Ao44 t296.length co44)).setCell ⟨gb305, 2, none⟩ (.slice Ao45 t299.length co45)).setCell ⟨gb305, 3, none⟩ (.slice Ao46 t302.length co46)) w.heap.size (fun k_ => some k_ ≠ (.slice Ao45 t299.length co45 : Value).ownBlock) v282 t281) := ⟨by refine rq ?_; first | (with_reducible exact Kd.R_mono (Kd.R_far (p := ⟨gb305, 3, none⟩) (Kd.R_far (p := ⟨gb305, 2, none⟩) (Kd.R_far (p := ⟨gb305, 1, none⟩) (Kd.R_far (p := ⟨gb305, 0, none⟩) (Kd.R_types HO283.out BK305.out (by decide)) (fun _ hk => hk.2) (.slice Ao39 t293.length co39)) (fun _ hk => hk.2) (.slice Ao44 t296.length co44)) (fun _ hk => hk.2) (.slice Ao45 t299.length co45)) (fun _ hk => hk.2) (.slice Ao46 t302.length co46)) (fun _ hk => hk.1.2)) | (with_reducible exact Kd.R_mono (Kd.R_far (p := ⟨gb305, 3, none⟩) (Kd.R_drewN (Kd.R_far (p := ⟨gb305, 2, none⟩) (Kd.R_far (p := ⟨gb305, 1, none⟩) (Kd.R_far (p := ⟨gb305, 0, none⟩) (Kd.R_types HO283.out BK305.out (by decide)) (fun _ hk => hk.2) (.slice Ao39 t293.length co39)) (fun _ hk => hk.2) (.slice Ao44 t296.length co44)) (fun _ hk => hk.2) (.slice Ao45 t299.length co45)) _) (fun _ hk => hk.2) (.slice Ao46 t302.length co46)) (fun _ hk => hk.1.2)) | exact Kd.R_mono (Kd.R_far (p := ⟨gb305, 3, none⟩) (Kd.R_drewN (Kd.R_far (p := ⟨gb305, 2, none⟩) (Kd.R_far (p := ⟨gb305, 1, none⟩) (Kd.R_far (p := ⟨gb305, 0, none⟩) (Kd.R_types HO283.out BK305.out (by decide)) (fun _ hk => hk.2) (.slice Ao39 t293.length co39)) (fun _ hk => hk.2) (.slice Ao44 t296.length co44)) (fun _ hk => hk.2) (.slice Ao45 t299.length co45)) _) (fun _ hk => hk.2) (.slice Ao46 t302.length co46)) (fun _ hk => hk.1.2)⟩
  have n3_ : Aside0 (Kd.R k49 49 ((((w38.setCell ⟨gb305, 0, none⟩ (.slice Ao39 t293.length co39)).setCell ⟨gb305, 1, none⟩ (.slice Ao44 t296.length co44)).setCell ⟨gb305, 2, none⟩ (.slice Ao45 t299.length co45)).setCell ⟨gb305, 3, none⟩ (.slice Ao46 t302.length co46)) w.heap.size (fun k_ => some k_ ≠ (.slice Ao46 t302.length co46 : Value).ownBlock /\ k_ ≠ gb292) v285 t284) := ⟨by refine rq ?_; first | (with_reducible exact Kd.R_mono (Kd.R_far (p := ⟨gb305, 3, none⟩) (Kd.R_far (p := ⟨gb305, 2, none⟩) (Kd.R_far (p := ⟨gb305, 1, none⟩) (Kd.R_far (p := ⟨gb305, 0, none⟩) (Kd.R_types HO286.out BK305.out (by decide)) (fun _ hk => hk.2) (.slice Ao39 t293.length co39)) (fun _ hk => hk.2) (.slice Ao44 t296.length co44)) (fun _ hk => hk.2) (.slice Ao45 t299.length co45)) (fun _ hk => hk.2) (.slice Ao46 t302.length co46)) (fun _ hk => ⟨hk.1.2, hk.1.1⟩)) | (with_reducible exact Kd.R_mono (Kd.R_far (p := ⟨gb305, 3, none⟩) (Kd.R_drewN (Kd.R_far (p := ⟨gb305, 2, none⟩) (Kd.R_far (p := ⟨gb305, 1, none⟩) (Kd.R_far (p := ⟨gb305, 0, none⟩) (Kd.R_types HO286.out BK305.out (by decide)) (fun _ hk => hk.2) (.slice Ao39 t293.length co39)) (fun _ hk => hk.2) (.slice Ao44 t296.length co44)) (fun _ hk => hk.2) (.slice Ao45 t299.length co45)) _) (fun _ hk => hk.2) (.slice Ao46 t302.length co46)) (fun _ hk => ⟨hk.1.2, hk.1.1⟩)) | exact Kd.R_mono (Kd.R_far (p := ⟨gb305, 3, none⟩) (Kd.R_drewN (Kd.R_far (p := ⟨gb305, 2, none⟩) (Kd.R_far (p := ⟨gb305, 1, none⟩) (Kd.R_far (p := ⟨gb305, 0, none⟩) (Kd.R_types HO286.out BK305.out (by decide)) (fun _ hk => hk.2) (.slice Ao39 t293.length co39)) (fun _ hk => hk.2) (.slice Ao44 t296.length co44)) (fun _ hk => hk.2) (.slice Ao45 t299.length co45)) _) (fun _ hk => hk.2) (.slice Ao46 t302.length co46)) (fun _ hk => ⟨hk.1.2, hk.1.1⟩)⟩
  have n4_ : Aside0 (Kd.R k97 97 ((((w38.setCell ⟨gb305, 0, none⟩ (.slice Ao39 t293.length co39)).setCell ⟨gb305, 1, none⟩ (.slice Ao44 t296.length co44)).setCell ⟨gb305, 2, none⟩ (.slice Ao45 t299.length co45)).setCell ⟨gb305, 3, none⟩ (.slice Ao46 t302.length co46)) w.heap.size (fun k_ => some k_ ≠ (v276 : Value).ownBlock) (.slice Ao39 t293.length co39) t293) := ⟨by refine rq ?_; first | (with_reducible exact Kd.R_mono (Kd.R_far (p := ⟨gb305, 3, none⟩) (Kd.R_far (p := ⟨gb305, 2, none⟩) (Kd.R_far (p := ⟨gb305, 1, none⟩) (Kd.R_far (p := ⟨gb305, 0, none⟩) (Kd.R_types HO295.out BK305.out (by decide)) (fun _ hk => hk.2) (.slice Ao39 t293.length co39)) (fun _ hk => hk.2) (.slice Ao44 t296.length co44)) (fun _ hk => hk.2) (.slice Ao45 t299.length co45)) (fun _ hk => hk.2) (.slice Ao46 t302.length co46)) (fun _ hk => hk.1.2)) | (with_reducible exact Kd.R_mono (Kd.R_far (p := ⟨gb305, 3, none⟩) (Kd.R_drewN (Kd.R_far (p := ⟨gb305, 2, none⟩) (Kd.R_far (p := ⟨gb305, 1, none⟩) (Kd.R_far (p := ⟨gb305, 0, none⟩) (Kd.R_types HO295.out BK305.out (by decide)) (fun _ hk => hk.2) (.slice Ao39 t293.length co39)) (fun _ hk => hk.2) (.slice Ao44 t296.length co44)) (fun _ hk => hk.2) (.slice Ao45 t299.length co45)) _) (fun _ hk => hk.2) (.slice Ao46 t302.length co46)) (fun _ hk => hk.1.2)) | exact Kd.R_mono (Kd.R_far (p := ⟨gb305, 3, none⟩) (Kd.R_drewN (Kd.R_far (p := ⟨gb305, 2, none⟩) (Kd.R_far (p := ⟨gb305, 1, none⟩) (Kd.R_far (p := ⟨gb305, 0, none⟩) (Kd.R_types HO295.out BK305.out (by decide)) (fun _ hk => hk.2) (.slice Ao39 t293.length co39)) (fun _ hk => hk.2) (.slice Ao44 t296.length co44)) (fun _ hk => hk.2) (.slice Ao45 t299.length co45)) _) (fun _ hk => hk.2) (.slice Ao46 t302.length co46)) (fun _ hk => hk.1.2)⟩
  have n5_ : Aside0 (Kd.R k100 100 ((((w38.setCell ⟨gb305, 0, none⟩ (.slice Ao39 t293.length co39)).setCell ⟨gb305, 1, none⟩ (.slice Ao44 t296.length co44)).setCell ⟨gb305, 2, none⟩ (.slice Ao45 t299.length co45)).setCell ⟨gb305, 3, none⟩ (.slice Ao46 t302.length co46)) w.heap.size (fun k_ => some k_ ≠ (v279 : Value).ownBlock) (.slice Ao44 t296.length co44) t296) := ⟨by refine rq ?_; first | (with_reducible exact Kd.R_mono (Kd.R_far (p := ⟨gb305, 3, none⟩) (Kd.R_far (p := ⟨gb305, 2, none⟩) (Kd.R_far (p := ⟨gb305, 1, none⟩) (Kd.R_far (p := ⟨gb305, 0, none⟩) (Kd.R_types HO298.out BK305.out (by decide)) (fun _ hk => hk.2) (.slice Ao39 t293.length co39)) (fun _ hk => hk.2) (.slice Ao44 t296.length co44)) (fun _ hk => hk.2) (.slice Ao45 t299.length co45)) (fun _ hk => hk.2) (.slice Ao46 t302.length co46)) (fun _ hk => hk.1.2)) | (with_reducible exact Kd.R_mono (Kd.R_far (p := ⟨gb305, 3, none⟩) (Kd.R_drewN (Kd.R_far (p := ⟨gb305, 2, none⟩) (Kd.R_far (p := ⟨gb305, 1, none⟩) (Kd.R_far (p := ⟨gb305, 0, none⟩) (Kd.R_types HO298.out BK305.out (by decide)) (fun _ hk => hk.2) (.slice Ao39 t293.length co39)) (fun _ hk => hk.2) (.slice Ao44 t296.length co44)) (fun _ hk => hk.2) (.slice Ao45 t299.length co45)) _) (fun _ hk => hk.2) (.slice Ao46 t302.length co46)) (fun _ hk => hk.1.2)) | exact Kd.R_mono (Kd.R_far (p := ⟨gb305, 3, none⟩) (Kd.R_drewN (Kd.R_far (p := ⟨gb305, 2, none⟩) (Kd.R_far (p := ⟨gb305, 1, none⟩) (Kd.R_far (p := ⟨gb305, 0, none⟩) (Kd.R_types HO298.out BK305.out (by decide)) (fun _ hk => hk.2) (.slice Ao39 t293.length co39)) (fun _ hk => hk.2) (.slice Ao44 t296.length co44)) (fun _ hk => hk.2) (.slice Ao45 t299.length co45)) _) (fun _ hk => hk.2) (.slice Ao46 t302.length co46)) (fun _ hk => hk.1.2)⟩
  have n6_ : Aside0 (Kd.R k102 102 ((((w38.setCell ⟨gb305, 0, none⟩ (.slice Ao39 t293.length co39)).setCell ⟨gb305, 1, none⟩ (.slice Ao44 t296.length co44)).setCell ⟨gb305, 2, none⟩ (.slice Ao45 t299.length co45)).setCell ⟨gb305, 3, none⟩ (.slice Ao46 t302.length co46)) w.heap.size (fun k_ => some k_ ≠ (v282 : Value).ownBlock) (.slice Ao45 t299.length co45) t299) := ⟨by refine rq ?_; first | (with_reducible exact Kd.R_mono (Kd.R_far (p := ⟨gb305, 3, none⟩) (Kd.R_far (p := ⟨gb305, 2, none⟩) (Kd.R_far (p := ⟨gb305, 1, none⟩) (Kd.R_far (p := ⟨gb305, 0, none⟩) (Kd.R_types HO301.out BK305.out (by decide)) (fun _ hk => hk.2) (.slice Ao39 t293.length co39)) (fun _ hk => hk.2) (.slice Ao44 t296.length co44)) (fun _ hk => hk.2) (.slice Ao45 t299.length co45)) (fun _ hk => hk.2) (.slice Ao46 t302.length co46)) (fun _ hk => hk.1.2)) | (with_reducible exact Kd.R_mono (Kd.R_far (p := ⟨gb305, 3, none⟩) (Kd.R_drewN (Kd.R_far (p := ⟨gb305, 2, none⟩) (Kd.R_far (p := ⟨gb305, 1, none⟩) (Kd.R_far (p := ⟨gb305, 0, none⟩) (Kd.R_types HO301.out BK305.out (by decide)) (fun _ hk => hk.2) (.slice Ao39 t293.length co39)) (fun _ hk => hk.2) (.slice Ao44 t296.length co44)) (fun _ hk => hk.2) (.slice Ao45 t299.length co45)) _) (fun _ hk => hk.2) (.slice Ao46 t302.length co46)) (fun _ hk => hk.1.2)) | exact Kd.R_mono (Kd.R_far (p := ⟨gb305, 3, none⟩) (Kd.R_drewN (Kd.R_far (p := ⟨gb305, 2, none⟩) (Kd.R_far (p := ⟨gb305, 1, none⟩) (Kd.R_far (p := ⟨gb305, 0, none⟩) (Kd.R_types HO301.out BK305.out (by decide)) (fun _ hk => hk.2) (.slice Ao39 t293.length co39)) (fun _ hk => hk.2) (.slice Ao44 t296.length co44)) (fun _ hk => hk.2) (.slice Ao45 t299.length co45)) _) (fun _ hk => hk.2) (.slice Ao46 t302.length co46)) (fun _ hk => hk.1.2)⟩
  have n7_ : Aside0 (Kd.R k49 49 ((((w38.setCell ⟨gb305, 0, none⟩ (.slice Ao39 t293.length co39)).setCell ⟨gb305, 1, none⟩ (.slice Ao44 t296.length co44)).setCell ⟨gb305, 2, none⟩ (.slice Ao45 t299.length co45)).setCell ⟨gb305, 3, none⟩ (.slice Ao46 t302.length co46)) w.heap.size (fun k_ => some k_ ≠ (v285 : Value).ownBlock /\ k_ ≠ gb292) (.slice Ao46 t302.length co46) t302) := ⟨by refine rq ?_; first | (with_reducible exact Kd.R_mono (Kd.R_far (p := ⟨gb305, 3, none⟩) (Kd.R_far (p := ⟨gb305, 2, none⟩) (Kd.R_far (p := ⟨gb305, 1, none⟩) (Kd.R_far (p := ⟨gb305, 0, none⟩) (Kd.R_types HO304.out BK305.out (by decide)) (fun _ hk => hk.2) (.slice Ao39 t293.length co39)) (fun _ hk => hk.2) (.slice Ao44 t296.length co44)) (fun _ hk => hk.2) (.slice Ao45 t299.length co45)) (fun _ hk => hk.2) (.slice Ao46 t302.length co46)) (fun _ hk => ⟨hk.1.1.2, hk.1.2⟩)) | (with_reducible exact Kd.R_mono (Kd.R_far (p := ⟨gb305, 3, none⟩) (Kd.R_drewN (Kd.R_far (p := ⟨gb305, 2, none⟩) (Kd.R_far (p := ⟨gb305, 1, none⟩) (Kd.R_far (p := ⟨gb305, 0, none⟩) (Kd.R_types HO304.out BK305.out (by decide)) (fun _ hk => hk.2) (.slice Ao39 t293.length co39)) (fun _ hk => hk.2) (.slice Ao44 t296.length co44)) (fun _ hk => hk.2) (.slice Ao45 t299.length co45)) _) (fun _ hk => hk.2) (.slice Ao46 t302.length co46)) (fun _ hk => ⟨hk.1.1.2, hk.1.2⟩)) | exact Kd.R_mono (Kd.R_far (p := ⟨gb305, 3, none⟩) (Kd.R_drewN (Kd.R_far (p := ⟨gb305, 2, none⟩) (Kd.R_far (p := ⟨gb305, 1, none⟩) (Kd.R_far (p := ⟨gb305, 0, none⟩) (Kd.R_types HO304.out BK305.out (by decide)) (fun _ hk => hk.2) (.slice Ao39 t293.length co39)) (fun _ hk => hk.2) (.slice Ao44 t296.length co44)) (fun _ hk => hk.2) (.slice Ao45 t299.length co45)) _) (fun _ hk => hk.2) (.slice Ao46 t302.length co46)) (fun _ hk => ⟨hk.1.1.2, hk.1.2⟩)⟩
  have n8_ : Aside0 (((((w38.setCell ⟨gb305, 0, none⟩ (.slice Ao39 t293.length co39)).setCell ⟨gb305, 1, none⟩ (.slice Ao44 t296.length co44)).setCell ⟨gb305, 2, none⟩ (.slice Ao45 t299.length co45)).setCell ⟨gb305, 3, none⟩ (.slice Ao46 t302.length co46)).heap[gb272]? = some (.cells #[.slice A0_0 l0_0.length c0_0, .slice A0_1 l0_1.length c0_1, .slice A0_2 l0_2.length c0_2, .slice A0_3 l0_3.length c0_3] 44 (0, 0))) := ⟨by refine kq ?_; refine blk_far ?_ NB272_305.out _; refine kq ?_; refine blk_far ?_ NB272_305.out _; refine kq ?_; refine blk_far ?_ NB272_305.out _; refine kq ?_; refine blk_far ?_ NB272_305.out _; refine kq ?_; exact BK272.out⟩
  have n9_ : Aside0 (((((w38.setCell ⟨gb305, 0, none⟩ (.slice Ao39 t293.length co39)).setCell ⟨gb305, 1, none⟩ (.slice Ao44 t296.length co44)).setCell ⟨gb305, 2, none⟩ (.slice Ao45 t299.length co45)).setCell ⟨gb305, 3, none⟩ (.slice Ao46 t302.length co46)).heap[gb273]? = some (.cells #[.int .i64 a2_0, .int .i64 a2_1] 46 (0, 0))) := ⟨by refine kq ?_; refine blk_far ?_ NB273_305.out _; refine kq ?_; refine blk_far ?_ NB273_305.out _; refine kq ?_; refine blk_far ?_ NB273_305.out _; refine kq ?_; refine blk_far ?_ NB273_305.out _; refine kq ?_; exact BK273.out⟩
  have n10_ : Aside0 (((((w38.setCell ⟨gb305, 0, none⟩ (.slice Ao39 t293.length co39)).setCell ⟨gb305, 1, none⟩ (.slice Ao44 t296.length co44)).setCell ⟨gb305, 2, none⟩ (.slice Ao45 t299.length co45)).setCell ⟨gb305, 3, none⟩ (.slice Ao46 t302.length co46)).heap[gb292]? = some (.cells #[.int .i64 t289, .int .i64 t290] 49 (0, 0))) := ⟨by refine kq ?_; refine blk_far ?_ NB292_305.out _; refine kq ?_; refine blk_far ?_ NB292_305.out _; refine kq ?_; refine blk_far ?_ NB292_305.out _; refine kq ?_; refine blk_far ?_ NB292_305.out _; refine kq ?_; exact BK292.out⟩
  have n11_ : Aside0 (((((w38.setCell ⟨gb305, 0, none⟩ (.slice Ao39 t293.length co39)).setCell ⟨gb305, 1, none⟩ (.slice Ao44 t296.length co44)).setCell ⟨gb305, 2, none⟩ (.slice Ao45 t299.length co45)).setCell ⟨gb305, 3, none⟩ (.slice Ao46 t302.length co46)).heap[gb305]? = some (.cells #[.slice Ao39 t293.length co39, .slice Ao44 t296.length co44, .slice Ao45 t299.length co45, .slice Ao46 t302.length co46] 57 (0, 0))) := ⟨by refine kq ?_; refine blk_put (cs := #[.slice Ao39 t293.length co39, .slice Ao44 t296.length co44, .slice Ao45 t299.length co45, .slice none 0 0]) ?_ 3 _ rfl; refine kq ?_; refine blk_put (cs := #[.slice Ao39 t293.length co39, .slice Ao44 t296.length co44, .slice none 0 0, .slice none 0 0]) ?_ 2 _ rfl; refine kq ?_; refine blk_put (cs := #[.slice Ao39 t293.length co39, .slice none 0 0, .slice none 0 0, .slice none 0 0]) ?_ 1 _ rfl; refine kq ?_; refine blk_put (cs := #[.slice none 0 0, .slice none 0 0, .slice none 0 0, .slice none 0 0]) ?_ 0 _ rfl; refine kq ?_; exact BK305.out⟩
  have n12_ : Aside0 (Below w.heap.size w ((((w38.setCell ⟨gb305, 0, none⟩ (.slice Ao39 t293.length co39)).setCell ⟨gb305, 1, none⟩ (.slice Ao44 t296.length co44)).setCell ⟨gb305, 2, none⟩ (.slice Ao45 t299.length co45)).setCell ⟨gb305, 3, none⟩ (.slice Ao46 t302.length co46))) := ⟨(bz4 HB.out GE272.out GE273.out GE292.out GE305.out)⟩
  (try clear HO277)
  (try clear HO280)
  (try clear HO283)
  (try clear HO286)
  (try clear HO295)
  (try clear HO298)
  (try clear HO301)
  (try clear HO304)
  (try clear BK272)
  (try clear BK273)
  (try clear BK292)
  (try clear BK305)
  (try clear HB)
  generalize ((((w38.setCell ⟨gb305, 0, none⟩ (.slice Ao39 t293.length co39)).setCell ⟨gb305, 1, none⟩ (.slice Ao44 t296.length co44)).setCell ⟨gb305, 2, none⟩ (.slice Ao45 t299.length co45)).setCell ⟨gb305, 3, none⟩ (.slice Ao46 t302.length co46)) = w47 at n0_ n1_ n2_ n3_ n4_ n5_ n6_ n7_ n8_ n9_ n10_ n11_ n12_ ⊢
  have HO277 := n0_
  have HO280 := n1_
  have HO283 := n2_
  have HO286 := n3_
  have HO295 := n4_
  have HO298 := n5_
  have HO301 := n6_
  have HO304 := n7_
  have BK272 := n8_
  have BK273 := n9_
  have BK292 := n10_
  have BK305 := n11_
  have HB := n12_
  clear n0_ n1_ n2_ n3_ n4_ n5_ n6_ n7_ n8_ n9_ n10_ n11_ n12_
  have n0_ := Aside0.mk (Kd.R_drew HO277.out)
  have n1_ := Aside0.mk (Kd.R_drew HO280.out)
  have n2_ := Aside0.mk (Kd.R_drew HO283.out)
  have n3_ := Aside0.mk (Kd.R_drew HO286.out)
  have n4_ := Aside0.mk (Kd.R_drew HO295.out)
  have n5_ := Aside0.mk (Kd.R_drew HO298.out)
  have n6_ := Aside0.mk (Kd.R_drew HO301.out)
  have n7_ := Aside0.mk (Kd.R_drew HO304.out)
  have n8_ := Aside0.mk (blk_drew BK272.out)
  have n9_ := Aside0.mk (blk_drew BK273.out)
  have n10_ := Aside0.mk (blk_drew BK292.out)
  have n11_ := Aside0.mk (blk_drew BK305.out)
  have n12_ := Aside0.mk (below_drew1 HB.out)
  clear HO277
  clear HO280
  clear HO283
  clear HO286
  clear HO295
  clear HO298
  clear HO301
  clear HO304
  clear BK272
  clear BK273
  clear BK292
  clear BK305
  clear HB
  have HO277 := n0_
  have HO280 := n1_
  have HO283 := n2_
  have HO286 := n3_
  have HO295 := n4_
  have HO298 := n5_
  have HO301 := n6_
  have HO304 := n7_
  have BK272 := n8_
  have BK273 := n9_
  have BK292 := n10_
  have BK305 := n11_
  have HB := n12_
  clear n0_ n1_ n2_ n3_ n4_ n5_ n6_ n7_ n8_ n9_ n10_ n11_ n12_
  refine start_ (n := 11) (S := fun w' => w'.cell? ⟨gb305, 0, none⟩ = some (.slice Ao39 t293.length co39) /\ w'.cell? ⟨gb305, 1, none⟩ = some (.slice Ao44 t296.length co44) /\ w'.cell? ⟨gb305, 2, none⟩ = some (.slice Ao45 t299.length co45) /\ w'.cell? ⟨gb305, 3, none⟩ = some (.slice Ao46 t302.length co46) /\ w'.cell? ⟨gb273, 0, none⟩ = some (.int .i64 a2_0) /\ w'.cell? ⟨gb273, 1, none⟩ = some (.int .i64 a2_1)) (ds := []) #[ff, ff, ff, ff, ff, ff, ff, ff, ff, ff, ff] (by kernel_rfl) rfl rfl ⟨(blk_cell BK305.out 0).trans rfl, (blk_cell BK305.out 1).trans rfl, (blk_cell BK305.out 2).trans rfl, (blk_cell BK305.out 3).trans rfl, (blk_cell BK273.out 0).trans rfl, (blk_cell BK273.out 1).trans rfl⟩ (fun hHeld => ?_); refine with_tabW laws_FnExactLookUp.tab7 laws_FnExactLookUp.bits7 (fun HT_ HW_ => ?_)
  generalize w47.drew = w48 at HO277 HO280 HO283 HO286 HO295 HO298 HO301 HO304 BK272 BK273 BK292 BK305 HB hHeld ⊢
  refine pure_ (i := 1) (N := some 31) (v := ?_) (a' := ?_) #[ff, tt, ff, ff, ff, ff, ff, ff, ff, ff, ff] rfl rfl (any_of HT_.out (by kernel_rfl)) (fun _ _ _ h => h) (Or.inl ⟨by rfl, ?_⟩) ?_ ?_
  rotate_left
  ·intro w'
   go_simp
   with_reducible rfl
  rotate_left
  ·simp only [Act.put, sz1, sz2, sz3, i64_w, i32_w]
   rfl
  refine take_ (i := 0) (N := some 30) (v := ?_) (a' := ?_) #[tt, tt, ff, ff, ff, ff, ff, ff, ff, ff, ff] rfl rfl (take_ofW HT_.out HW_.out (by kernel_rfl)) (fun _ _ _ h => h) (Or.inl ⟨by rfl, ?_⟩) hHeld ?_ ?_
  rotate_left
  ·rintro w' ⟨s0, s1, s2, s3, s4, s5⟩
   go_simp
   with_reducible rfl
  rotate_left
  ·simp only [Act.put, sz1, sz2, sz3, i64_w, i32_w]
   rfl
  refine take_ (i := 2) (N := some 32) (v := ?_) (a' := ?_) #[tt, tt, tt, ff, ff, ff, ff, ff, ff, ff, ff] rfl rfl (take_ofW HT_.out HW_.out (by kernel_rfl)) (fun _ _ _ h => h) (Or.inl ⟨by rfl, ?_⟩) hHeld ?_ ?_
  rotate_left
  ·rintro w' ⟨s0, s1, s2, s3, s4, s5⟩
   go_simp
   with_reducible rfl
  rotate_left
  ·simp only [Act.put, sz1, sz2, sz3, i64_w, i32_w]
   rfl
  refine join_ (σ := Nat) 2 #[true, true, true, true, true, true, true, true, true, false, false] (fun s_ => [(33, .agg #[.int .i64 t306, .int .i64 t307]), (34, .tuple #[.agg #[.int .i64 t308, .int .i64 t309], .bool t310]), (11, .pointer (some ⟨s_, 0, none⟩)), (29, .tuple #[.agg #[.int .i64 t308, .int .i64 t309], .bool t310]), (35, .agg #[.int .i64 t308, .int .i64 t309]), (36, .bool t310)]) (fun s_ w' => (w'.cell? ⟨gb305, 0, none⟩ = some (.slice Ao39 t293.length co39) /\ w'.cell? ⟨gb305, 1, none⟩ = some (.slice Ao44 t296.length co44) /\ w'.cell? ⟨gb305, 2, none⟩ = some (.slice Ao45 t299.length co45) /\ w'.cell? ⟨gb305, 3, none⟩ = some (.slice Ao46 t302.length co46) /\ w'.cell? ⟨gb273, 0, none⟩ = some (.int .i64 a2_0) /\ w'.cell? ⟨gb273, 1, none⟩ = some (.int .i64 a2_1)) /\ (Kd.R k97 97 w' w.heap.size (fun k_ => some k_ ≠ (.slice Ao39 t293.length co39 : Value).ownBlock) v276 t275) /\ (Kd.R k100 100 w' w.heap.size (fun k_ => some k_ ≠ (.slice Ao44 t296.length co44 : Value).ownBlock) v279 t278) /\ (Kd.R k102 102 w' w.heap.size (fun k_ => some k_ ≠ (.slice Ao45 t299.length co45 : Value).ownBlock) v282 t281) /\ (Kd.R k49 49 w' w.heap.size (fun k_ => some k_ ≠ (.slice Ao46 t302.length co46 : Value).ownBlock /\ k_ ≠ gb292 /\ k_ ≠ s_) v285 t284) /\ (Kd.R k97 97 w' w.heap.size (fun k_ => some k_ ≠ (v276 : Value).ownBlock) (.slice Ao39 t293.length co39) t293) /\ (Kd.R k100 100 w' w.heap.size (fun k_ => some k_ ≠ (v279 : Value).ownBlock) (.slice Ao44 t296.length co44) t296) /\ (Kd.R k102 102 w' w.heap.size (fun k_ => some k_ ≠ (v282 : Value).ownBlock) (.slice Ao45 t299.length co45) t299) /\ (Kd.R k49 49 w' w.heap.size (fun k_ => some k_ ≠ (v285 : Value).ownBlock /\ k_ ≠ gb292 /\ k_ ≠ s_) (.slice Ao46 t302.length co46) t302) /\ (w'.heap[gb272]? = some (.cells #[.slice A0_0 l0_0.length c0_0, .slice A0_1 l0_1.length c0_1, .slice A0_2 l0_2.length c0_2, .slice A0_3 l0_3.length c0_3] 44 (0, 0))) /\ (w'.heap[gb273]? = some (.cells #[.int .i64 a2_0, .int .i64 a2_1] 46 (0, 0))) /\ (w'.heap[gb292]? = some (.cells #[.int .i64 t289, .int .i64 t290] 49 (0, 0))) /\ (w'.heap[gb305]? = some (.cells #[.slice Ao39 t293.length co39, .slice Ao44 t296.length co44, .slice Ao45 t299.length co45, .slice Ao46 t302.length co46] 57 (0, 0))) /\ (w'.heap[s_]? = some (.cells #[.int .i64 0, .int .i64 0] 49 (0, 0))) /\ (w.heap.size <= s_) /\ (w.heap.size <= s_) /\ (gb272 ≠ s_) /\ (s_ ≠ gb272) /\ (gb273 ≠ s_) /\ (s_ ≠ gb273) /\ (gb292 ≠ s_) /\ (s_ ≠ gb292) /\ (gb305 ≠ s_) /\ (s_ ≠ gb305) /\ (Below w.heap.size w w')) ?_ ?_
  rotate_left
  ·intro hCont
   refine two_ (i := 3) (j := 8) (Ni := some 33) (Nj := some 11) #[true, true, true, true, false, false, false, false, false, false, false] #[true, true, true, false, false, false, false, false, true, false, false] rfl rfl rfl rfl (two_of HT_.out (by kernel_rfl)) (by decide) (by decide) (fun K hK => ?_) (fun K hK => ?_)
   ·skip
    refine goes_ Try.func21 (by kernel_rfl) rfl #[.agg #[.int .i64 a2_0, .int .i64 a2_1]] (by rfl) rfl rfl lz ?_
    with_reducible refine (laws_toBind.calls a2_0 a2_1 t306 t307 _ A15.out).mono ?_
    rintro e w49 ⟨rfl, hb⟩
    refine ⟨_, rfl, ?_⟩
    have n0_ := qz HO277 hb
    have n1_ := qz HO280 hb
    have n2_ := qz HO283 hb
    have n3_ := qz HO286 hb
    have n4_ := qz HO295 hb
    have n5_ := qz HO298 hb
    have n6_ := qz HO301 hb
    have n7_ := qz HO304 hb
    have n8_ := Aside0.mk (blk_below (kz BK272.out) hb)
    have n9_ := Aside0.mk (blk_below (kz BK273.out) hb)
    have n10_ := Aside0.mk (blk_below (kz BK292.out) hb)
    have n11_ := Aside0.mk (blk_below (kz BK305.out) hb)
    have n12_ := Aside0.mk (below_step (bz4 HB.out GE272.out GE273.out GE292.out GE305.out) hb)
    clear HO277
    clear HO280
    clear HO283
    clear HO286
    clear HO295
    clear HO298
    clear HO301
    clear HO304
    clear BK272
    clear BK273
    clear BK292
    clear BK305
    clear HB
    have HO277 := n0_
    have HO280 := n1_
    have HO283 := n2_
    have HO286 := n3_
    have HO295 := n4_
    have HO298 := n5_
    have HO301 := n6_
    have HO304 := n7_
    have BK272 := n8_
    have BK273 := n9_
    have BK292 := n10_
    have BK305 := n11_
    have HB := n12_
    clear n0_ n1_ n2_ n3_ n4_ n5_ n6_ n7_ n8_ n9_ n10_ n11_ n12_
    (try clear hb)
    (try clear hb2)
    (try clear hk)
    (try clear hi)
    refine hK.out _ _ ⟨(blk_cell BK305.out 0).trans rfl, (blk_cell BK305.out 1).trans rfl, (blk_cell BK305.out 2).trans rfl, (blk_cell BK305.out 3).trans rfl, (blk_cell BK273.out 0).trans rfl, (blk_cell BK273.out 1).trans rfl⟩ (fun hHeld => ?_)
    clear hK K
    refine norm_ (a' := ?_) ?_ ?_
    rotate_left
    ·show Act.put _ (some 33) _ = _
     simp only [Act.put, sz1, sz2, sz3, i64_w, i32_w]
     rfl
    refine two_ (i := 4) (j := 8) (Ni := some 34) (Nj := some 11) #[true, true, true, true, true, false, false, false, false, false, false] #[true, true, true, true, false, false, false, false, true, false, false] rfl rfl rfl rfl (two_of HT_.out (by kernel_rfl)) (by decide) (by decide) (fun K hK => ?_) (fun K hK => ?_)
    ·skip
     refine goes_ Try.func22 (by kernel_rfl) rfl #[.agg #[.slice Ao39 t293.length co39, .slice Ao44 t296.length co44, .slice Ao45 t299.length co45, .slice Ao46 t302.length co46], .int .i64 a1, .agg #[.int .i64 t306, .int .i64 t307]] (by rfl) rfl rfl lz ?_
     with_reducible refine (impl_LookUp.calls k _ _ t293 _ _ t296 _ _ t299 _ _ t302 a1 t306 t307 t308 t309 t310 _ ?side1 ?side2 ?side3 ?side4 ?side5 ?side6 ?side7 ?side8 A16.out).mono ?_
     (case side1 => exact cz (Kd.R_reads' HO295.out).2.2)
     (case side2 => exact (Kd.R_reads' HO295.out).2.1)
     (case side3 => exact cz (Kd.R_reads' HO298.out).2.2)
     (case side4 => exact (Kd.R_reads' HO298.out).2.1)
     (case side5 => exact cz (Kd.R_reads' HO301.out).2.2)
     (case side6 => exact (Kd.R_reads' HO301.out).2.1)
     (case side7 => exact cz (Kd.R_reads' HO304.out).2.2)
     (case side8 => exact (Kd.R_reads' HO304.out).2.1)
     rintro e w50 ⟨rfl, hb⟩
     refine ⟨_, rfl, ?_⟩
     have n0_ := qz HO277 hb
     have n1_ := qz HO280 hb
     have n2_ := qz HO283 hb
     have n3_ := qz HO286 hb
     have n4_ := qz HO295 hb
     have n5_ := qz HO298 hb
     have n6_ := qz HO301 hb
     have n7_ := qz HO304 hb
     have n8_ := Aside0.mk (blk_below (kz BK272.out) hb)
     have n9_ := Aside0.mk (blk_below (kz BK273.out) hb)
     have n10_ := Aside0.mk (blk_below (kz BK292.out) hb)
     have n11_ := Aside0.mk (blk_below (kz BK305.out) hb)
     have n12_ := Aside0.mk (below_step (bz4 HB.out GE272.out GE273.out GE292.out GE305.out) hb)
     clear HO277
     clear HO280
     clear HO283
     clear HO286
     clear HO295
     clear HO298
     clear HO301
     clear HO304
     clear BK272
     clear BK273
     clear BK292
     clear BK305
     clear HB
     have HO277 := n0_
     have HO280 := n1_
     have HO283 := n2_
     have HO286 := n3_
     have HO295 := n4_
     have HO298 := n5_
     have HO301 := n6_
     have HO304 := n7_
     have BK272 := n8_
     have BK273 := n9_
     have BK292 := n10_
     have BK305 := n11_
     have HB := n12_
     clear n0_ n1_ n2_ n3_ n4_ n5_ n6_ n7_ n8_ n9_ n10_ n11_ n12_
     (try clear hb)
     (try clear hb2)
     (try clear hk)
     (try clear hi)
     refine hK.out _ _ ⟨(blk_cell BK305.out 0).trans rfl, (blk_cell BK305.out 1).trans rfl, (blk_cell BK305.out 2).trans rfl, (blk_cell BK305.out 3).trans rfl, (blk_cell BK273.out 0).trans rfl, (blk_cell BK273.out 1).trans rfl⟩ (fun hHeld => ?_)
     clear hK K
     refine norm_ (a' := ?_) ?_ ?_
     rotate_left
     ·show Act.put _ (some 34) _ = _
      simp only [Act.put, sz1, sz2, sz3, i64_w, i32_w]
      rfl
     refine pure_ (i := 5) (N := some 29) (v := ?_) (a' := ?_) #[tt, tt, tt, tt, tt, tt, ff, ff, ff, ff, ff] rfl rfl (any_of HT_.out (by kernel_rfl)) (fun _ _ _ h => h) (Or.inl ⟨by rfl, ?_⟩) ?_ ?_
     rotate_left
     ·intro w'
      go_simp
      with_reducible rfl
     rotate_left
     ·simp only [Act.put, sz1, sz2, sz3, i64_w, i32_w]
      rfl
     refine pure_ (i := 6) (N := some 35) (v := ?_) (a' := ?_) #[tt, tt, tt, tt, tt, tt, tt, ff, ff, ff, ff] rfl rfl (any_of HT_.out (by kernel_rfl)) (fun _ _ _ h => h) (Or.inl ⟨by rfl, ?_⟩) ?_ ?_
     rotate_left
     ·intro w'
      go_simp
      with_reducible rfl
     rotate_left
     ·simp only [Act.put, sz1, sz2, sz3, i64_w, i32_w]
      rfl
     refine pure_ (i := 7) (N := some 36) (v := ?_) (a' := ?_) #[tt, tt, tt, tt, tt, tt, tt, tt, ff, ff, ff] rfl rfl (any_of HT_.out (by kernel_rfl)) (fun _ _ _ h => h) (Or.inl ⟨by rfl, ?_⟩) ?_ ?_
     rotate_left
     ·intro w'
      go_simp
      with_reducible rfl
     rotate_left
     ·simp only [Act.put, sz1, sz2, sz3, i64_w, i32_w]
      rfl
     refine one_ (i := 8) (N := some 11) #[tt, tt, tt, tt, tt, tt, tt, tt, tt, ff, ff] rfl rfl (one_of HT_.out (by kernel_rfl)) (by decide) (fun K hK => ?_)
     refine box_step ?hg (N := 11) ?hd (cs := #[.int .i64 0, .int .i64 0]) (t := 49) ?hr ?_; (case hd => rfl); (case hg => rfl); (case hr => exact vz)
     intro gb311 hg w51 hbox hb
     have n0_ := qz HO277 hb
     have n1_ := qz HO280 hb
     have n2_ := qz HO283 hb
     have n3_ := Aside0.mk (Kd.R_below (Kd.R_elderB (rz HO286.out) gb311 (Nat.le_of_eq hg.symm)) hb)
     have n4_ := qz HO295 hb
     have n5_ := qz HO298 hb
     have n6_ := qz HO301 hb
     have n7_ := Aside0.mk (Kd.R_below (Kd.R_elderB (rz HO304.out) gb311 (Nat.le_of_eq hg.symm)) hb)
     have n8_ := Aside0.mk (blk_below (kz BK272.out) hb)
     have n9_ := Aside0.mk (blk_below (kz BK273.out) hb)
     have n10_ := Aside0.mk (blk_below (kz BK292.out) hb)
     have n11_ := Aside0.mk (blk_below (kz BK305.out) hb)
     have n12_ := Aside0.mk (below_step (bz4 HB.out GE272.out GE273.out GE292.out GE305.out) hb)
     have n13_ := Aside0.mk (hbox)
     have n14_ := Aside0.mk ((by rw [hg]; exact (below_size (bz4 HB.out GE272.out GE273.out GE292.out GE305.out)) : w.heap.size <= gb311))
     have n15_ := Aside0.mk ((by rw [hg]; exact (below_size (bz4 HB.out GE272.out GE273.out GE292.out GE305.out)) : w.heap.size <= gb311))
     have n16_ := Aside0.mk ((by rw [hg]; exact Nat.ne_of_lt (blk_lt (g := gb272) (o := .cells #[.slice A0_0 l0_0.length c0_0, .slice A0_1 l0_1.length c0_1, .slice A0_2 l0_2.length c0_2, .slice A0_3 l0_3.length c0_3] 44 (0, 0)) (kz BK272.out)) : gb272 ≠ gb311))
     have n17_ := Aside0.mk ((by rw [hg]; exact Nat.ne_of_gt (blk_lt (g := gb272) (o := .cells #[.slice A0_0 l0_0.length c0_0, .slice A0_1 l0_1.length c0_1, .slice A0_2 l0_2.length c0_2, .slice A0_3 l0_3.length c0_3] 44 (0, 0)) (kz BK272.out)) : gb311 ≠ gb272))
     have n18_ := Aside0.mk ((by rw [hg]; exact Nat.ne_of_lt (blk_lt (g := gb273) (o := .cells #[.int .i64 a2_0, .int .i64 a2_1] 46 (0, 0)) (kz BK273.out)) : gb273 ≠ gb311))
     have n19_ := Aside0.mk ((by rw [hg]; exact Nat.ne_of_gt (blk_lt (g := gb273) (o := .cells #[.int .i64 a2_0, .int .i64 a2_1] 46 (0, 0)) (kz BK273.out)) : gb311 ≠ gb273))
     have n20_ := Aside0.mk ((by rw [hg]; exact Nat.ne_of_lt (blk_lt (g := gb292) (o := .cells #[.int .i64 t289, .int .i64 t290] 49 (0, 0)) (kz BK292.out)) : gb292 ≠ gb311))
     have n21_ := Aside0.mk ((by rw [hg]; exact Nat.ne_of_gt (blk_lt (g := gb292) (o := .cells #[.int .i64 t289, .int .i64 t290] 49 (0, 0)) (kz BK292.out)) : gb311 ≠ gb292))
     have n22_ := Aside0.mk ((by rw [hg]; exact Nat.ne_of_lt (blk_lt (g := gb305) (o := .cells #[.slice Ao39 t293.length co39, .slice Ao44 t296.length co44, .slice Ao45 t299.length co45, .slice Ao46 t302.length co46] 57 (0, 0)) (kz BK305.out)) : gb305 ≠ gb311))
     have n23_ := Aside0.mk ((by rw [hg]; exact Nat.ne_of_gt (blk_lt (g := gb305) (o := .cells #[.slice Ao39 t293.length co39, .slice Ao44 t296.length co44, .slice Ao45 t299.length co45, .slice Ao46 t302.length co46] 57 (0, 0)) (kz BK305.out)) : gb311 ≠ gb305))
     clear HO277
     clear HO280
     clear HO283
     clear HO286
     clear HO295
     clear HO298
     clear HO301
     clear HO304
     clear BK272
     clear BK273
     clear BK292
     clear BK305
     clear HB
     have HO277 := n0_
     have HO280 := n1_
     have HO283 := n2_
     have HO286 := n3_
     have HO295 := n4_
     have HO298 := n5_
     have HO301 := n6_
     have HO304 := n7_
     have BK272 := n8_
     have BK273 := n9_
     have BK292 := n10_
     have BK305 := n11_
     have HB := n12_
     have BK311 := n13_
     have GW311 := n14_
     have GE311 := n15_
     have NB272_311 := n16_
     have NB311_272 := n17_
     have NB273_311 := n18_
     have NB311_273 := n19_
     have NB292_311 := n20_
     have NB311_292 := n21_
     have NB305_311 := n22_
     have NB311_305 := n23_
     clear n0_ n1_ n2_ n3_ n4_ n5_ n6_ n7_ n8_ n9_ n10_ n11_ n12_ n13_ n14_ n15_ n16_ n17_ n18_ n19_ n20_ n21_ n22_ n23_
     clear hb hbox hg
     refine hK.out _ _ ⟨(blk_cell BK305.out 0).trans rfl, (blk_cell BK305.out 1).trans rfl, (blk_cell BK305.out 2).trans rfl, (blk_cell BK305.out 3).trans rfl, (blk_cell BK273.out 0).trans rfl, (blk_cell BK273.out 1).trans rfl⟩ (fun hHeld => ?_)
     clear hK K
     refine norm_ (a' := ?_) ?_ ?_
     rotate_left
     ·show Act.put _ (some 11) _ = _
      simp only [Act.put, sz1, sz2, sz3, i64_w, i32_w]
      rfl
     exact norm_ (by simp only [putAll, Act.put, List.setIfInBounds_toArray, List.set_cons_zero, List.set_cons_succ]) (hCont (gb311) _ ⟨hHeld, (rz HO277.out), (rz HO280.out), (rz HO283.out), (by refine rq ?_; exact Kd.R_mono HO286.out (fun _ hk => ⟨hk.1.1, ⟨hk.1.2, hk.2⟩⟩)), (rz HO295.out), (rz HO298.out), (rz HO301.out), (by refine rq ?_; exact Kd.R_mono HO304.out (fun _ hk => ⟨hk.1.1, ⟨hk.1.2, hk.2⟩⟩)), (kz BK272.out), (kz BK273.out), (kz BK292.out), (kz BK305.out), (kz BK311.out), GW311.out, GE311.out, NB272_311.out, NB311_272.out, NB273_311.out, NB311_273.out, NB292_311.out, NB311_292.out, NB305_311.out, NB311_305.out, (bz5 HB.out GE272.out GE273.out GE292.out GE305.out GE311.out)⟩)
    ·skip
     refine box_step ?hg (N := 11) ?hd (cs := #[.int .i64 0, .int .i64 0]) (t := 49) ?hr ?_; (case hd => rfl); (case hg => rfl); (case hr => exact vz)
     intro gb311 hg w50 hbox hb
     have n0_ := qz HO277 hb
     have n1_ := qz HO280 hb
     have n2_ := qz HO283 hb
     have n3_ := Aside0.mk (Kd.R_below (Kd.R_elderB (rz HO286.out) gb311 (Nat.le_of_eq hg.symm)) hb)
     have n4_ := qz HO295 hb
     have n5_ := qz HO298 hb
     have n6_ := qz HO301 hb
     have n7_ := Aside0.mk (Kd.R_below (Kd.R_elderB (rz HO304.out) gb311 (Nat.le_of_eq hg.symm)) hb)
     have n8_ := Aside0.mk (blk_below (kz BK272.out) hb)
     have n9_ := Aside0.mk (blk_below (kz BK273.out) hb)
     have n10_ := Aside0.mk (blk_below (kz BK292.out) hb)
     have n11_ := Aside0.mk (blk_below (kz BK305.out) hb)
     have n12_ := Aside0.mk (below_step (bz4 HB.out GE272.out GE273.out GE292.out GE305.out) hb)
     have n13_ := Aside0.mk (hbox)
     have n14_ := Aside0.mk ((by rw [hg]; exact (below_size (bz4 HB.out GE272.out GE273.out GE292.out GE305.out)) : w.heap.size <= gb311))
     have n15_ := Aside0.mk ((by rw [hg]; exact (below_size (bz4 HB.out GE272.out GE273.out GE292.out GE305.out)) : w.heap.size <= gb311))
     have n16_ := Aside0.mk ((by rw [hg]; exact Nat.ne_of_lt (blk_lt (g := gb272) (o := .cells #[.slice A0_0 l0_0.length c0_0, .slice A0_1 l0_1.length c0_1, .slice A0_2 l0_2.length c0_2, .slice A0_3 l0_3.length c0_3] 44 (0, 0)) (kz BK272.out)) : gb272 ≠ gb311))
     have n17_ := Aside0.mk ((by rw [hg]; exact Nat.ne_of_gt (blk_lt (g := gb272) (o := .cells #[.slice A0_0 l0_0.length c0_0, .slice A0_1 l0_1.length c0_1, .slice A0_2 l0_2.length c0_2, .slice A0_3 l0_3.length c0_3] 44 (0, 0)) (kz BK272.out)) : gb311 ≠ gb272))
     have n18_ := Aside0.mk ((by rw [hg]; exact Nat.ne_of_lt (blk_lt (g := gb273) (o := .cells #[.int .i64 a2_0, .int .i64 a2_1] 46 (0, 0)) (kz BK273.out)) : gb273 ≠ gb311))
     have n19_ := Aside0.mk ((by rw [hg]; exact Nat.ne_of_gt (blk_lt (g := gb273) (o := .cells #[.int .i64 a2_0, .int .i64 a2_1] 46 (0, 0)) (kz BK273.out)) : gb311 ≠ gb273))
     have n20_ := Aside0.mk ((by rw [hg]; exact Nat.ne_of_lt (blk_lt (g := gb292) (o := .cells #[.int .i64 t289, .int .i64 t290] 49 (0, 0)) (kz BK292.out)) : gb292 ≠ gb311))
     have n21_ := Aside0.mk ((by rw [hg]; exact Nat.ne_of_gt (blk_lt (g := gb292) (o := .cells #[.int .i64 t289, .int .i64 t290] 49 (0, 0)) (kz BK292.out)) : gb311 ≠ gb292))
     have n22_ := Aside0.mk ((by rw [hg]; exact Nat.ne_of_lt (blk_lt (g := gb305) (o := .cells #[.slice Ao39 t293.length co39, .slice Ao44 t296.length co44, .slice Ao45 t299.length co45, .slice Ao46 t302.length co46] 57 (0, 0)) (kz BK305.out)) : gb305 ≠ gb311))
     have n23_ := Aside0.mk ((by rw [hg]; exact Nat.ne_of_gt (blk_lt (g := gb305) (o := .cells #[.slice Ao39 t293.length co39, .slice Ao44 t296.length co44, .slice Ao45 t299.length co45, .slice Ao46 t302.length co46] 57 (0, 0)) (kz BK305.out)) : gb311 ≠ gb305))
     clear HO277
     clear HO280
     clear HO283
     clear HO286
     clear HO295
     clear HO298
     clear HO301
     clear HO304
     clear BK272
     clear BK273
     clear BK292
     clear BK305
     clear HB
     have HO277 := n0_
     have HO280 := n1_
     have HO283 := n2_
     have HO286 := n3_
     have HO295 := n4_
     have HO298 := n5_
     have HO301 := n6_
     have HO304 := n7_
     have BK272 := n8_
     have BK273 := n9_
     have BK292 := n10_
     have BK305 := n11_
     have HB := n12_
     have BK311 := n13_
     have GW311 := n14_
     have GE311 := n15_
     have NB272_311 := n16_
     have NB311_272 := n17_
     have NB273_311 := n18_
     have NB311_273 := n19_
     have NB292_311 := n20_
     have NB311_292 := n21_
     have NB305_311 := n22_
     have NB311_305 := n23_
     clear n0_ n1_ n2_ n3_ n4_ n5_ n6_ n7_ n8_ n9_ n10_ n11_ n12_ n13_ n14_ n15_ n16_ n17_ n18_ n19_ n20_ n21_ n22_ n23_
     clear hb hbox hg
     refine hK.out _ _ ⟨(blk_cell BK305.out 0).trans rfl, (blk_cell BK305.out 1).trans rfl, (blk_cell BK305.out 2).trans rfl, (blk_cell BK305.out 3).trans rfl, (blk_cell BK273.out 0).trans rfl, (blk_cell BK273.out 1).trans rfl⟩ (fun hHeld => ?_)
     clear hK K
     refine norm_ (a' := ?_) ?_ ?_
     rotate_left
     ·show Act.put _ (some 11) _ = _
      simp only [Act.put, sz1, sz2, sz3, i64_w, i32_w]
      rfl
     refine one_ (i := 4) (N := some 34) #[tt, tt, tt, tt, tt, ff, ff, ff, tt, ff, ff] rfl rfl (one_of HT_.out (by kernel_rfl)) (by decide) (fun K hK => ?_)
     refine goes_ Try.func22 (by kernel_rfl) rfl #[.agg #[.slice Ao39 t293.length co39, .slice Ao44 t296.length co44, .slice Ao45 t299.length co45, .slice Ao46 t302.length co46], .int .i64 a1, .agg #[.int .i64 t306, .int .i64 t307]] (by rfl) rfl rfl lz ?_
     with_reducible refine (impl_LookUp.calls k _ _ t293 _ _ t296 _ _ t299 _ _ t302 a1 t306 t307 t308 t309 t310 _ ?side1 ?side2 ?side3 ?side4 ?side5 ?side6 ?side7 ?side8 A16.out).mono ?_
     (case side1 => exact cz (Kd.R_reads' HO295.out).2.2)
     (case side2 => exact (Kd.R_reads' HO295.out).2.1)
     (case side3 => exact cz (Kd.R_reads' HO298.out).2.2)
     (case side4 => exact (Kd.R_reads' HO298.out).2.1)
     (case side5 => exact cz (Kd.R_reads' HO301.out).2.2)
     (case side6 => exact (Kd.R_reads' HO301.out).2.1)
     (case side7 => exact cz (Kd.R_reads' HO304.out).2.2)
     (case side8 => exact (Kd.R_reads' HO304.out).2.1)
     rintro e w51 ⟨rfl, hb⟩
     refine ⟨_, rfl, ?_⟩
     have n0_ := qz HO277 hb
     have n1_ := qz HO280 hb
     have n2_ := qz HO283 hb
     have n3_ := qz HO286 hb
     have n4_ := qz HO295 hb
     have n5_ := qz HO298 hb
     have n6_ := qz HO301 hb
     have n7_ := qz HO304 hb
     have n8_ := Aside0.mk (blk_below (kz BK272.out) hb)
     have n9_ := Aside0.mk (blk_below (kz BK273.out) hb)
     have n10_ := Aside0.mk (blk_below (kz BK292.out) hb)
     have n11_ := Aside0.mk (blk_below (kz BK305.out) hb)
     have n12_ := Aside0.mk (blk_below (kz BK311.out) hb)
     have n13_ := Aside0.mk (below_step (bz5 HB.out GE272.out GE273.out GE292.out GE305.out GE311.out) hb)
     clear HO277
     clear HO280
     clear HO283
     clear HO286
     clear HO295
     clear HO298
     clear HO301
     clear HO304
     clear BK272
     clear BK273
     clear BK292
     clear BK305
     clear BK311
     clear HB
     have HO277 := n0_
     have HO280 := n1_
     have HO283 := n2_
     have HO286 := n3_
     have HO295 := n4_
     have HO298 := n5_
     have HO301 := n6_
     have HO304 := n7_
     have BK272 := n8_
     have BK273 := n9_
     have BK292 := n10_
     have BK305 := n11_
     have BK311 := n12_
     have HB := n13_
     clear n0_ n1_ n2_ n3_ n4_ n5_ n6_ n7_ n8_ n9_ n10_ n11_ n12_ n13_
     (try clear hb)
     (try clear hb2)
     (try clear hk)
     (try clear hi)
     refine hK.out _ _ ⟨(blk_cell BK305.out 0).trans rfl, (blk_cell BK305.out 1).trans rfl, (blk_cell BK305.out 2).trans rfl, (blk_cell BK305.out 3).trans rfl, (blk_cell BK273.out 0).trans rfl, (blk_cell BK273.out 1).trans rfl⟩ (fun hHeld => ?_)
     clear hK K
     refine norm_ (a' := ?_) ?_ ?_
     rotate_left
     ·show Act.put _ (some 34) _ = _
      simp only [Act.put, sz1, sz2, sz3, i64_w, i32_w]
      rfl
     refine pure_ (i := 5) (N := some 29) (v := ?_) (a' := ?_) #[tt, tt, tt, tt, tt, tt, ff, ff, tt, ff, ff] rfl rfl (any_of HT_.out (by kernel_rfl)) (fun _ _ _ h => h) (Or.inl ⟨by rfl, ?_⟩) ?_ ?_
     rotate_left
     ·intro w'
      go_simp
      with_reducible rfl
     rotate_left
     ·simp only [Act.put, sz1, sz2, sz3, i64_w, i32_w]
      rfl
     refine pure_ (i := 6) (N := some 35) (v := ?_) (a' := ?_) #[tt, tt, tt, tt, tt, tt, tt, ff, tt, ff, ff] rfl rfl (any_of HT_.out (by kernel_rfl)) (fun _ _ _ h => h) (Or.inl ⟨by rfl, ?_⟩) ?_ ?_
     rotate_left
     ·intro w'
      go_simp
      with_reducible rfl
     rotate_left
     ·simp only [Act.put, sz1, sz2, sz3, i64_w, i32_w]
      rfl
     refine pure_ (i := 7) (N := some 36) (v := ?_) (a' := ?_) #[tt, tt, tt, tt, tt, tt, tt, tt, tt, ff, ff] rfl rfl (any_of HT_.out (by kernel_rfl)) (fun _ _ _ h => h) (Or.inl ⟨by rfl, ?_⟩) ?_ ?_
     rotate_left
     ·intro w'
      go_simp
      with_reducible rfl
     rotate_left
     ·simp only [Act.put, sz1, sz2, sz3, i64_w, i32_w]
      rfl
     exact norm_ (by simp only [putAll, Act.put, List.setIfInBounds_toArray, List.set_cons_zero, List.set_cons_succ]) (hCont (gb311) _ ⟨hHeld, (rz HO277.out), (rz HO280.out), (rz HO283.out), (by refine rq ?_; exact Kd.R_mono HO286.out (fun _ hk => ⟨hk.1.1, ⟨hk.1.2, hk.2⟩⟩)), (rz HO295.out), (rz HO298.out), (rz HO301.out), (by refine rq ?_; exact Kd.R_mono HO304.out (fun _ hk => ⟨hk.1.1, ⟨hk.1.2, hk.2⟩⟩)), (kz BK272.out), (kz BK273.out), (kz BK292.out), (kz BK305.out), (kz BK311.out), GW311.out, GE311.out, NB272_311.out, NB311_272.out, NB273_311.out, NB311_273.out, NB292_311.out, NB311_292.out, NB305_311.out, NB311_305.out, (bz5 HB.out GE272.out GE273.out GE292.out GE305.out GE311.out)⟩)
   ·skip
    refine box_step ?hg (N := 11) ?hd (cs := #[.int .i64 0, .int .i64 0]) (t := 49) ?hr ?_; (case hd => rfl); (case hg => rfl); (case hr => exact vz)
    intro gb311 hg w49 hbox hb
    have n0_ := qz HO277 hb
    have n1_ := qz HO280 hb
    have n2_ := qz HO283 hb
    have n3_ := Aside0.mk (Kd.R_below (Kd.R_elderB (rz HO286.out) gb311 (Nat.le_of_eq hg.symm)) hb)
    have n4_ := qz HO295 hb
    have n5_ := qz HO298 hb
    have n6_ := qz HO301 hb
    have n7_ := Aside0.mk (Kd.R_below (Kd.R_elderB (rz HO304.out) gb311 (Nat.le_of_eq hg.symm)) hb)
    have n8_ := Aside0.mk (blk_below (kz BK272.out) hb)
    have n9_ := Aside0.mk (blk_below (kz BK273.out) hb)
    have n10_ := Aside0.mk (blk_below (kz BK292.out) hb)
    have n11_ := Aside0.mk (blk_below (kz BK305.out) hb)
    have n12_ := Aside0.mk (below_step (bz4 HB.out GE272.out GE273.out GE292.out GE305.out) hb)
    have n13_ := Aside0.mk (hbox)
    have n14_ := Aside0.mk ((by rw [hg]; exact (below_size (bz4 HB.out GE272.out GE273.out GE292.out GE305.out)) : w.heap.size <= gb311))
    have n15_ := Aside0.mk ((by rw [hg]; exact (below_size (bz4 HB.out GE272.out GE273.out GE292.out GE305.out)) : w.heap.size <= gb311))
    have n16_ := Aside0.mk ((by rw [hg]; exact Nat.ne_of_lt (blk_lt (g := gb272) (o := .cells #[.slice A0_0 l0_0.length c0_0, .slice A0_1 l0_1.length c0_1, .slice A0_2 l0_2.length c0_2, .slice A0_3 l0_3.length c0_3] 44 (0, 0)) (kz BK272.out)) : gb272 ≠ gb311))
    have n17_ := Aside0.mk ((by rw [hg]; exact Nat.ne_of_gt (blk_lt (g := gb272) (o := .cells #[.slice A0_0 l0_0.length c0_0, .slice A0_1 l0_1.length c0_1, .slice A0_2 l0_2.length c0_2, .slice A0_3 l0_3.length c0_3] 44 (0, 0)) (kz BK272.out)) : gb311 ≠ gb272))
    have n18_ := Aside0.mk ((by rw [hg]; exact Nat.ne_of_lt (blk_lt (g := gb273) (o := .cells #[.int .i64 a2_0, .int .i64 a2_1] 46 (0, 0)) (kz BK273.out)) : gb273 ≠ gb311))
    have n19_ := Aside0.mk ((by rw [hg]; exact Nat.ne_of_gt (blk_lt (g := gb273) (o := .cells #[.int .i64 a2_0, .int .i64 a2_1] 46 (0, 0)) (kz BK273.out)) : gb311 ≠ gb273))
    have n20_ := Aside0.mk ((by rw [hg]; exact Nat.ne_of_lt (blk_lt (g := gb292) (o := .cells #[.int .i64 t289, .int .i64 t290] 49 (0, 0)) (kz BK292.out)) : gb292 ≠ gb311))
    have n21_ := Aside0.mk ((by rw [hg]; exact Nat.ne_of_gt (blk_lt (g := gb292) (o := .cells #[.int .i64 t289, .int .i64 t290] 49 (0, 0)) (kz BK292.out)) : gb311 ≠ gb292))
    have n22_ := Aside0.mk ((by rw [hg]; exact Nat.ne_of_lt (blk_lt (g := gb305) (o := .cells #[.slice Ao39 t293.length co39, .slice Ao44 t296.length co44, .slice Ao45 t299.length co45, .slice Ao46 t302.length co46] 57 (0, 0)) (kz BK305.out)) : gb305 ≠ gb311))
    have n23_ := Aside0.mk ((by rw [hg]; exact Nat.ne_of_gt (blk_lt (g := gb305) (o := .cells #[.slice Ao39 t293.length co39, .slice Ao44 t296.length co44, .slice Ao45 t299.length co45, .slice Ao46 t302.length co46] 57 (0, 0)) (kz BK305.out)) : gb311 ≠ gb305))
    clear HO277
    clear HO280
    clear HO283
    clear HO286
    clear HO295
    clear HO298
    clear HO301
    clear HO304
    clear BK272
    clear BK273
    clear BK292
    clear BK305
    clear HB
    have HO277 := n0_
    have HO280 := n1_
    have HO283 := n2_
    have HO286 := n3_
    have HO295 := n4_
    have HO298 := n5_
    have HO301 := n6_
    have HO304 := n7_
    have BK272 := n8_
    have BK273 := n9_
    have BK292 := n10_
    have BK305 := n11_
    have HB := n12_
    have BK311 := n13_
    have GW311 := n14_
    have GE311 := n15_
    have NB272_311 := n16_
    have NB311_272 := n17_
    have NB273_311 := n18_
    have NB311_273 := n19_
    have NB292_311 := n20_
    have NB311_292 := n21_
    have NB305_311 := n22_
    have NB311_305 := n23_
    clear n0_ n1_ n2_ n3_ n4_ n5_ n6_ n7_ n8_ n9_ n10_ n11_ n12_ n13_ n14_ n15_ n16_ n17_ n18_ n19_ n20_ n21_ n22_ n23_
    clear hb hbox hg
    refine hK.out _ _ ⟨(blk_cell BK305.out 0).trans rfl, (blk_cell BK305.out 1).trans rfl, (blk_cell BK305.out 2).trans rfl, (blk_cell BK305.out 3).trans rfl, (blk_cell BK273.out 0).trans rfl, (blk_cell BK273.out 1).trans rfl⟩ (fun hHeld => ?_)
    clear hK K
    refine norm_ (a' := ?_) ?_ ?_
    rotate_left
    ·show Act.put _ (some 11) _ = _
     simp only [Act.put, sz1, sz2, sz3, i64_w, i32_w]
     rfl
    refine one_ (i := 3) (N := some 33) #[tt, tt, tt, tt, ff, ff, ff, ff, tt, ff, ff] rfl rfl (one_of HT_.out (by kernel_rfl)) (by decide) (fun K hK => ?_)
    refine goes_ Try.func21 (by kernel_rfl) rfl #[.agg #[.int .i64 a2_0, .int .i64 a2_1]] (by rfl) rfl rfl lz ?_
    with_reducible refine (laws_toBind.calls a2_0 a2_1 t306 t307 _ A15.out).mono ?_
    rintro e w50 ⟨rfl, hb⟩
    refine ⟨_, rfl, ?_⟩
    have n0_ := qz HO277 hb
    have n1_ := qz HO280 hb
    have n2_ := qz HO283 hb
    have n3_ := qz HO286 hb
    have n4_ := qz HO295 hb
    have n5_ := qz HO298 hb
    have n6_ := qz HO301 hb
    have n7_ := qz HO304 hb
    have n8_ := Aside0.mk (blk_below (kz BK272.out) hb)
    have n9_ := Aside0.mk (blk_below (kz BK273.out) hb)
    have n10_ := Aside0.mk (blk_below (kz BK292.out) hb)
    have n11_ := Aside0.mk (blk_below (kz BK305.out) hb)
    have n12_ := Aside0.mk (blk_below (kz BK311.out) hb)
    have n13_ := Aside0.mk (below_step (bz5 HB.out GE272.out GE273.out GE292.out GE305.out GE311.out) hb)
    clear HO277
    clear HO280
    clear HO283
    clear HO286
    clear HO295
    clear HO298
    clear HO301
    clear HO304
    clear BK272
    clear BK273
    clear BK292
    clear BK305
    clear BK311
    clear HB
    have HO277 := n0_
    have HO280 := n1_
    have HO283 := n2_
    have HO286 := n3_
    have HO295 := n4_
    have HO298 := n5_
    have HO301 := n6_
    have HO304 := n7_
    have BK272 := n8_
    have BK273 := n9_
    have BK292 := n10_
    have BK305 := n11_
    have BK311 := n12_
    have HB := n13_
    clear n0_ n1_ n2_ n3_ n4_ n5_ n6_ n7_ n8_ n9_ n10_ n11_ n12_ n13_
    (try clear hb)
    (try clear hb2)
    (try clear hk)
    (try clear hi)
    refine hK.out _ _ ⟨(blk_cell BK305.out 0).trans rfl, (blk_cell BK305.out 1).trans rfl, (blk_cell BK305.out 2).trans rfl, (blk_cell BK305.out 3).trans rfl, (blk_cell BK273.out 0).trans rfl, (blk_cell BK273.out 1).trans rfl⟩ (fun hHeld => ?_)
    clear hK K
    refine norm_ (a' := ?_) ?_ ?_
    rotate_left
    ·show Act.put _ (some 33) _ = _
     simp only [Act.put, sz1, sz2, sz3, i64_w, i32_w]
     rfl
    refine one_ (i := 4) (N := some 34) #[tt, tt, tt, tt, tt, ff, ff, ff, tt, ff, ff] rfl rfl (one_of HT_.out (by kernel_rfl)) (by decide) (fun K hK => ?_)
    refine goes_ Try.func22 (by kernel_rfl) rfl #[.agg #[.slice Ao39 t293.length co39, .slice Ao44 t296.length co44, .slice Ao45 t299.length co45, .slice Ao46 t302.length co46], .int .i64 a1, .agg #[.int .i64 t306, .int .i64 t307]] (by rfl) rfl rfl lz ?_
    with_reducible refine (impl_LookUp.calls k _ _ t293 _ _ t296 _ _ t299 _ _ t302 a1 t306 t307 t308 t309 t310 _ ?side1 ?side2 ?side3 ?side4 ?side5 ?side6 ?side7 ?side8 A16.out).mono ?_
    (case side1 => exact cz (Kd.R_reads' HO295.out).2.2)
    (case side2 => exact (Kd.R_reads' HO295.out).2.1)
    (case side3 => exact cz (Kd.R_reads' HO298.out).2.2)
    (case side4 => exact (Kd.R_reads' HO298.out).2.1)
    (case side5 => exact cz (Kd.R_reads' HO301.out).2.2)
    (case side6 => exact (Kd.R_reads' HO301.out).2.1)
    (case side7 => exact cz (Kd.R_reads' HO304.out).2.2)
    (case side8 => exact (Kd.R_reads' HO304.out).2.1)
    rintro e w51 ⟨rfl, hb⟩
    refine ⟨_, rfl, ?_⟩
    have n0_ := qz HO277 hb
    have n1_ := qz HO280 hb
    have n2_ := qz HO283 hb
    have n3_ := qz HO286 hb
    have n4_ := qz HO295 hb
    have n5_ := qz HO298 hb
    have n6_ := qz HO301 hb
    have n7_ := qz HO304 hb
    have n8_ := Aside0.mk (blk_below (kz BK272.out) hb)
    have n9_ := Aside0.mk (blk_below (kz BK273.out) hb)
    have n10_ := Aside0.mk (blk_below (kz BK292.out) hb)
    have n11_ := Aside0.mk (blk_below (kz BK305.out) hb)
    have n12_ := Aside0.mk (blk_below (kz BK311.out) hb)
    have n13_ := Aside0.mk (below_step (bz5 HB.out GE272.out GE273.out GE292.out GE305.out GE311.out) hb)
    clear HO277
    clear HO280
    clear HO283
    clear HO286
    clear HO295
    clear HO298
    clear HO301
    clear HO304
    clear BK272
    clear BK273
    clear BK292
    clear BK305
    clear BK311
    clear HB
    have HO277 := n0_
    have HO280 := n1_
    have HO283 := n2_
    have HO286 := n3_
    have HO295 := n4_
    have HO298 := n5_
    have HO301 := n6_
    have HO304 := n7_
    have BK272 := n8_
    have BK273 := n9_
    have BK292 := n10_
    have BK305 := n11_
    have BK311 := n12_
    have HB := n13_
    clear n0_ n1_ n2_ n3_ n4_ n5_ n6_ n7_ n8_ n9_ n10_ n11_ n12_ n13_
    (try clear hb)
    (try clear hb2)
    (try clear hk)
    (try clear hi)
    refine hK.out _ _ ⟨(blk_cell BK305.out 0).trans rfl, (blk_cell BK305.out 1).trans rfl, (blk_cell BK305.out 2).trans rfl, (blk_cell BK305.out 3).trans rfl, (blk_cell BK273.out 0).trans rfl, (blk_cell BK273.out 1).trans rfl⟩ (fun hHeld => ?_)
    clear hK K
    refine norm_ (a' := ?_) ?_ ?_
    rotate_left
    ·show Act.put _ (some 34) _ = _
     simp only [Act.put, sz1, sz2, sz3, i64_w, i32_w]
     rfl
    refine pure_ (i := 5) (N := some 29) (v := ?_) (a' := ?_) #[tt, tt, tt, tt, tt, tt, ff, ff, tt, ff, ff] rfl rfl (any_of HT_.out (by kernel_rfl)) (fun _ _ _ h => h) (Or.inl ⟨by rfl, ?_⟩) ?_ ?_
    rotate_left
    ·intro w'
     go_simp
     with_reducible rfl
    rotate_left
    ·simp only [Act.put, sz1, sz2, sz3, i64_w, i32_w]
     rfl
    refine pure_ (i := 6) (N := some 35) (v := ?_) (a' := ?_) #[tt, tt, tt, tt, tt, tt, tt, ff, tt, ff, ff] rfl rfl (any_of HT_.out (by kernel_rfl)) (fun _ _ _ h => h) (Or.inl ⟨by rfl, ?_⟩) ?_ ?_
    rotate_left
    ·intro w'
     go_simp
     with_reducible rfl
    rotate_left
    ·simp only [Act.put, sz1, sz2, sz3, i64_w, i32_w]
     rfl
    refine pure_ (i := 7) (N := some 36) (v := ?_) (a' := ?_) #[tt, tt, tt, tt, tt, tt, tt, tt, tt, ff, ff] rfl rfl (any_of HT_.out (by kernel_rfl)) (fun _ _ _ h => h) (Or.inl ⟨by rfl, ?_⟩) ?_ ?_
    rotate_left
    ·intro w'
     go_simp
     with_reducible rfl
    rotate_left
    ·simp only [Act.put, sz1, sz2, sz3, i64_w, i32_w]
     rfl
    exact norm_ (by simp only [putAll, Act.put, List.setIfInBounds_toArray, List.set_cons_zero, List.set_cons_succ]) (hCont (gb311) _ ⟨hHeld, (rz HO277.out), (rz HO280.out), (rz HO283.out), (by refine rq ?_; exact Kd.R_mono HO286.out (fun _ hk => ⟨hk.1.1, ⟨hk.1.2, hk.2⟩⟩)), (rz HO295.out), (rz HO298.out), (rz HO301.out), (by refine rq ?_; exact Kd.R_mono HO304.out (fun _ hk => ⟨hk.1.1, ⟨hk.1.2, hk.2⟩⟩)), (kz BK272.out), (kz BK273.out), (kz BK292.out), (kz BK305.out), (kz BK311.out), GW311.out, GE311.out, NB272_311.out, NB311_272.out, NB273_311.out, NB311_273.out, NB292_311.out, NB311_292.out, NB305_311.out, NB311_305.out, (bz5 HB.out GE272.out GE273.out GE292.out GE305.out GE311.out)⟩)
  rintro gb311 w52 ⟨hS_, h0_, h1_, h2_, h3_, h4_, h5_, h6_, h7_, h8_, h9_, h10_, h11_, h12_, h13_, h14_, h15_, h16_, h17_, h18_, h19_, h20_, h21_, h22_, h23_⟩
  have n0_ : Aside0 (Kd.R k97 97 w52 w.heap.size (fun k_ => some k_ ≠ (.slice Ao39 t293.length co39 : Value).ownBlock) v276 t275) := ⟨h0_⟩
  have n1_ : Aside0 (Kd.R k100 100 w52 w.heap.size (fun k_ => some k_ ≠ (.slice Ao44 t296.length co44 : Value).ownBlock) v279 t278) := ⟨h1_⟩
  have n2_ : Aside0 (Kd.R k102 102 w52 w.heap.size (fun k_ => some k_ ≠ (.slice Ao45 t299.length co45 : Value).ownBlock) v282 t281) := ⟨h2_⟩
  have n3_ : Aside0 (Kd.R k49 49 w52 w.heap.size (fun k_ => some k_ ≠ (.slice Ao46 t302.length co46 : Value).ownBlock /\ k_ ≠ gb292 /\ k_ ≠ gb311) v285 t284) := ⟨h3_⟩
  have n4_ : Aside0 (Kd.R k97 97 w52 w.heap.size (fun k_ => some k_ ≠ (v276 : Value).ownBlock) (.slice Ao39 t293.length co39) t293) := ⟨h4_⟩
  have n5_ : Aside0 (Kd.R k100 100 w52 w.heap.size (fun k_ => some k_ ≠ (v279 : Value).ownBlock) (.slice Ao44 t296.length co44) t296) := ⟨h5_⟩
  have n6_ : Aside0 (Kd.R k102 102 w52 w.heap.size (fun k_ => some k_ ≠ (v282 : Value).ownBlock) (.slice Ao45 t299.length co45) t299) := ⟨h6_⟩
  have n7_ : Aside0 (Kd.R k49 49 w52 w.heap.size (fun k_ => some k_ ≠ (v285 : Value).ownBlock /\ k_ ≠ gb292 /\ k_ ≠ gb311) (.slice Ao46 t302.length co46) t302) := ⟨h7_⟩
  have n8_ : Aside0 (w52.heap[gb272]? = some (.cells #[.slice A0_0 l0_0.length c0_0, .slice A0_1 l0_1.length c0_1, .slice A0_2 l0_2.length c0_2, .slice A0_3 l0_3.length c0_3] 44 (0, 0))) := ⟨h8_⟩
  have n9_ : Aside0 (w52.heap[gb273]? = some (.cells #[.int .i64 a2_0, .int .i64 a2_1] 46 (0, 0))) := ⟨h9_⟩
  have n10_ : Aside0 (w52.heap[gb292]? = some (.cells #[.int .i64 t289, .int .i64 t290] 49 (0, 0))) := ⟨h10_⟩
  have n11_ : Aside0 (w52.heap[gb305]? = some (.cells #[.slice Ao39 t293.length co39, .slice Ao44 t296.length co44, .slice Ao45 t299.length co45, .slice Ao46 t302.length co46] 57 (0, 0))) := ⟨h11_⟩
  have n12_ : Aside0 (w52.heap[gb311]? = some (.cells #[.int .i64 0, .int .i64 0] 49 (0, 0))) := ⟨h12_⟩
  have n13_ : Aside0 (w.heap.size <= gb311) := ⟨h13_⟩
  have n14_ : Aside0 (w.heap.size <= gb311) := ⟨h14_⟩
  have n15_ : Aside0 (gb272 ≠ gb311) := ⟨h15_⟩
  have n16_ : Aside0 (gb311 ≠ gb272) := ⟨h16_⟩
  have n17_ : Aside0 (gb273 ≠ gb311) := ⟨h17_⟩
  have n18_ : Aside0 (gb311 ≠ gb273) := ⟨h18_⟩
  have n19_ : Aside0 (gb292 ≠ gb311) := ⟨h19_⟩
  have n20_ : Aside0 (gb311 ≠ gb292) := ⟨h20_⟩
  have n21_ : Aside0 (gb305 ≠ gb311) := ⟨h21_⟩
  have n22_ : Aside0 (gb311 ≠ gb305) := ⟨h22_⟩
  have n23_ : Aside0 (Below w.heap.size w w52) := ⟨h23_⟩
  clear HO277
  clear HO280
  clear HO283
  clear HO286
  clear HO295
  clear HO298
  clear HO301
  clear HO304
  clear BK272
  clear BK273
  clear BK292
  clear BK305
  clear HB
  clear h0_ h1_ h2_ h3_ h4_ h5_ h6_ h7_ h8_ h9_ h10_ h11_ h12_ h13_ h14_ h15_ h16_ h17_ h18_ h19_ h20_ h21_ h22_ h23_
  have HO277 := n0_
  have HO280 := n1_
  have HO283 := n2_
  have HO286 := n3_
  have HO295 := n4_
  have HO298 := n5_
  have HO301 := n6_
  have HO304 := n7_
  have BK272 := n8_
  have BK273 := n9_
  have BK292 := n10_
  have BK305 := n11_
  have BK311 := n12_
  have GW311 := n13_
  have GE311 := n14_
  have NB272_311 := n15_
  have NB311_272 := n16_
  have NB273_311 := n17_
  have NB311_273 := n18_
  have NB292_311 := n19_
  have NB311_292 := n20_
  have NB305_311 := n21_
  have NB311_305 := n22_
  have HB := n23_
  clear n0_ n1_ n2_ n3_ n4_ n5_ n6_ n7_ n8_ n9_ n10_ n11_ n12_ n13_ n14_ n15_ n16_ n17_ n18_ n19_ n20_ n21_ n22_ n23_
  have hHeld : w52.cell? ⟨gb305, 0, none⟩ = some (.slice Ao39 t293.length co39) /\ w52.cell? ⟨gb305, 1, none⟩ = some (.slice Ao44 t296.length co44) /\ w52.cell? ⟨gb305, 2, none⟩ = some (.slice Ao45 t299.length co45) /\ w52.cell? ⟨gb305, 3, none⟩ = some (.slice Ao46 t302.length co46) /\ w52.cell? ⟨gb273, 0, none⟩ = some (.int .i64 a2_0) /\ w52.cell? ⟨gb273, 1, none⟩ = some (.int .i64 a2_1) := hS_
  refine norm_ (a' := ?_) ?_ ?_
  rotate_left
  ·simp only [putAll, Act.put, List.setIfInBounds_toArray, List.set_cons_zero, List.set_cons_succ]
   rfl
  refine one_ (i := 9) (N := none) #[tt, tt, tt, tt, tt, tt, tt, tt, tt, tt, ff] rfl rfl (one_of HT_.out (by kernel_rfl)) (by decide) (fun K hK => ?_)
  have hs53 : w52.cell? ⟨gb311, 0, none⟩ = some (.int .i64 0) := (blk_cell BK311.out 0).trans rfl
  have hfs53 := blk_frozen BK311.out 0
  have hns53_0 := NB272_311.out
  have hns53_1 := NB273_311.out
  have hns53_2 := NB292_311.out
  have hns53_3 := NB305_311.out
  have hms53_0 := NB311_272.out
  have hms53_1 := NB311_273.out
  have hms53_2 := NB311_292.out
  have hms53_3 := NB311_305.out
  have hs54 : w52.cell? ⟨gb311, 1, none⟩ = some (.int .i64 0) := (blk_cell BK311.out 1).trans rfl
  have hfs54 := blk_frozen BK311.out 1
  have hns54_0 := NB272_311.out
  have hns54_1 := NB273_311.out
  have hns54_2 := NB292_311.out
  have hns54_3 := NB305_311.out
  have hms54_0 := NB311_272.out
  have hms54_1 := NB311_273.out
  have hms54_2 := NB311_292.out
  have hms54_3 := NB311_305.out
  refine skip_ (w1 := ?_) (by rfl) rfl ?_ ?_
  rotate_left
  ·go_simp
   rfl
  refine hK.out _ _ ⟨((cell_far (p := ⟨gb311, _, none⟩) NB305_311.out _).trans (((cell_far (p := ⟨gb311, _, none⟩) NB305_311.out _).trans (hHeld.1)))), ((cell_far (p := ⟨gb311, _, none⟩) NB305_311.out _).trans (((cell_far (p := ⟨gb311, _, none⟩) NB305_311.out _).trans (hHeld.2.1)))), ((cell_far (p := ⟨gb311, _, none⟩) NB305_311.out _).trans (((cell_far (p := ⟨gb311, _, none⟩) NB305_311.out _).trans (hHeld.2.2.1)))), ((cell_far (p := ⟨gb311, _, none⟩) NB305_311.out _).trans (((cell_far (p := ⟨gb311, _, none⟩) NB305_311.out _).trans (hHeld.2.2.2.1)))), ((cell_far (p := ⟨gb311, _, none⟩) NB273_311.out _).trans (((cell_far (p := ⟨gb311, _, none⟩) NB273_311.out _).trans (hHeld.2.2.2.2.1)))), ((cell_far (p := ⟨gb311, _, none⟩) NB273_311.out _).trans (((cell_far (p := ⟨gb311, _, none⟩) NB273_311.out _).trans (hHeld.2.2.2.2.2))))⟩ (fun hHeld => ?_)
  clear hK K
  refine pure_ (i := 10) (N := some 12) (v := ?_) (a' := ?_) #[tt, tt, tt, tt, tt, tt, tt, tt, tt, tt, tt] rfl rfl (any_of HT_.out (by kernel_rfl)) (fun _ _ _ h => h) (Or.inl ⟨by rfl, ?_⟩) ?_ ?_
  rotate_left
  ·intro w'
   go_simp
   with_reducible rfl
  rotate_left
  ·simp only [Act.put, sz1, sz2, sz3, i64_w, i32_w]
   rfl
  refine done_ (done_of HT_.out (by kernel_rfl)) ?_
  go_upto_region 8 with (fail)
  go_cut [45] (fun v45 wc => ∃ (kq : Nat) (x45_16 : Bool), v45 = .bool x45_16 /\ Aside0 (laws_FnExactLookUp.j0 kq x45_16 l0_0 l0_1 l0_2 l0_3 t293 t296 t299 t302 = some r) /\ Aside0 (kq <= k) /\ Aside0 (Kd.R k97 97 wc w.heap.size (fun _ => True) (.slice Ao39 t293.length co39) t293) /\ Aside0 (Kd.R k100 100 wc w.heap.size (fun _ => True) (.slice Ao44 t296.length co44) t296) /\ Aside0 (Kd.R k102 102 wc w.heap.size (fun _ => True) (.slice Ao45 t299.length co45) t299) /\ Aside0 (Kd.R k49 49 wc w.heap.size (fun k_ => k_ ≠ gb292 /\ k_ ≠ gb311) (.slice Ao46 t302.length co46) t302) /\ Aside0 (wc.heap[gb272]? = some (.cells #[(.slice A0_0 l0_0.length c0_0), (.slice A0_1 l0_1.length c0_1), (.slice A0_2 l0_2.length c0_2), (.slice A0_3 l0_3.length c0_3)] 44 (0, 0))) /\ Aside0 (wc.heap[gb273]? = some (.cells #[.int .i64 a2_0, .int .i64 a2_1] 46 (0, 0))) /\ Aside0 (wc.heap[gb292]? = some (.cells #[.int .i64 t289, .int .i64 t290] 49 (0, 0))) /\ Aside0 (wc.heap[gb305]? = some (.cells #[(.slice Ao39 t293.length co39), (.slice Ao44 t296.length co44), (.slice Ao45 t299.length co45), (.slice Ao46 t302.length co46)] 57 (0, 0))) /\ Aside0 (wc.heap[gb311]? = some (.cells #[.int .i64 t308, .int .i64 t309] 49 (0, 0))) /\ Aside0 (Below w.heap.size w wc))
  case first =>
   have H := HC17.out
   clear HC17
   replace H := bi H
   obtain ⟨t312, A550, H⟩ := H
   try dsimp only at H
   have A55 := Aside0.mk A550
   clear A550
   by_cases c56 : t312 = true
   ·subst c56
    have H1 := hp H
    clear H
    have H := H1
    clear H1
    have H' := Aside0.mk H
    clear H
    have hnb57 := NB311_272.out
    have hnc57 := NB272_311.out
    have hnb58 := NB311_273.out
    have hnc58 := NB273_311.out
    have hnb59 := NB311_292.out
    have hnc59 := NB292_311.out
    have hnb60 := NB311_305.out
    have hnc60 := NB305_311.out
    obtain ⟨hcz61_0, hcz61_1⟩ := cz2 BK311.out
    obtain ⟨hfz61_0, hfz61_1⟩ := fz2 BK311.out
    have hnb62 := NB292_272.out
    have hnc62 := NB272_292.out
    have hnb63 := NB292_273.out
    have hnc63 := NB273_292.out
    have hnb64 := NB292_305.out
    have hnc64 := NB305_292.out
    obtain ⟨hcz65_0, hcz65_1⟩ := cz2 BK292.out
    obtain ⟨hfz65_0, hfz65_1⟩ := fz2 BK292.out
    go_wp2_with (first | ((with_reducible refine gate_callee (f := 23) rfl ?_); refine goesL_ (some 39) rfl rfl Try.func23 (by kernel_rfl) rfl #[.agg #[.int .i64 t308, .int .i64 t309], .agg #[.int .i64 t289, .int .i64 t290]] rfl lz ?_; (with_reducible refine (laws_eqVal.calls t308 t309 t289 t290 true _ A55.out).mono ?_); rintro e w66 ⟨rfl, hb⟩; refine ⟨_, rfl, ?_⟩; replace HO277 := Aside0.mk (Kd.R_below (by refine rq ?_; exact (Kd.R_mono (Kd.R_far (p := ⟨gb311, 1, none⟩) (Kd.R_far (p := ⟨gb311, 0, none⟩) (Kd.R_types HO277.out BK311.out (by decide)) (fun _ hk => hk.2) (.int .i64 t308)) (fun _ hk => hk.2) (.int .i64 t309)) (fun _ h_ => h_.1))) hb); replace HO280 := Aside0.mk (Kd.R_below (by refine rq ?_; exact (Kd.R_mono (Kd.R_far (p := ⟨gb311, 1, none⟩) (Kd.R_far (p := ⟨gb311, 0, none⟩) (Kd.R_types HO280.out BK311.out (by decide)) (fun _ hk => hk.2) (.int .i64 t308)) (fun _ hk => hk.2) (.int .i64 t309)) (fun _ h_ => h_.1))) hb); replace HO283 := Aside0.mk (Kd.R_below (by refine rq ?_; exact (Kd.R_mono (Kd.R_far (p := ⟨gb311, 1, none⟩) (Kd.R_far (p := ⟨gb311, 0, none⟩) (Kd.R_types HO283.out BK311.out (by decide)) (fun _ hk => hk.2) (.int .i64 t308)) (fun _ hk => hk.2) (.int .i64 t309)) (fun _ h_ => h_.1))) hb); replace HO286 := Aside0.mk (Kd.R_below (by refine rq ?_; exact (Kd.R_mono (Kd.R_far (p := ⟨gb311, 1, none⟩) (Kd.R_far (p := ⟨gb311, 0, none⟩) (Kd.R_mono HO286.out (fun k_ hk => (⟨hk, hk.2.2⟩ : _ /\ k_ ≠ gb311))) (fun _ hk => hk.2) (.int .i64 t308)) (fun _ hk => hk.2) (.int .i64 t309)) (fun _ h_ => h_.1))) hb); replace HO295 := Aside0.mk (Kd.R_below (by refine rq ?_; exact (Kd.R_mono (Kd.R_far (p := ⟨gb311, 1, none⟩) (Kd.R_far (p := ⟨gb311, 0, none⟩) (Kd.R_types HO295.out BK311.out (by decide)) (fun _ hk => hk.2) (.int .i64 t308)) (fun _ hk => hk.2) (.int .i64 t309)) (fun _ h_ => h_.1))) hb); replace HO298 := Aside0.mk (Kd.R_below (by refine rq ?_; exact (Kd.R_mono (Kd.R_far (p := ⟨gb311, 1, none⟩) (Kd.R_far (p := ⟨gb311, 0, none⟩) (Kd.R_types HO298.out BK311.out (by decide)) (fun _ hk => hk.2) (.int .i64 t308)) (fun _ hk => hk.2) (.int .i64 t309)) (fun _ h_ => h_.1))) hb); replace HO301 := Aside0.mk (Kd.R_below (by refine rq ?_; exact (Kd.R_mono (Kd.R_far (p := ⟨gb311, 1, none⟩) (Kd.R_far (p := ⟨gb311, 0, none⟩) (Kd.R_types HO301.out BK311.out (by decide)) (fun _ hk => hk.2) (.int .i64 t308)) (fun _ hk => hk.2) (.int .i64 t309)) (fun _ h_ => h_.1))) hb); replace HO304 := Aside0.mk (Kd.R_below (by refine rq ?_; exact (Kd.R_mono (Kd.R_far (p := ⟨gb311, 1, none⟩) (Kd.R_far (p := ⟨gb311, 0, none⟩) (Kd.R_mono HO304.out (fun k_ hk => (⟨hk, hk.2.2⟩ : _ /\ k_ ≠ gb311))) (fun _ hk => hk.2) (.int .i64 t308)) (fun _ hk => hk.2) (.int .i64 t309)) (fun _ h_ => h_.1))) hb); replace BK272 := Aside0.mk (blk_below (g := gb272) (o := .cells #[.slice A0_0 l0_0.length c0_0, .slice A0_1 l0_1.length c0_1, .slice A0_2 l0_2.length c0_2, .slice A0_3 l0_3.length c0_3] 44 (0, 0)) (by refine kq ?_; refine blk_far ?_ NB272_311.out _; refine kq ?_; refine blk_far ?_ NB272_311.out _; refine kq ?_; exact BK272.out) hb); replace BK273 := Aside0.mk (blk_below (g := gb273) (o := .cells #[.int .i64 a2_0, .int .i64 a2_1] 46 (0, 0)) (by refine kq ?_; refine blk_far ?_ NB273_311.out _; refine kq ?_; refine blk_far ?_ NB273_311.out _; refine kq ?_; exact BK273.out) hb); replace BK292 := Aside0.mk (blk_below (g := gb292) (o := .cells #[.int .i64 t289, .int .i64 t290] 49 (0, 0)) (by refine kq ?_; refine blk_far ?_ NB292_311.out _; refine kq ?_; refine blk_far ?_ NB292_311.out _; refine kq ?_; exact BK292.out) hb); replace BK305 := Aside0.mk (blk_below (g := gb305) (o := .cells #[.slice Ao39 t293.length co39, .slice Ao44 t296.length co44, .slice Ao45 t299.length co45, .slice Ao46 t302.length co46] 57 (0, 0)) (by refine kq ?_; refine blk_far ?_ NB305_311.out _; refine kq ?_; refine blk_far ?_ NB305_311.out _; refine kq ?_; exact BK305.out) hb); replace BK311 := Aside0.mk (blk_below (g := gb311) (o := .cells #[.int .i64 t308, .int .i64 t309] 49 (0, 0)) (by refine kq ?_; refine blk_put (cs := #[.int .i64 t308, .int .i64 0]) ?_ 1 _ rfl; refine kq ?_; refine blk_put (cs := #[.int .i64 0, .int .i64 0]) ?_ 0 _ rfl; refine kq ?_; exact BK311.out) hb); replace HB := Aside0.mk (below_step (bz5 HB.out GE272.out GE273.out GE292.out GE305.out GE311.out) hb); (try clear hb); (try clear hk); (try clear hi)))
    go_meet
    case rel => exact ⟨_, ((t310 != t291)), ez, H', ⟨by first | omega | exact Nat.le_refl _⟩, ⟨by refine rq ?_; exact Kd.R_mono HO295.out (fun _ hk => trivial)⟩, ⟨by refine rq ?_; exact Kd.R_mono HO298.out (fun _ hk => trivial)⟩, ⟨by refine rq ?_; exact Kd.R_mono HO301.out (fun _ hk => trivial)⟩, ⟨by refine rq ?_; exact Kd.R_mono HO304.out (fun _ hk => ⟨hk.2.1, hk.2.2⟩)⟩, ⟨by refine kq ?_; exact BK272.out⟩, ⟨by refine kq ?_; exact BK273.out⟩, ⟨by refine kq ?_; exact BK292.out⟩, ⟨by refine kq ?_; exact BK305.out⟩, ⟨by refine kq ?_; exact BK311.out⟩, ⟨(bz5 HB.out GE272.out GE273.out GE292.out GE305.out GE311.out)⟩⟩
   ·replace c56 := Bool.eq_false_iff.mpr c56
    subst c56
    have H1 := hq H
    clear H
    have H := H1
    clear H1
    have H' := Aside0.mk H
    clear H
    have hnb67 := NB311_272.out
    have hnc67 := NB272_311.out
    have hnb68 := NB311_273.out
    have hnc68 := NB273_311.out
    have hnb69 := NB311_292.out
    have hnc69 := NB292_311.out
    have hnb70 := NB311_305.out
    have hnc70 := NB305_311.out
    obtain ⟨hcz71_0, hcz71_1⟩ := cz2 BK311.out
    obtain ⟨hfz71_0, hfz71_1⟩ := fz2 BK311.out
    have hnb72 := NB292_272.out
    have hnc72 := NB272_292.out
    have hnb73 := NB292_273.out
    have hnc73 := NB273_292.out
    have hnb74 := NB292_305.out
    have hnc74 := NB305_292.out
    obtain ⟨hcz75_0, hcz75_1⟩ := cz2 BK292.out
    obtain ⟨hfz75_0, hfz75_1⟩ := fz2 BK292.out
    go_wp2_with (first | ((with_reducible refine gate_callee (f := 23) rfl ?_); refine goesL_ (some 39) rfl rfl Try.func23 (by kernel_rfl) rfl #[.agg #[.int .i64 t308, .int .i64 t309], .agg #[.int .i64 t289, .int .i64 t290]] rfl lz ?_; (with_reducible refine (laws_eqVal.calls t308 t309 t289 t290 false _ A55.out).mono ?_); rintro e w76 ⟨rfl, hb⟩; refine ⟨_, rfl, ?_⟩; replace HO277 := Aside0.mk (Kd.R_below (by refine rq ?_; exact (Kd.R_mono (Kd.R_far (p := ⟨gb311, 1, none⟩) (Kd.R_far (p := ⟨gb311, 0, none⟩) (Kd.R_types HO277.out BK311.out (by decide)) (fun _ hk => hk.2) (.int .i64 t308)) (fun _ hk => hk.2) (.int .i64 t309)) (fun _ h_ => h_.1))) hb); replace HO280 := Aside0.mk (Kd.R_below (by refine rq ?_; exact (Kd.R_mono (Kd.R_far (p := ⟨gb311, 1, none⟩) (Kd.R_far (p := ⟨gb311, 0, none⟩) (Kd.R_types HO280.out BK311.out (by decide)) (fun _ hk => hk.2) (.int .i64 t308)) (fun _ hk => hk.2) (.int .i64 t309)) (fun _ h_ => h_.1))) hb); replace HO283 := Aside0.mk (Kd.R_below (by refine rq ?_; exact (Kd.R_mono (Kd.R_far (p := ⟨gb311, 1, none⟩) (Kd.R_far (p := ⟨gb311, 0, none⟩) (Kd.R_types HO283.out BK311.out (by decide)) (fun _ hk => hk.2) (.int .i64 t308)) (fun _ hk => hk.2) (.int .i64 t309)) (fun _ h_ => h_.1))) hb); replace HO286 := Aside0.mk (Kd.R_below (by refine rq ?_; exact (Kd.R_mono (Kd.R_far (p := ⟨gb311, 1, none⟩) (Kd.R_far (p := ⟨gb311, 0, none⟩) (Kd.R_mono HO286.out (fun k_ hk => (⟨hk, hk.2.2⟩ : _ /\ k_ ≠ gb311))) (fun _ hk => hk.2) (.int .i64 t308)) (fun _ hk => hk.2) (.int .i64 t309)) (fun _ h_ => h_.1))) hb); replace HO295 := Aside0.mk (Kd.R_below (by refine rq ?_; exact (Kd.R_mono (Kd.R_far (p := ⟨gb311, 1, none⟩) (Kd.R_far (p := ⟨gb311, 0, none⟩) (Kd.R_types HO295.out BK311.out (by decide)) (fun _ hk => hk.2) (.int .i64 t308)) (fun _ hk => hk.2) (.int .i64 t309)) (fun _ h_ => h_.1))) hb); replace HO298 := Aside0.mk (Kd.R_below (by refine rq ?_; exact (Kd.R_mono (Kd.R_far (p := ⟨gb311, 1, none⟩) (Kd.R_far (p := ⟨gb311, 0, none⟩) (Kd.R_types HO298.out BK311.out (by decide)) (fun _ hk => hk.2) (.int .i64 t308)) (fun _ hk => hk.2) (.int .i64 t309)) (fun _ h_ => h_.1))) hb); replace HO301 := Aside0.mk (Kd.R_below (by refine rq ?_; exact (Kd.R_mono (Kd.R_far (p := ⟨gb311, 1, none⟩) (Kd.R_far (p := ⟨gb311, 0, none⟩) (Kd.R_types HO301.out BK311.out (by decide)) (fun _ hk => hk.2) (.int .i64 t308)) (fun _ hk => hk.2) (.int .i64 t309)) (fun _ h_ => h_.1))) hb); replace HO304 := Aside0.mk (Kd.R_below (by refine rq ?_; exact (Kd.R_mono (Kd.R_far (p := ⟨gb311, 1, none⟩) (Kd.R_far (p := ⟨gb311, 0, none⟩) (Kd.R_mono HO304.out (fun k_ hk => (⟨hk, hk.2.2⟩ : _ /\ k_ ≠ gb311))) (fun _ hk => hk.2) (.int .i64 t308)) (fun _ hk => hk.2) (.int .i64 t309)) (fun _ h_ => h_.1))) hb); replace BK272 := Aside0.mk (blk_below (g := gb272) (o := .cells #[.slice A0_0 l0_0.length c0_0, .slice A0_1 l0_1.length c0_1, .slice A0_2 l0_2.length c0_2, .slice A0_3 l0_3.length c0_3] 44 (0, 0)) (by refine kq ?_; refine blk_far ?_ NB272_311.out _; refine kq ?_; refine blk_far ?_ NB272_311.out _; refine kq ?_; exact BK272.out) hb); replace BK273 := Aside0.mk (blk_below (g := gb273) (o := .cells #[.int .i64 a2_0, .int .i64 a2_1] 46 (0, 0)) (by refine kq ?_; refine blk_far ?_ NB273_311.out _; refine kq ?_; refine blk_far ?_ NB273_311.out _; refine kq ?_; exact BK273.out) hb); replace BK292 := Aside0.mk (blk_below (g := gb292) (o := .cells #[.int .i64 t289, .int .i64 t290] 49 (0, 0)) (by refine kq ?_; refine blk_far ?_ NB292_311.out _; refine kq ?_; refine blk_far ?_ NB292_311.out _; refine kq ?_; exact BK292.out) hb); replace BK305 := Aside0.mk (blk_below (g := gb305) (o := .cells #[.slice Ao39 t293.length co39, .slice Ao44 t296.length co44, .slice Ao45 t299.length co45, .slice Ao46 t302.length co46] 57 (0, 0)) (by refine kq ?_; refine blk_far ?_ NB305_311.out _; refine kq ?_; refine blk_far ?_ NB305_311.out _; refine kq ?_; exact BK305.out) hb); replace BK311 := Aside0.mk (blk_below (g := gb311) (o := .cells #[.int .i64 t308, .int .i64 t309] 49 (0, 0)) (by refine kq ?_; refine blk_put (cs := #[.int .i64 t308, .int .i64 0]) ?_ 1 _ rfl; refine kq ?_; refine blk_put (cs := #[.int .i64 0, .int .i64 0]) ?_ 0 _ rfl; refine kq ?_; exact BK311.out) hb); replace HB := Aside0.mk (below_step (bz5 HB.out GE272.out GE273.out GE292.out GE305.out GE311.out) hb); (try clear hb); (try clear hk); (try clear hi)))
    go_meet
    case rel => exact ⟨_, (true), ez, H', ⟨by first | omega | exact Nat.le_refl _⟩, ⟨by refine rq ?_; exact Kd.R_mono HO295.out (fun _ hk => trivial)⟩, ⟨by refine rq ?_; exact Kd.R_mono HO298.out (fun _ hk => trivial)⟩, ⟨by refine rq ?_; exact Kd.R_mono HO301.out (fun _ hk => trivial)⟩, ⟨by refine rq ?_; exact Kd.R_mono HO304.out (fun _ hk => ⟨hk.2.1, hk.2.2⟩)⟩, ⟨by refine kq ?_; exact BK272.out⟩, ⟨by refine kq ?_; exact BK273.out⟩, ⟨by refine kq ?_; exact BK292.out⟩, ⟨by refine kq ?_; exact BK305.out⟩, ⟨by refine kq ?_; exact BK311.out⟩, ⟨(bz5 HB.out GE272.out GE273.out GE292.out GE305.out GE311.out)⟩⟩
  case rest =>
   clear HC17
   try clear c2
   try clear p2
   try clear c5
   try clear c6
   try clear c7
   try clear c21
   try clear c22
   try clear c23
   try clear c56
   try clear c57
   try clear c58
   try clear c59
   try clear c60
   try clear c62
   try clear c63
   try clear c64
   try clear c67
   try clear c68
   try clear c69
   try clear c70
   try clear c72
   try clear c73
   try clear c74
   try clear hcz61_0 hcz61_1
   try clear hcz65_0 hcz65_1
   try clear hcz71_0 hcz71_1
   try clear hcz75_0 hcz75_1
   try clear hfz61_0 hfz61_1
   try clear hfz65_0 hfz65_1
   try clear hfz71_0 hfz71_1
   try clear hfz75_0 hfz75_1
   obtain ⟨kq, x45_16, rfl, HA, HJ16, HO_306000, HO_306001, HO_306002, HO_306003, BK272, BK273, BK292, BK305, BK311, HB⟩ := hcut
   cases kq with
   | zero => exact absurd HA.out (by simp [laws_FnExactLookUp.j0])
   | succ kj16 =>
    have H := HA.out
    clear HA
    simp only [laws_FnExactLookUp.j0] at H
    by_cases c77 : x45_16 = true
    ·subst c77
     have H1 := hp H
     clear H
     have H := H1
     clear H1
     obtain rfl := Option.some.inj H
     go_wp2
     go_ret
     exact ⟨gz, (bz5 HB.out GE272.out GE273.out GE292.out GE305.out GE311.out)⟩
    ·replace c77 := Bool.eq_false_iff.mpr c77
     subst c77
     have H1 := hq H
     clear H
     have H := H1
     clear H1
     replace H := bi H
     obtain ⟨⟨t313, t316, t319, t322⟩, A780, H⟩ := H
     try dsimp only at H
     have A78 := Aside0.mk A780
     clear A780
     replace H := bi H
     obtain ⟨t325, A790, H⟩ := H
     try dsimp only at H
     have A79 := Aside0.mk A790
     clear A790
     by_cases c80 : t325 = true
     ·subst c80
      have H1 := hp H
      clear H
      have H := H1
      clear H1
      obtain rfl := Option.some.inj H
      try go_wp2
      have n0_ := Aside0.mk (Kd.R_drew HO_306000.out)
      have n1_ := Aside0.mk (Kd.R_drew HO_306001.out)
      have n2_ := Aside0.mk (Kd.R_drew HO_306002.out)
      have n3_ := Aside0.mk (Kd.R_drew HO_306003.out)
      have n4_ := Aside0.mk (blk_drew BK272.out)
      have n5_ := Aside0.mk (blk_drew BK273.out)
      have n6_ := Aside0.mk (blk_drew BK292.out)
      have n7_ := Aside0.mk (blk_drew BK305.out)
      have n8_ := Aside0.mk (blk_drew BK311.out)
      have n9_ := Aside0.mk (below_drew1 HB.out)
      clear HO_306000
      clear HO_306001
      clear HO_306002
      clear HO_306003
      clear BK272
      clear BK273
      clear BK292
      clear BK305
      clear BK311
      clear HB
      have HO_306000 := n0_
      have HO_306001 := n1_
      have HO_306002 := n2_
      have HO_306003 := n3_
      have BK272 := n4_
      have BK273 := n5_
      have BK292 := n6_
      have BK305 := n7_
      have BK311 := n8_
      have HB := n9_
      clear n0_ n1_ n2_ n3_ n4_ n5_ n6_ n7_ n8_ n9_
      refine start_ (n := 5) (S := fun w' => w'.cell? ⟨gb305, 0, none⟩ = some (.slice Ao39 t293.length co39) /\ w'.cell? ⟨gb305, 1, none⟩ = some (.slice Ao44 t296.length co44) /\ w'.cell? ⟨gb305, 2, none⟩ = some (.slice Ao45 t299.length co45) /\ w'.cell? ⟨gb305, 3, none⟩ = some (.slice Ao46 t302.length co46) /\ w'.cell? ⟨gb272, 0, none⟩ = some (.slice A0_0 l0_0.length c0_0) /\ w'.cell? ⟨gb272, 1, none⟩ = some (.slice A0_1 l0_1.length c0_1) /\ w'.cell? ⟨gb272, 2, none⟩ = some (.slice A0_2 l0_2.length c0_2) /\ w'.cell? ⟨gb272, 3, none⟩ = some (.slice A0_3 l0_3.length c0_3)) (ds := []) #[ff, ff, ff, ff, ff] (by kernel_rfl) rfl rfl ⟨(blk_cell BK305.out 0).trans rfl, (blk_cell BK305.out 1).trans rfl, (blk_cell BK305.out 2).trans rfl, (blk_cell BK305.out 3).trans rfl, (blk_cell BK272.out 0).trans rfl, (blk_cell BK272.out 1).trans rfl, (blk_cell BK272.out 2).trans rfl, (blk_cell BK272.out 3).trans rfl⟩ (fun hHeld => ?_)
      generalize wc.drew = w81 at HO_306000 HO_306001 HO_306002 HO_306003 BK272 BK273 BK292 BK305 BK311 HB hHeld ⊢
      refine take_ (i := 0) (N := some 46) (v := ?_) (a' := ?_) #[tt, ff, ff, ff, ff] rfl rfl (by kernel_rfl) (fun _ _ _ h => h) (Or.inl ⟨by rfl, ?_⟩) hHeld ?_ ?_
      rotate_left
      ·rintro w' ⟨s0, s1, s2, s3, s4, s5, s6, s7⟩
       go_simp
       with_reducible rfl
      rotate_left
      ·simp only [Act.put, sz1, sz2, sz3, i64_w, i32_w]
       rfl
      refine take_ (i := 1) (N := some 47) (v := ?_) (a' := ?_) #[tt, tt, ff, ff, ff] rfl rfl (by kernel_rfl) (fun _ _ _ h => h) (Or.inl ⟨by rfl, ?_⟩) hHeld ?_ ?_
      rotate_left
      ·rintro w' ⟨s0, s1, s2, s3, s4, s5, s6, s7⟩
       go_simp
       with_reducible rfl
      rotate_left
      ·simp only [Act.put, sz1, sz2, sz3, i64_w, i32_w]
       rfl
      refine one_ (i := 2) (N := some 48) #[tt, tt, tt, ff, ff] rfl rfl (by kernel_rfl) (by decide) (fun K hK => ?_)
      refine goes_ Try.func20 (by kernel_rfl) rfl #[.agg #[.slice A0_0 l0_0.length c0_0, .slice A0_1 l0_1.length c0_1, .slice A0_2 l0_2.length c0_2, .slice A0_3 l0_3.length c0_3]] (by rfl) rfl rfl lz ?_
      with_reducible refine (laws_toHeap.calls kj16 _ _ l0_0 _ _ l0_1 _ _ l0_2 _ _ l0_3 t313 t316 t319 t322 _ ?side1 ?side2 ?side3 ?side4 ?side5 ?side6 ?side7 ?side8 A78.out).mono ?_
      (case side1 => exact cz (Kd.C_below HR0_0.out HB.out))
      (case side2 => exact HC0_0.out)
      (case side3 => exact cz (Kd.C_below HR0_1.out HB.out))
      (case side4 => exact HC0_1.out)
      (case side5 => exact cz (Kd.C_below HR0_2.out HB.out))
      (case side6 => exact HC0_2.out)
      (case side7 => exact cz (Kd.C_below HR0_3.out HB.out))
      (case side8 => exact HC0_3.out)
      rintro e w82 ⟨v314, v317, v320, v323, rfl, ho0, ho1, ho2, ho3, hb⟩
      refine ⟨_, rfl, ?_⟩
      have n0_ := Aside0.mk (Kd.R_elder' (rz HO_306000.out) (Kd.R_base ho0) hb)
      have n1_ := Aside0.mk (Kd.R_elder' (rz HO_306001.out) (Kd.R_base ho1) hb)
      have n2_ := Aside0.mk (Kd.R_elder' (rz HO_306002.out) (Kd.R_base ho2) hb)
      have n3_ := Aside0.mk (Kd.R_elder' (rz HO_306003.out) (Kd.R_base ho3) hb)
      have n4_ := Aside0.mk (Kd.R_lower (Kd.R_new' ho0 (Kd.R_lt (rz HO_306000.out))) (below_size (bz5 HB.out GE272.out GE273.out GE292.out GE305.out GE311.out)))
      have n5_ := Aside0.mk (Kd.R_lower (Kd.R_new' ho1 (Kd.R_lt (rz HO_306001.out))) (below_size (bz5 HB.out GE272.out GE273.out GE292.out GE305.out GE311.out)))
      have n6_ := Aside0.mk (Kd.R_lower (Kd.R_new' ho2 (Kd.R_lt (rz HO_306002.out))) (below_size (bz5 HB.out GE272.out GE273.out GE292.out GE305.out GE311.out)))
      have n7_ := Aside0.mk (Kd.R_lower (Kd.R_newB (Kd.R_newB (Kd.R_new' ho3 (Kd.R_lt (rz HO_306003.out))) (g := gb292) (o := .cells #[.int .i64 t289, .int .i64 t290] 49 (0, 0)) (kz BK292.out)) (g := gb311) (o := .cells #[.int .i64 t308, .int .i64 t309] 49 (0, 0)) (kz BK311.out)) (below_size (bz5 HB.out GE272.out GE273.out GE292.out GE305.out GE311.out)))
      have n8_ := Aside0.mk (blk_below (kz BK272.out) hb)
      have n9_ := Aside0.mk (blk_below (kz BK273.out) hb)
      have n10_ := Aside0.mk (blk_below (kz BK292.out) hb)
      have n11_ := Aside0.mk (blk_below (kz BK305.out) hb)
      have n12_ := Aside0.mk (blk_below (kz BK311.out) hb)
      have n13_ := Aside0.mk (below_step (bz5 HB.out GE272.out GE273.out GE292.out GE305.out GE311.out) hb)
      clear HO_306000
      clear HO_306001
      clear HO_306002
      clear HO_306003
      clear BK272
      clear BK273
      clear BK292
      clear BK305
      clear BK311
      clear HB
      have HO_306000 := n0_
      have HO_306001 := n1_
      have HO_306002 := n2_
      have HO_306003 := n3_
      have HO315 := n4_
      have HO318 := n5_
      have HO321 := n6_
      have HO324 := n7_
      have BK272 := n8_
      have BK273 := n9_
      have BK292 := n10_
      have BK305 := n11_
      have BK311 := n12_
      have HB := n13_
      clear n0_ n1_ n2_ n3_ n4_ n5_ n6_ n7_ n8_ n9_ n10_ n11_ n12_ n13_
      (try clear hb)
      (try clear hb2)
      (try clear hk)
      (try clear hi)
      (try clear ho0)
      (try clear ho1)
      (try clear ho2)
      (try clear ho3)
      obtain ⟨Ao83, co83, eo83⟩ := Kd.R_slice HO315.out
      (first | subst eo83 | (injection eo83 with f1_ f2_ f3_; have f4_ := f1_.symm; have f5_ := f3_.symm; clear f1_ f2_ f3_; subst f4_; subst f5_))
      obtain ⟨Ao84, co84, eo84⟩ := Kd.R_slice HO318.out
      (first | subst eo84 | (injection eo84 with f1_ f2_ f3_; have f4_ := f1_.symm; have f5_ := f3_.symm; clear f1_ f2_ f3_; subst f4_; subst f5_))
      obtain ⟨Ao85, co85, eo85⟩ := Kd.R_slice HO321.out
      (first | subst eo85 | (injection eo85 with f1_ f2_ f3_; have f4_ := f1_.symm; have f5_ := f3_.symm; clear f1_ f2_ f3_; subst f4_; subst f5_))
      obtain ⟨Ao86, co86, eo86⟩ := Kd.R_slice HO324.out
      (first | subst eo86 | (injection eo86 with f1_ f2_ f3_; have f4_ := f1_.symm; have f5_ := f3_.symm; clear f1_ f2_ f3_; subst f4_; subst f5_))
      refine hK.out _ _ ⟨(blk_cell BK305.out 0).trans rfl, (blk_cell BK305.out 1).trans rfl, (blk_cell BK305.out 2).trans rfl, (blk_cell BK305.out 3).trans rfl, (blk_cell BK272.out 0).trans rfl, (blk_cell BK272.out 1).trans rfl, (blk_cell BK272.out 2).trans rfl, (blk_cell BK272.out 3).trans rfl⟩ (fun hHeld => ?_)
      clear hK K
      refine norm_ (a' := ?_) ?_ ?_
      rotate_left
      ·show Act.put _ (some 48) _ = _
       simp only [Act.put, sz1, sz2, sz3, i64_w, i32_w]
       rfl
      refine one_ (i := 3) (N := some 49) #[tt, tt, tt, tt, ff] rfl rfl (by kernel_rfl) (by decide) (fun K hK => ?_)
      refine goes_ Try.func24 (by kernel_rfl) rfl #[.agg #[.slice Ao39 t293.length co39, .slice Ao44 t296.length co44, .slice Ao45 t299.length co45, .slice Ao46 t302.length co46], .agg #[.slice Ao83 t313.length co83, .slice Ao84 t316.length co84, .slice Ao85 t319.length co85, .slice Ao86 t322.length co86]] (by rfl) rfl rfl lz ?_
      with_reducible refine (laws_eqHeap.calls kj16 _ _ t293 _ _ t296 _ _ t299 _ _ t302 _ _ t313 _ _ t316 _ _ t319 _ _ t322 true _ ?side1 ?side2 ?side3 ?side4 ?side5 ?side6 ?side7 ?side8 ?side9 ?side10 ?side11 ?side12 ?side13 ?side14 ?side15 ?side16 A79.out).mono ?_
      (case side1 => exact cz (Kd.R_reads' HO_306000.out).2.2)
      (case side2 => exact (Kd.R_reads' HO_306000.out).2.1)
      (case side3 => exact cz (Kd.R_reads' HO_306001.out).2.2)
      (case side4 => exact (Kd.R_reads' HO_306001.out).2.1)
      (case side5 => exact cz (Kd.R_reads' HO_306002.out).2.2)
      (case side6 => exact (Kd.R_reads' HO_306002.out).2.1)
      (case side7 => exact cz (Kd.R_reads' HO_306003.out).2.2)
      (case side8 => exact (Kd.R_reads' HO_306003.out).2.1)
      (case side9 => exact cz (Kd.R_reads' HO315.out).2.2)
      (case side10 => exact (Kd.R_reads' HO315.out).2.1)
      (case side11 => exact cz (Kd.R_reads' HO318.out).2.2)
      (case side12 => exact (Kd.R_reads' HO318.out).2.1)
      (case side13 => exact cz (Kd.R_reads' HO321.out).2.2)
      (case side14 => exact (Kd.R_reads' HO321.out).2.1)
      (case side15 => exact cz (Kd.R_reads' HO324.out).2.2)
      (case side16 => exact (Kd.R_reads' HO324.out).2.1)
      rintro e w87 ⟨rfl, hb⟩
      refine ⟨_, rfl, ?_⟩
      have n0_ := qz HO_306000 hb
      have n1_ := qz HO_306001 hb
      have n2_ := qz HO_306002 hb
      have n3_ := qz HO_306003 hb
      have n4_ := qz HO315 hb
      have n5_ := qz HO318 hb
      have n6_ := qz HO321 hb
      have n7_ := qz HO324 hb
      have n8_ := Aside0.mk (blk_below (kz BK272.out) hb)
      have n9_ := Aside0.mk (blk_below (kz BK273.out) hb)
      have n10_ := Aside0.mk (blk_below (kz BK292.out) hb)
      have n11_ := Aside0.mk (blk_below (kz BK305.out) hb)
      have n12_ := Aside0.mk (blk_below (kz BK311.out) hb)
      have n13_ := Aside0.mk (below_step (bz5 HB.out GE272.out GE273.out GE292.out GE305.out GE311.out) hb)
      clear HO_306000
      clear HO_306001
      clear HO_306002
      clear HO_306003
      clear HO315
      clear HO318
      clear HO321
      clear HO324
      clear BK272
      clear BK273
      clear BK292
      clear BK305
      clear BK311
      clear HB
      have HO_306000 := n0_
      have HO_306001 := n1_
      have HO_306002 := n2_
      have HO_306003 := n3_
      have HO315 := n4_
      have HO318 := n5_
      have HO321 := n6_
      have HO324 := n7_
      have BK272 := n8_
      have BK273 := n9_
      have BK292 := n10_
      have BK305 := n11_
      have BK311 := n12_
      have HB := n13_
      clear n0_ n1_ n2_ n3_ n4_ n5_ n6_ n7_ n8_ n9_ n10_ n11_ n12_ n13_
      (try clear hb)
      (try clear hb2)
      (try clear hk)
      (try clear hi)
      refine hK.out _ _ ⟨(blk_cell BK305.out 0).trans rfl, (blk_cell BK305.out 1).trans rfl, (blk_cell BK305.out 2).trans rfl, (blk_cell BK305.out 3).trans rfl, (blk_cell BK272.out 0).trans rfl, (blk_cell BK272.out 1).trans rfl, (blk_cell BK272.out 2).trans rfl, (blk_cell BK272.out 3).trans rfl⟩ (fun hHeld => ?_)
      clear hK K
      refine norm_ (a' := ?_) ?_ ?_
      rotate_left
      ·show Act.put _ (some 49) _ = _
       simp only [Act.put, sz1, sz2, sz3, i64_w, i32_w]
       rfl
      refine pure_ (i := 4) (N := some 50) (v := ?_) (a' := ?_) #[tt, tt, tt, tt, tt] rfl rfl (by kernel_rfl) (fun _ _ _ h => h) (Or.inl ⟨by rfl, ?_⟩) ?_ ?_
      rotate_left
      ·intro w'
       go_simp
       with_reducible rfl
      rotate_left
      ·simp only [Act.put, sz1, sz2, sz3, i64_w, i32_w]
       rfl
      refine done_ (by kernel_rfl) ?_
      try go_wp2
      go_ret
      exact ⟨gz, (bz5 HB.out GE272.out GE273.out GE292.out GE305.out GE311.out)⟩
     ·replace c80 := Bool.eq_false_iff.mpr c80
      subst c80
      have H1 := hq H
      clear H
      have H := H1
      clear H1
      obtain rfl := Option.some.inj H
      try go_wp2
      have n0_ := Aside0.mk (Kd.R_drew HO_306000.out)
      have n1_ := Aside0.mk (Kd.R_drew HO_306001.out)
      have n2_ := Aside0.mk (Kd.R_drew HO_306002.out)
      have n3_ := Aside0.mk (Kd.R_drew HO_306003.out)
      have n4_ := Aside0.mk (blk_drew BK272.out)
      have n5_ := Aside0.mk (blk_drew BK273.out)
      have n6_ := Aside0.mk (blk_drew BK292.out)
      have n7_ := Aside0.mk (blk_drew BK305.out)
      have n8_ := Aside0.mk (blk_drew BK311.out)
      have n9_ := Aside0.mk (below_drew1 HB.out)
      clear HO_306000
      clear HO_306001
      clear HO_306002
      clear HO_306003
      clear BK272
      clear BK273
      clear BK292
      clear BK305
      clear BK311
      clear HB
      have HO_306000 := n0_
      have HO_306001 := n1_
      have HO_306002 := n2_
      have HO_306003 := n3_
      have BK272 := n4_
      have BK273 := n5_
      have BK292 := n6_
      have BK305 := n7_
      have BK311 := n8_
      have HB := n9_
      clear n0_ n1_ n2_ n3_ n4_ n5_ n6_ n7_ n8_ n9_
      refine start_ (n := 5) (S := fun w' => w'.cell? ⟨gb305, 0, none⟩ = some (.slice Ao39 t293.length co39) /\ w'.cell? ⟨gb305, 1, none⟩ = some (.slice Ao44 t296.length co44) /\ w'.cell? ⟨gb305, 2, none⟩ = some (.slice Ao45 t299.length co45) /\ w'.cell? ⟨gb305, 3, none⟩ = some (.slice Ao46 t302.length co46) /\ w'.cell? ⟨gb272, 0, none⟩ = some (.slice A0_0 l0_0.length c0_0) /\ w'.cell? ⟨gb272, 1, none⟩ = some (.slice A0_1 l0_1.length c0_1) /\ w'.cell? ⟨gb272, 2, none⟩ = some (.slice A0_2 l0_2.length c0_2) /\ w'.cell? ⟨gb272, 3, none⟩ = some (.slice A0_3 l0_3.length c0_3)) (ds := []) #[ff, ff, ff, ff, ff] (by kernel_rfl) rfl rfl ⟨(blk_cell BK305.out 0).trans rfl, (blk_cell BK305.out 1).trans rfl, (blk_cell BK305.out 2).trans rfl, (blk_cell BK305.out 3).trans rfl, (blk_cell BK272.out 0).trans rfl, (blk_cell BK272.out 1).trans rfl, (blk_cell BK272.out 2).trans rfl, (blk_cell BK272.out 3).trans rfl⟩ (fun hHeld => ?_)
      generalize wc.drew = w88 at HO_306000 HO_306001 HO_306002 HO_306003 BK272 BK273 BK292 BK305 BK311 HB hHeld ⊢
      refine take_ (i := 0) (N := some 46) (v := ?_) (a' := ?_) #[tt, ff, ff, ff, ff] rfl rfl (by kernel_rfl) (fun _ _ _ h => h) (Or.inl ⟨by rfl, ?_⟩) hHeld ?_ ?_
      rotate_left
      ·rintro w' ⟨s0, s1, s2, s3, s4, s5, s6, s7⟩
       go_simp
       with_reducible rfl
      rotate_left
      ·simp only [Act.put, sz1, sz2, sz3, i64_w, i32_w]
       rfl
      refine take_ (i := 1) (N := some 47) (v := ?_) (a' := ?_) #[tt, tt, ff, ff, ff] rfl rfl (by kernel_rfl) (fun _ _ _ h => h) (Or.inl ⟨by rfl, ?_⟩) hHeld ?_ ?_
      rotate_left
      ·rintro w' ⟨s0, s1, s2, s3, s4, s5, s6, s7⟩
       go_simp
       with_reducible rfl
      rotate_left
      ·simp only [Act.put, sz1, sz2, sz3, i64_w, i32_w]
       rfl
      refine one_ (i := 2) (N := some 48) #[tt, tt, tt, ff, ff] rfl rfl (by kernel_rfl) (by decide) (fun K hK => ?_)
      refine goes_ Try.func20 (by kernel_rfl) rfl #[.agg #[.slice A0_0 l0_0.length c0_0, .slice A0_1 l0_1.length c0_1, .slice A0_2 l0_2.length c0_2, .slice A0_3 l0_3.length c0_3]] (by rfl) rfl rfl lz ?_
      with_reducible refine (laws_toHeap.calls kj16 _ _ l0_0 _ _ l0_1 _ _ l0_2 _ _ l0_3 t313 t316 t319 t322 _ ?side1 ?side2 ?side3 ?side4 ?side5 ?side6 ?side7 ?side8 A78.out).mono ?_
      (case side1 => exact cz (Kd.C_below HR0_0.out HB.out))
      (case side2 => exact HC0_0.out)
      (case side3 => exact cz (Kd.C_below HR0_1.out HB.out))
      (case side4 => exact HC0_1.out)
      (case side5 => exact cz (Kd.C_below HR0_2.out HB.out))
      (case side6 => exact HC0_2.out)
      (case side7 => exact cz (Kd.C_below HR0_3.out HB.out))
      (case side8 => exact HC0_3.out)
      rintro e w89 ⟨v314, v317, v320, v323, rfl, ho0, ho1, ho2, ho3, hb⟩
      refine ⟨_, rfl, ?_⟩
      have n0_ := Aside0.mk (Kd.R_elder' (rz HO_306000.out) (Kd.R_base ho0) hb)
      have n1_ := Aside0.mk (Kd.R_elder' (rz HO_306001.out) (Kd.R_base ho1) hb)
      have n2_ := Aside0.mk (Kd.R_elder' (rz HO_306002.out) (Kd.R_base ho2) hb)
      have n3_ := Aside0.mk (Kd.R_elder' (rz HO_306003.out) (Kd.R_base ho3) hb)
      have n4_ := Aside0.mk (Kd.R_lower (Kd.R_new' ho0 (Kd.R_lt (rz HO_306000.out))) (below_size (bz5 HB.out GE272.out GE273.out GE292.out GE305.out GE311.out)))
      have n5_ := Aside0.mk (Kd.R_lower (Kd.R_new' ho1 (Kd.R_lt (rz HO_306001.out))) (below_size (bz5 HB.out GE272.out GE273.out GE292.out GE305.out GE311.out)))
      have n6_ := Aside0.mk (Kd.R_lower (Kd.R_new' ho2 (Kd.R_lt (rz HO_306002.out))) (below_size (bz5 HB.out GE272.out GE273.out GE292.out GE305.out GE311.out)))
      have n7_ := Aside0.mk (Kd.R_lower (Kd.R_newB (Kd.R_newB (Kd.R_new' ho3 (Kd.R_lt (rz HO_306003.out))) (g := gb292) (o := .cells #[.int .i64 t289, .int .i64 t290] 49 (0, 0)) (kz BK292.out)) (g := gb311) (o := .cells #[.int .i64 t308, .int .i64 t309] 49 (0, 0)) (kz BK311.out)) (below_size (bz5 HB.out GE272.out GE273.out GE292.out GE305.out GE311.out)))
      have n8_ := Aside0.mk (blk_below (kz BK272.out) hb)
      have n9_ := Aside0.mk (blk_below (kz BK273.out) hb)
      have n10_ := Aside0.mk (blk_below (kz BK292.out) hb)
      have n11_ := Aside0.mk (blk_below (kz BK305.out) hb)
      have n12_ := Aside0.mk (blk_below (kz BK311.out) hb)
      have n13_ := Aside0.mk (below_step (bz5 HB.out GE272.out GE273.out GE292.out GE305.out GE311.out) hb)
      clear HO_306000
      clear HO_306001
      clear HO_306002
      clear HO_306003
      clear BK272
      clear BK273
      clear BK292
      clear BK305
      clear BK311
      clear HB
      have HO_306000 := n0_
      have HO_306001 := n1_
      have HO_306002 := n2_
      have HO_306003 := n3_
      have HO315 := n4_
      have HO318 := n5_
      have HO321 := n6_
      have HO324 := n7_
      have BK272 := n8_
      have BK273 := n9_
      have BK292 := n10_
      have BK305 := n11_
      have BK311 := n12_
      have HB := n13_
      clear n0_ n1_ n2_ n3_ n4_ n5_ n6_ n7_ n8_ n9_ n10_ n11_ n12_ n13_
      (try clear hb)
      (try clear hb2)
      (try clear hk)
      (try clear hi)
      (try clear ho0)
      (try clear ho1)
      (try clear ho2)
      (try clear ho3)
      obtain ⟨Ao90, co90, eo90⟩ := Kd.R_slice HO315.out
      (first | subst eo90 | (injection eo90 with f1_ f2_ f3_; have f4_ := f1_.symm; have f5_ := f3_.symm; clear f1_ f2_ f3_; subst f4_; subst f5_))
      obtain ⟨Ao91, co91, eo91⟩ := Kd.R_slice HO318.out
      (first | subst eo91 | (injection eo91 with f1_ f2_ f3_; have f4_ := f1_.symm; have f5_ := f3_.symm; clear f1_ f2_ f3_; subst f4_; subst f5_))
      obtain ⟨Ao92, co92, eo92⟩ := Kd.R_slice HO321.out
      (first | subst eo92 | (injection eo92 with f1_ f2_ f3_; have f4_ := f1_.symm; have f5_ := f3_.symm; clear f1_ f2_ f3_; subst f4_; subst f5_))
      obtain ⟨Ao93, co93, eo93⟩ := Kd.R_slice HO324.out
      (first | subst eo93 | (injection eo93 with f1_ f2_ f3_; have f4_ := f1_.symm; have f5_ := f3_.symm; clear f1_ f2_ f3_; subst f4_; subst f5_))
      refine hK.out _ _ ⟨(blk_cell BK305.out 0).trans rfl, (blk_cell BK305.out 1).trans rfl, (blk_cell BK305.out 2).trans rfl, (blk_cell BK305.out 3).trans rfl, (blk_cell BK272.out 0).trans rfl, (blk_cell BK272.out 1).trans rfl, (blk_cell BK272.out 2).trans rfl, (blk_cell BK272.out 3).trans rfl⟩ (fun hHeld => ?_)
      clear hK K
      refine norm_ (a' := ?_) ?_ ?_
      rotate_left
      ·show Act.put _ (some 48) _ = _
       simp only [Act.put, sz1, sz2, sz3, i64_w, i32_w]
       rfl
      refine one_ (i := 3) (N := some 49) #[tt, tt, tt, tt, ff] rfl rfl (by kernel_rfl) (by decide) (fun K hK => ?_)
      refine goes_ Try.func24 (by kernel_rfl) rfl #[.agg #[.slice Ao39 t293.length co39, .slice Ao44 t296.length co44, .slice Ao45 t299.length co45, .slice Ao46 t302.length co46], .agg #[.slice Ao90 t313.length co90, .slice Ao91 t316.length co91, .slice Ao92 t319.length co92, .slice Ao93 t322.length co93]] (by rfl) rfl rfl lz ?_
      with_reducible refine (laws_eqHeap.calls kj16 _ _ t293 _ _ t296 _ _ t299 _ _ t302 _ _ t313 _ _ t316 _ _ t319 _ _ t322 false _ ?side1 ?side2 ?side3 ?side4 ?side5 ?side6 ?side7 ?side8 ?side9 ?side10 ?side11 ?side12 ?side13 ?side14 ?side15 ?side16 A79.out).mono ?_
      (case side1 => exact cz (Kd.R_reads' HO_306000.out).2.2)
      (case side2 => exact (Kd.R_reads' HO_306000.out).2.1)
      (case side3 => exact cz (Kd.R_reads' HO_306001.out).2.2)
      (case side4 => exact (Kd.R_reads' HO_306001.out).2.1)
      (case side5 => exact cz (Kd.R_reads' HO_306002.out).2.2)
      (case side6 => exact (Kd.R_reads' HO_306002.out).2.1)
      (case side7 => exact cz (Kd.R_reads' HO_306003.out).2.2)
      (case side8 => exact (Kd.R_reads' HO_306003.out).2.1)
      (case side9 => exact cz (Kd.R_reads' HO315.out).2.2)
      (case side10 => exact (Kd.R_reads' HO315.out).2.1)
      (case side11 => exact cz (Kd.R_reads' HO318.out).2.2)
      (case side12 => exact (Kd.R_reads' HO318.out).2.1)
      (case side13 => exact cz (Kd.R_reads' HO321.out).2.2)
      (case side14 => exact (Kd.R_reads' HO321.out).2.1)
      (case side15 => exact cz (Kd.R_reads' HO324.out).2.2)
      (case side16 => exact (Kd.R_reads' HO324.out).2.1)
      rintro e w94 ⟨rfl, hb⟩
      refine ⟨_, rfl, ?_⟩
      have n0_ := qz HO_306000 hb
      have n1_ := qz HO_306001 hb
      have n2_ := qz HO_306002 hb
      have n3_ := qz HO_306003 hb
      have n4_ := qz HO315 hb
      have n5_ := qz HO318 hb
      have n6_ := qz HO321 hb
      have n7_ := qz HO324 hb
      have n8_ := Aside0.mk (blk_below (kz BK272.out) hb)
      have n9_ := Aside0.mk (blk_below (kz BK273.out) hb)
      have n10_ := Aside0.mk (blk_below (kz BK292.out) hb)
      have n11_ := Aside0.mk (blk_below (kz BK305.out) hb)
      have n12_ := Aside0.mk (blk_below (kz BK311.out) hb)
      have n13_ := Aside0.mk (below_step (bz5 HB.out GE272.out GE273.out GE292.out GE305.out GE311.out) hb)
      clear HO_306000
      clear HO_306001
      clear HO_306002
      clear HO_306003
      clear HO315
      clear HO318
      clear HO321
      clear HO324
      clear BK272
      clear BK273
      clear BK292
      clear BK305
      clear BK311
      clear HB
      have HO_306000 := n0_
      have HO_306001 := n1_
      have HO_306002 := n2_
      have HO_306003 := n3_
      have HO315 := n4_
      have HO318 := n5_
      have HO321 := n6_
      have HO324 := n7_
      have BK272 := n8_
      have BK273 := n9_
      have BK292 := n10_
      have BK305 := n11_
      have BK311 := n12_
      have HB := n13_
      clear n0_ n1_ n2_ n3_ n4_ n5_ n6_ n7_ n8_ n9_ n10_ n11_ n12_ n13_
      (try clear hb)
      (try clear hb2)
      (try clear hk)
      (try clear hi)
      refine hK.out _ _ ⟨(blk_cell BK305.out 0).trans rfl, (blk_cell BK305.out 1).trans rfl, (blk_cell BK305.out 2).trans rfl, (blk_cell BK305.out 3).trans rfl, (blk_cell BK272.out 0).trans rfl, (blk_cell BK272.out 1).trans rfl, (blk_cell BK272.out 2).trans rfl, (blk_cell BK272.out 3).trans rfl⟩ (fun hHeld => ?_)
      clear hK K
      refine norm_ (a' := ?_) ?_ ?_
      rotate_left
      ·show Act.put _ (some 49) _ = _
       simp only [Act.put, sz1, sz2, sz3, i64_w, i32_w]
       rfl
      refine pure_ (i := 4) (N := some 50) (v := ?_) (a' := ?_) #[tt, tt, tt, tt, tt] rfl rfl (by kernel_rfl) (fun _ _ _ h => h) (Or.inl ⟨by rfl, ?_⟩) ?_ ?_
      rotate_left
      ·intro w'
       go_simp
       with_reducible rfl
      rotate_left
      ·simp only [Act.put, sz1, sz2, sz3, i64_w, i32_w]
       rfl
      refine done_ (by kernel_rfl) ?_
      try go_wp2
      go_ret
      exact ⟨gz, (bz5 HB.out GE272.out GE273.out GE292.out GE305.out GE311.out)⟩
end Go.Proofs.Ytlhofeikcaejpaa.PFnExactLookUp
