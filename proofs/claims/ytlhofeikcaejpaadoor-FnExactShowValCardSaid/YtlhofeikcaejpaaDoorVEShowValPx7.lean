/- PFnExactShowValx7, of the words and walks that the law FnExactShowVal needs; made by this session's program out of printed texts. -/

import Derived.Test.YtlhofeikcaejpaaDoorVEShowValPx0
import Derived.Test.YtlhofeikcaejpaaDoorVEShowValPx6
namespace Go.Proofs.YtlhofeikcaejpaaDoor.PFnExactShowVal
open Go.RowKit Go.Proofs.YtlhofeikcaejpaaDoorW.PrintWords Go.Proofs.YtlhofeikcaejpaaDoorW.PrintLast Go.Proofs.YtlhofeikcaejpaaDoorW.PrintMore
attribute [local go_sem] max2_int min2_int max_two min_two max_three min_three max_four min_four
set_option linter.unusedVariables false
set_option linter.unusedSimpArgs false
def spec_l10Show.f : Nat -> List (S41) -> List (S86) -> List (S47) -> List (S35) -> Int -> Int -> Int -> Option (ByteArray)
 | 0, _, _, _, _, _, _, _ => none
 | k + 1, l0_0, l0_1, l0_2, l0_3, a1_0, a1_1, a2 => if a1_0 = 0 then ((spec_Dec.f k a1_1).bind fun t168 => (some t168)) else (if a1_0 = 1 then (some (⟨#[102, 117, 110]⟩ : ByteArray)) else (if a1_0 = 2 then (some (⟨#[110, 105, 108]⟩ : ByteArray)) else (if a1_0 = 5 then (some (⟨#[114, 101, 102]⟩ : ByteArray)) else (if a2 <= 0 then (some (⟨#[95]⟩ : ByteArray)) else (if 0 <= a1_1 then (if a1_1 < (l0_2.length : Int) then ((spec_l10Show.f k l0_0 l0_1 l0_2 l0_3 ((rd_T47 l0_2 a1_1).f0.f0) ((rd_T47 l0_2 a1_1).f0.f1) (wrap64 (a2 - 1))).bind fun t170 => ((spec_l10Show.f k l0_0 l0_1 l0_2 l0_3 ((rd_T47 l0_2 a1_1).f1.f0) ((rd_T47 l0_2 a1_1).f1.f1) (wrap64 (a2 - 1))).bind fun t172 => (if a1_0 = 3 then (if 6 + t170.size <= 9223372036854775807 then (if ((⟨#[40, 112, 97, 105, 114, 32]⟩ : ByteArray) ++ t170).size + 1 <= 9223372036854775807 then (if (((⟨#[40, 112, 97, 105, 114, 32]⟩ : ByteArray) ++ t170) ++ (⟨#[32]⟩ : ByteArray)).size + t172.size <= 9223372036854775807 then (if ((((⟨#[40, 112, 97, 105, 114, 32]⟩ : ByteArray) ++ t170) ++ (⟨#[32]⟩ : ByteArray)) ++ t172).size + 1 <= 9223372036854775807 then (some (((((⟨#[40, 112, 97, 105, 114, 32]⟩ : ByteArray) ++ t170) ++ (⟨#[32]⟩ : ByteArray)) ++ t172) ++ (⟨#[41]⟩ : ByteArray))) else (none)) else (none)) else (none)) else (none)) else (if 6 + t170.size <= 9223372036854775807 then (if ((⟨#[40, 99, 111, 110, 115, 32]⟩ : ByteArray) ++ t170).size + 1 <= 9223372036854775807 then (if (((⟨#[40, 99, 111, 110, 115, 32]⟩ : ByteArray) ++ t170) ++ (⟨#[32]⟩ : ByteArray)).size + t172.size <= 9223372036854775807 then (if ((((⟨#[40, 99, 111, 110, 115, 32]⟩ : ByteArray) ++ t170) ++ (⟨#[32]⟩ : ByteArray)) ++ t172).size + 1 <= 9223372036854775807 then (some (((((⟨#[40, 99, 111, 110, 115, 32]⟩ : ByteArray) ++ t170) ++ (⟨#[32]⟩ : ByteArray)) ++ t172) ++ (⟨#[41]⟩ : ByteArray))) else (none)) else (none)) else (none)) else (none))))) else (none)) else (none))))))
theorem spec_l10Show.mono_l : ∀ k, (∀ y0 y1 y2 y3 y4 y5 y6, LeO (spec_l10Show.f k y0 y1 y2 y3 y4 y5 y6) (spec_l10Show.f (k + 1) y0 y1 y2 y3 y4 y5 y6))
 | 0 => fun _ _ _ _ _ _ _ r h => by simp [spec_l10Show.f] at h
 | k + 1 => by
  have ih0 := spec_l10Show.mono_l k
  ·intro y0 y1 y2 y3 y4 y5 y6
   unfold spec_l10Show.f
   with_reducible repeat' first | exact ih0 _ _ _ _ _ _ _ | exact spec_Dec.mono _ _ | exact lrz _ | exact lnz _ | refine liz ?_ ?_ | refine lbz ?_ fun _ => ?_
theorem spec_l10Show.mono : ∀ a0 a1 a2 a3 a4 a5 a6 k, LeO (spec_l10Show.f k a0 a1 a2 a3 a4 a5 a6) (spec_l10Show.f (k + 1) a0 a1 a2 a3 a4 a5 a6) := by
 intro a0 a1 a2 a3 a4 a5 a6 k
 have ih0 := spec_l10Show.mono_l k
 exact ih0 a0 a1 a2 a3 a4 a5 a6
def spec_l10Show.T12 : Bool × List (List Nat × List Nat) := (true, [([], []), ([], []), ([1], [1]), ([], []), ([3], [3]), ([2, 4], [2, 4]), ([5], [5]), ([6], [6]), ([], []), ([8], [8]), ([0, 7, 9], [0, 7, 9]), ([10, 10, 0, 1, 2, 3, 4, 5, 6, 7, 8, 9, 10], [10])])
def spec_l10Show.B12 : List Nat := [0, 0, 2, 0, 8, 30, 62, 126, 0, 256, 1023, 2047]
theorem spec_l10Show.tab12 : rtab .any (opsOf Tryd.f66 12) = spec_l10Show.T12 := by kernel_rfl
theorem spec_l10Show.bits12 : waitsOk spec_l10Show.T12.2 spec_l10Show.B12 = true := by kernel_rfl
def spec_l10Show.T13 : Bool × List (List Nat × List Nat) := (true, [([], []), ([], []), ([1], [1]), ([], []), ([3], [3]), ([2, 4], [2, 4]), ([5], [5]), ([6], [6]), ([], []), ([8], [8]), ([0, 7, 9], [0, 7, 9]), ([10, 10, 0, 1, 2, 3, 4, 5, 6, 7, 8, 9, 10], [10])])
def spec_l10Show.B13 : List Nat := [0, 0, 2, 0, 8, 30, 62, 126, 0, 256, 1023, 2047]
theorem spec_l10Show.tab13 : rtab .any (opsOf Tryd.f66 13) = spec_l10Show.T13 := by kernel_rfl
theorem spec_l10Show.bits13 : waitsOk spec_l10Show.T13.2 spec_l10Show.B13 = true := by kernel_rfl
set_option maxHeartbeats 8000000 in
set_option maxRecDepth 100000 in
theorem spec_l10Show.calls (k : Nat) : ∀ (A0_0 : Option Addr) (c0_0 : Nat) (l0_0 : List (S41)) (A0_1 : Option Addr) (c0_1 : Nat) (l0_1 : List (S86)) (A0_2 : Option Addr) (c0_2 : Nat) (l0_2 : List (S47)) (A0_3 : Option Addr) (c0_3 : Nat) (l0_3 : List (S35)) (a1_0 : Int) (a1_1 : Int) (a2 : Int) (r : ByteArray) (w : World) (hr0_0 : Kd.C k41 w A0_0 l0_0.length l0_0) (hc0_0 : l0_0.length <= c0_0) (hr0_1 : Kd.C k86 w A0_1 l0_1.length l0_1) (hc0_1 : l0_1.length <= c0_1) (hr0_2 : Kd.C k47 w A0_2 l0_2.length l0_2) (hc0_2 : l0_2.length <= c0_2) (hr0_3 : Kd.C k35 w A0_3 l0_3.length l0_3) (hc0_3 : l0_3.length <= c0_3) (h : spec_l10Show.f k l0_0 l0_1 l0_2 l0_3 a1_0 a1_1 a2 = some r),
  Calls Tryd.prog 66 #[.agg #[.slice A0_0 l0_0.length c0_0, .slice A0_1 l0_1.length c0_1, .slice A0_2 l0_2.length c0_2, .slice A0_3 l0_3.length c0_3], .agg #[.int .i64 a1_0, .int .i64 a1_1], .int .i64 a2] w fun e w' => e = .returned (.string r) /\ Below w.heap.size w w' := by
 induction k using Nat.strongRecOn with
 | _ k ih =>
 intro A0_0 c0_0 l0_0 A0_1 c0_1 l0_1 A0_2 c0_2 l0_2 A0_3 c0_3 l0_3 a1_0 a1_1 a2 r w hr0_0 hc0_0 hr0_1 hc0_1 hr0_2 hc0_2 hr0_3 hc0_3 h
 cases k with
 | zero => exact absurd h (by simp [spec_l10Show.f])
 | succ k =>
 simp only [spec_l10Show.f] at h
 have hu29 := Tryd.underlying29
 have hu35 := Tryd.underlying35
 have HR0_0 := Aside0.mk hr0_0
 have HC0_0 := Aside0.mk hc0_0
 clear hr0_0 hc0_0
 have HR0_1 := Aside0.mk hr0_1
 have HC0_1 := Aside0.mk hc0_1
 clear hr0_1 hc0_1
 have HR0_2 := Aside0.mk hr0_2
 have HC0_2 := Aside0.mk hc0_2
 clear hr0_2 hc0_2
 have HR0_3 := Aside0.mk hr0_3
 have HC0_3 := Aside0.mk hc0_3
 clear hr0_3 hc0_3
 have HB := Aside0.mk (Below.refl w.heap.size w)
 have H : (if a1_0 = 0 then ((spec_Dec.f k a1_1).bind fun t168 => (some t168)) else (if a1_0 = 1 then (some (⟨#[102, 117, 110]⟩ : ByteArray)) else (if a1_0 = 2 then (some (⟨#[110, 105, 108]⟩ : ByteArray)) else (if a1_0 = 5 then (some (⟨#[114, 101, 102]⟩ : ByteArray)) else (if a2 <= 0 then (some (⟨#[95]⟩ : ByteArray)) else (if 0 <= a1_1 then (if a1_1 < (l0_2.length : Int) then ((spec_l10Show.f k l0_0 l0_1 l0_2 l0_3 ((rd_T47 l0_2 a1_1).f0.f0) ((rd_T47 l0_2 a1_1).f0.f1) (wrap64 (a2 - 1))).bind fun t170 => ((spec_l10Show.f k l0_0 l0_1 l0_2 l0_3 ((rd_T47 l0_2 a1_1).f1.f0) ((rd_T47 l0_2 a1_1).f1.f1) (wrap64 (a2 - 1))).bind fun t172 => (if a1_0 = 3 then (if 6 + t170.size <= 9223372036854775807 then (if ((⟨#[40, 112, 97, 105, 114, 32]⟩ : ByteArray) ++ t170).size + 1 <= 9223372036854775807 then (if (((⟨#[40, 112, 97, 105, 114, 32]⟩ : ByteArray) ++ t170) ++ (⟨#[32]⟩ : ByteArray)).size + t172.size <= 9223372036854775807 then (if ((((⟨#[40, 112, 97, 105, 114, 32]⟩ : ByteArray) ++ t170) ++ (⟨#[32]⟩ : ByteArray)) ++ t172).size + 1 <= 9223372036854775807 then (some (((((⟨#[40, 112, 97, 105, 114, 32]⟩ : ByteArray) ++ t170) ++ (⟨#[32]⟩ : ByteArray)) ++ t172) ++ (⟨#[41]⟩ : ByteArray))) else (none)) else (none)) else (none)) else (none)) else (if 6 + t170.size <= 9223372036854775807 then (if ((⟨#[40, 99, 111, 110, 115, 32]⟩ : ByteArray) ++ t170).size + 1 <= 9223372036854775807 then (if (((⟨#[40, 99, 111, 110, 115, 32]⟩ : ByteArray) ++ t170) ++ (⟨#[32]⟩ : ByteArray)).size + t172.size <= 9223372036854775807 then (if ((((⟨#[40, 99, 111, 110, 115, 32]⟩ : ByteArray) ++ t170) ++ (⟨#[32]⟩ : ByteArray)) ++ t172).size + 1 <= 9223372036854775807 then (some (((((⟨#[40, 99, 111, 110, 115, 32]⟩ : ByteArray) ++ t170) ++ (⟨#[32]⟩ : ByteArray)) ++ t172) ++ (⟨#[41]⟩ : ByteArray))) else (none)) else (none)) else (none)) else (none))))) else (none)) else (none))))))) = some r := h
 clear h
 by_cases c4 : a1_0 = 0
 ·rw [if_pos c4] at H
  have c4b0 : (a1_0 == 0) = true := beq_iff_eq.mpr c4
  have c4b1 : (a1_0 != 0) = false := bne_eq_false_iff_eq.mpr c4
  clear c4
  replace H := bi H
  obtain ⟨t168, A50, H⟩ := H
  try dsimp only at H
  have A5 := Aside0.mk A50
  clear A50
  obtain rfl := Option.some.inj H
  go_enter Tryd.func66, Tryd.ntmps66
  go_wp2_with (first | ((with_reducible refine gate_dst (N := 3) rfl ?_); refine box_event ?hg (N := 3) ?hd (cs := #[.slice A0_0 l0_0.length c0_0, .slice A0_1 l0_1.length c0_1, .slice A0_2 l0_2.length c0_2, .slice A0_3 l0_3.length c0_3]) (t := 29) ?hr ?_; (case hd => rfl); (case hg => rfl); (case hr => exact vz); intro gb166 hg w6 hbox hb; have BK166 := Aside0.mk (hbox); have GW166 := Aside0.mk ((by rw [hg]; exact (below_size (bz0 HB.out)) : w.heap.size <= gb166)); have GE166 := Aside0.mk ((by rw [hg]; exact (below_size (bz0 HB.out)) : w.heap.size <= gb166)); replace HB := Aside0.mk (below_step (bz0 HB.out) hb); clear hb hbox hg) | ((with_reducible refine gate_dst (N := 4) rfl ?_); refine box_event ?hg (N := 4) ?hd (cs := #[.int .i64 a1_0, .int .i64 a1_1]) (t := 35) ?hr ?_; (case hd => rfl); (case hg => rfl); (case hr => exact vz); intro gb167 hg w7 hbox hb; have BK167 := Aside0.mk (hbox); have GW167 := Aside0.mk ((by rw [hg]; exact (below_size (bz1 HB.out GE166.out)) : w.heap.size <= gb167)); have GE167 := Aside0.mk ((by rw [hg]; exact (below_size (bz1 HB.out GE166.out)) : w.heap.size <= gb167)); replace HB := Aside0.mk (below_step (bz1 HB.out GE166.out) hb); have NB166_167 := Aside0.mk ((by rw [hg]; exact Nat.ne_of_lt (blk_lt (g := gb166) (o := .cells #[.slice A0_0 l0_0.length c0_0, .slice A0_1 l0_1.length c0_1, .slice A0_2 l0_2.length c0_2, .slice A0_3 l0_3.length c0_3] 29 (0, 0)) (kz BK166.out)) : gb166 ≠ gb167)); have NB167_166 := Aside0.mk ((by rw [hg]; exact Nat.ne_of_gt (blk_lt (g := gb166) (o := .cells #[.slice A0_0 l0_0.length c0_0, .slice A0_1 l0_1.length c0_1, .slice A0_2 l0_2.length c0_2, .slice A0_3 l0_3.length c0_3] 29 (0, 0)) (kz BK166.out)) : gb167 ≠ gb166)); replace BK166 := Aside0.mk (blk_below (kz BK166.out) hb); clear hb hbox hg; have hnb8 := NB167_166.out; have hnc8 := NB166_167.out; obtain ⟨hcz9_0, hcz9_1⟩ := cz2 BK167.out; obtain ⟨hfz9_0, hfz9_1⟩ := fz2 BK167.out) | ((with_reducible refine gate_callee (f := 83) rfl ?_); refine goesL_ (some 15) rfl rfl Tryd.func83 (by kernel_rfl) rfl #[.int .i64 a1_1] rfl lz ?_; (with_reducible refine (spec_Dec.calls k a1_1 t168 _ A5.out).mono ?_); rintro e w10 ⟨rfl, hb⟩; refine ⟨_, rfl, ?_⟩; replace BK166 := Aside0.mk (blk_below (kz BK166.out) hb); replace BK167 := Aside0.mk (blk_below (kz BK167.out) hb); replace HB := Aside0.mk (below_step (bz2 HB.out GE166.out GE167.out) hb); (try clear hb); (try clear hi)))
  go_ret
  exact ⟨gz, (bz2 HB.out GE166.out GE167.out)⟩
 ·rw [if_neg c4] at H
  have c4b0 : (a1_0 == 0) = false := beq_eq_false_iff_ne.mpr c4
  have c4b1 : (a1_0 != 0) = true := bne_iff_ne.mpr c4
  by_cases c11 : a1_0 = 1
  ·rw [if_pos c11] at H
   have c11b0 : (a1_0 == 1) = true := beq_iff_eq.mpr c11
   have c11b1 : (a1_0 != 1) = false := bne_eq_false_iff_eq.mpr c11
   clear c11
   obtain rfl := Option.some.inj H
   go_enter Tryd.func66, Tryd.ntmps66
   go_wp2_with (first | ((with_reducible refine gate_dst (N := 3) rfl ?_); refine box_event ?hg (N := 3) ?hd (cs := #[.slice A0_0 l0_0.length c0_0, .slice A0_1 l0_1.length c0_1, .slice A0_2 l0_2.length c0_2, .slice A0_3 l0_3.length c0_3]) (t := 29) ?hr ?_; (case hd => rfl); (case hg => rfl); (case hr => exact vz); intro gb166 hg w12 hbox hb; have BK166 := Aside0.mk (hbox); have GW166 := Aside0.mk ((by rw [hg]; exact (below_size (bz0 HB.out)) : w.heap.size <= gb166)); have GE166 := Aside0.mk ((by rw [hg]; exact (below_size (bz0 HB.out)) : w.heap.size <= gb166)); replace HB := Aside0.mk (below_step (bz0 HB.out) hb); clear hb hbox hg) | ((with_reducible refine gate_dst (N := 4) rfl ?_); refine box_event ?hg (N := 4) ?hd (cs := #[.int .i64 a1_0, .int .i64 a1_1]) (t := 35) ?hr ?_; (case hd => rfl); (case hg => rfl); (case hr => exact vz); intro gb167 hg w13 hbox hb; have BK167 := Aside0.mk (hbox); have GW167 := Aside0.mk ((by rw [hg]; exact (below_size (bz1 HB.out GE166.out)) : w.heap.size <= gb167)); have GE167 := Aside0.mk ((by rw [hg]; exact (below_size (bz1 HB.out GE166.out)) : w.heap.size <= gb167)); replace HB := Aside0.mk (below_step (bz1 HB.out GE166.out) hb); have NB166_167 := Aside0.mk ((by rw [hg]; exact Nat.ne_of_lt (blk_lt (g := gb166) (o := .cells #[.slice A0_0 l0_0.length c0_0, .slice A0_1 l0_1.length c0_1, .slice A0_2 l0_2.length c0_2, .slice A0_3 l0_3.length c0_3] 29 (0, 0)) (kz BK166.out)) : gb166 ≠ gb167)); have NB167_166 := Aside0.mk ((by rw [hg]; exact Nat.ne_of_gt (blk_lt (g := gb166) (o := .cells #[.slice A0_0 l0_0.length c0_0, .slice A0_1 l0_1.length c0_1, .slice A0_2 l0_2.length c0_2, .slice A0_3 l0_3.length c0_3] 29 (0, 0)) (kz BK166.out)) : gb167 ≠ gb166)); replace BK166 := Aside0.mk (blk_below (kz BK166.out) hb); clear hb hbox hg; have hnb14 := NB167_166.out; have hnc14 := NB166_167.out; obtain ⟨hcz15_0, hcz15_1⟩ := cz2 BK167.out; obtain ⟨hfz15_0, hfz15_1⟩ := fz2 BK167.out))
   go_ret
   exact ⟨gz, (bz2 HB.out GE166.out GE167.out)⟩
  ·rw [if_neg c11] at H
   have c11b0 : (a1_0 == 1) = false := beq_eq_false_iff_ne.mpr c11
   have c11b1 : (a1_0 != 1) = true := bne_iff_ne.mpr c11
   by_cases c16 : a1_0 = 2
   ·rw [if_pos c16] at H
    have c16b0 : (a1_0 == 2) = true := beq_iff_eq.mpr c16
    have c16b1 : (a1_0 != 2) = false := bne_eq_false_iff_eq.mpr c16
    clear c16
    obtain rfl := Option.some.inj H
    go_enter Tryd.func66, Tryd.ntmps66
    go_wp2_with (first | ((with_reducible refine gate_dst (N := 3) rfl ?_); refine box_event ?hg (N := 3) ?hd (cs := #[.slice A0_0 l0_0.length c0_0, .slice A0_1 l0_1.length c0_1, .slice A0_2 l0_2.length c0_2, .slice A0_3 l0_3.length c0_3]) (t := 29) ?hr ?_; (case hd => rfl); (case hg => rfl); (case hr => exact vz); intro gb166 hg w17 hbox hb; have BK166 := Aside0.mk (hbox); have GW166 := Aside0.mk ((by rw [hg]; exact (below_size (bz0 HB.out)) : w.heap.size <= gb166)); have GE166 := Aside0.mk ((by rw [hg]; exact (below_size (bz0 HB.out)) : w.heap.size <= gb166)); replace HB := Aside0.mk (below_step (bz0 HB.out) hb); clear hb hbox hg) | ((with_reducible refine gate_dst (N := 4) rfl ?_); refine box_event ?hg (N := 4) ?hd (cs := #[.int .i64 a1_0, .int .i64 a1_1]) (t := 35) ?hr ?_; (case hd => rfl); (case hg => rfl); (case hr => exact vz); intro gb167 hg w18 hbox hb; have BK167 := Aside0.mk (hbox); have GW167 := Aside0.mk ((by rw [hg]; exact (below_size (bz1 HB.out GE166.out)) : w.heap.size <= gb167)); have GE167 := Aside0.mk ((by rw [hg]; exact (below_size (bz1 HB.out GE166.out)) : w.heap.size <= gb167)); replace HB := Aside0.mk (below_step (bz1 HB.out GE166.out) hb); have NB166_167 := Aside0.mk ((by rw [hg]; exact Nat.ne_of_lt (blk_lt (g := gb166) (o := .cells #[.slice A0_0 l0_0.length c0_0, .slice A0_1 l0_1.length c0_1, .slice A0_2 l0_2.length c0_2, .slice A0_3 l0_3.length c0_3] 29 (0, 0)) (kz BK166.out)) : gb166 ≠ gb167)); have NB167_166 := Aside0.mk ((by rw [hg]; exact Nat.ne_of_gt (blk_lt (g := gb166) (o := .cells #[.slice A0_0 l0_0.length c0_0, .slice A0_1 l0_1.length c0_1, .slice A0_2 l0_2.length c0_2, .slice A0_3 l0_3.length c0_3] 29 (0, 0)) (kz BK166.out)) : gb167 ≠ gb166)); replace BK166 := Aside0.mk (blk_below (kz BK166.out) hb); clear hb hbox hg; have hnb19 := NB167_166.out; have hnc19 := NB166_167.out; obtain ⟨hcz20_0, hcz20_1⟩ := cz2 BK167.out; obtain ⟨hfz20_0, hfz20_1⟩ := fz2 BK167.out))
    go_ret
    exact ⟨gz, (bz2 HB.out GE166.out GE167.out)⟩
   ·rw [if_neg c16] at H
    have c16b0 : (a1_0 == 2) = false := beq_eq_false_iff_ne.mpr c16
    have c16b1 : (a1_0 != 2) = true := bne_iff_ne.mpr c16
    by_cases c21 : a1_0 = 5
    ·rw [if_pos c21] at H
     have c21b0 : (a1_0 == 5) = true := beq_iff_eq.mpr c21
     have c21b1 : (a1_0 != 5) = false := bne_eq_false_iff_eq.mpr c21
     clear c21
     obtain rfl := Option.some.inj H
     go_enter Tryd.func66, Tryd.ntmps66
     go_wp2_with (first | ((with_reducible refine gate_dst (N := 3) rfl ?_); refine box_event ?hg (N := 3) ?hd (cs := #[.slice A0_0 l0_0.length c0_0, .slice A0_1 l0_1.length c0_1, .slice A0_2 l0_2.length c0_2, .slice A0_3 l0_3.length c0_3]) (t := 29) ?hr ?_; (case hd => rfl); (case hg => rfl); (case hr => exact vz); intro gb166 hg w22 hbox hb; have BK166 := Aside0.mk (hbox); have GW166 := Aside0.mk ((by rw [hg]; exact (below_size (bz0 HB.out)) : w.heap.size <= gb166)); have GE166 := Aside0.mk ((by rw [hg]; exact (below_size (bz0 HB.out)) : w.heap.size <= gb166)); replace HB := Aside0.mk (below_step (bz0 HB.out) hb); clear hb hbox hg) | ((with_reducible refine gate_dst (N := 4) rfl ?_); refine box_event ?hg (N := 4) ?hd (cs := #[.int .i64 a1_0, .int .i64 a1_1]) (t := 35) ?hr ?_; (case hd => rfl); (case hg => rfl); (case hr => exact vz); intro gb167 hg w23 hbox hb; have BK167 := Aside0.mk (hbox); have GW167 := Aside0.mk ((by rw [hg]; exact (below_size (bz1 HB.out GE166.out)) : w.heap.size <= gb167)); have GE167 := Aside0.mk ((by rw [hg]; exact (below_size (bz1 HB.out GE166.out)) : w.heap.size <= gb167)); replace HB := Aside0.mk (below_step (bz1 HB.out GE166.out) hb); have NB166_167 := Aside0.mk ((by rw [hg]; exact Nat.ne_of_lt (blk_lt (g := gb166) (o := .cells #[.slice A0_0 l0_0.length c0_0, .slice A0_1 l0_1.length c0_1, .slice A0_2 l0_2.length c0_2, .slice A0_3 l0_3.length c0_3] 29 (0, 0)) (kz BK166.out)) : gb166 ≠ gb167)); have NB167_166 := Aside0.mk ((by rw [hg]; exact Nat.ne_of_gt (blk_lt (g := gb166) (o := .cells #[.slice A0_0 l0_0.length c0_0, .slice A0_1 l0_1.length c0_1, .slice A0_2 l0_2.length c0_2, .slice A0_3 l0_3.length c0_3] 29 (0, 0)) (kz BK166.out)) : gb167 ≠ gb166)); replace BK166 := Aside0.mk (blk_below (kz BK166.out) hb); clear hb hbox hg; have hnb24 := NB167_166.out; have hnc24 := NB166_167.out; obtain ⟨hcz25_0, hcz25_1⟩ := cz2 BK167.out; obtain ⟨hfz25_0, hfz25_1⟩ := fz2 BK167.out))
     go_ret
     exact ⟨gz, (bz2 HB.out GE166.out GE167.out)⟩
    ·rw [if_neg c21] at H
     have c21b0 : (a1_0 == 5) = false := beq_eq_false_iff_ne.mpr c21
     have c21b1 : (a1_0 != 5) = true := bne_iff_ne.mpr c21
     by_cases c26 : a2 <= 0
     ·rw [if_pos c26] at H
      have c26b0 := decide_eq_true c26
      clear c26
      obtain rfl := Option.some.inj H
      go_enter Tryd.func66, Tryd.ntmps66
      go_wp2_with (first | ((with_reducible refine gate_dst (N := 3) rfl ?_); refine box_event ?hg (N := 3) ?hd (cs := #[.slice A0_0 l0_0.length c0_0, .slice A0_1 l0_1.length c0_1, .slice A0_2 l0_2.length c0_2, .slice A0_3 l0_3.length c0_3]) (t := 29) ?hr ?_; (case hd => rfl); (case hg => rfl); (case hr => exact vz); intro gb166 hg w27 hbox hb; have BK166 := Aside0.mk (hbox); have GW166 := Aside0.mk ((by rw [hg]; exact (below_size (bz0 HB.out)) : w.heap.size <= gb166)); have GE166 := Aside0.mk ((by rw [hg]; exact (below_size (bz0 HB.out)) : w.heap.size <= gb166)); replace HB := Aside0.mk (below_step (bz0 HB.out) hb); clear hb hbox hg) | ((with_reducible refine gate_dst (N := 4) rfl ?_); refine box_event ?hg (N := 4) ?hd (cs := #[.int .i64 a1_0, .int .i64 a1_1]) (t := 35) ?hr ?_; (case hd => rfl); (case hg => rfl); (case hr => exact vz); intro gb167 hg w28 hbox hb; have BK167 := Aside0.mk (hbox); have GW167 := Aside0.mk ((by rw [hg]; exact (below_size (bz1 HB.out GE166.out)) : w.heap.size <= gb167)); have GE167 := Aside0.mk ((by rw [hg]; exact (below_size (bz1 HB.out GE166.out)) : w.heap.size <= gb167)); replace HB := Aside0.mk (below_step (bz1 HB.out GE166.out) hb); have NB166_167 := Aside0.mk ((by rw [hg]; exact Nat.ne_of_lt (blk_lt (g := gb166) (o := .cells #[.slice A0_0 l0_0.length c0_0, .slice A0_1 l0_1.length c0_1, .slice A0_2 l0_2.length c0_2, .slice A0_3 l0_3.length c0_3] 29 (0, 0)) (kz BK166.out)) : gb166 ≠ gb167)); have NB167_166 := Aside0.mk ((by rw [hg]; exact Nat.ne_of_gt (blk_lt (g := gb166) (o := .cells #[.slice A0_0 l0_0.length c0_0, .slice A0_1 l0_1.length c0_1, .slice A0_2 l0_2.length c0_2, .slice A0_3 l0_3.length c0_3] 29 (0, 0)) (kz BK166.out)) : gb167 ≠ gb166)); replace BK166 := Aside0.mk (blk_below (kz BK166.out) hb); clear hb hbox hg; have hnb29 := NB167_166.out; have hnc29 := NB166_167.out; obtain ⟨hcz30_0, hcz30_1⟩ := cz2 BK167.out; obtain ⟨hfz30_0, hfz30_1⟩ := fz2 BK167.out))
      go_ret
      exact ⟨gz, (bz2 HB.out GE166.out GE167.out)⟩
     ·rw [if_neg c26] at H
      have c26b0 := decide_eq_false c26
      clear c26
      replace H := iz H
      obtain ⟨c31, H⟩ := H
      have c31b0 := decide_eq_true c31
      clear c31
      replace H := iz H
      obtain ⟨c32, H⟩ := H
      have c32b0 := decide_eq_true c32
      clear c32
      replace H := bi H
      obtain ⟨t170, A330, H⟩ := H
      try dsimp only at H
      have A33 := Aside0.mk A330
      clear A330
      replace H := bi H
      obtain ⟨t172, A340, H⟩ := H
      try dsimp only at H
      have A34 := Aside0.mk A340
      clear A340
      by_cases c35 : a1_0 = 3
      ·rw [if_pos c35] at H
       have c35b0 : (a1_0 == 3) = true := beq_iff_eq.mpr c35
       have c35b1 : (a1_0 != 3) = false := bne_eq_false_iff_eq.mpr c35
       clear c35
       replace H := iz H
       obtain ⟨c36, H⟩ := H
       have c36b0 := eq_true c36
       have c36b1 : decide (6 + t170.size <= 9223372036854775807) = true := decide_eq_true c36
       try have c36b2 : (9223372036854775807 < 6 + t170.size) = False := eq_false (Nat.not_lt.2 c36)
       replace H := iz H
       obtain ⟨c37, H⟩ := H
       have c37b0 := eq_true c37
       have c37b1 : decide (((⟨#[40, 112, 97, 105, 114, 32]⟩ : ByteArray) ++ t170).size + 1 <= 9223372036854775807) = true := decide_eq_true c37
       try have c37b2 : (9223372036854775807 < ((⟨#[40, 112, 97, 105, 114, 32]⟩ : ByteArray) ++ t170).size + 1) = False := eq_false (Nat.not_lt.2 c37)
       (try (have c37b2z := c37b2; simp only [ByteArray.size_append, show (⟨#[40, 112, 97, 105, 114, 32]⟩ : ByteArray).size = 6 from rfl] at c37b2z))
       replace H := iz H
       obtain ⟨c38, H⟩ := H
       have c38b0 := eq_true c38
       have c38b1 : decide ((((⟨#[40, 112, 97, 105, 114, 32]⟩ : ByteArray) ++ t170) ++ (⟨#[32]⟩ : ByteArray)).size + t172.size <= 9223372036854775807) = true := decide_eq_true c38
       try have c38b2 : (9223372036854775807 < (((⟨#[40, 112, 97, 105, 114, 32]⟩ : ByteArray) ++ t170) ++ (⟨#[32]⟩ : ByteArray)).size + t172.size) = False := eq_false (Nat.not_lt.2 c38)
       (try (have c38b2z := c38b2; simp only [ByteArray.size_append, show (⟨#[32]⟩ : ByteArray).size = 1 from rfl, show (⟨#[40, 112, 97, 105, 114, 32]⟩ : ByteArray).size = 6 from rfl] at c38b2z))
       replace H := iz H
       obtain ⟨c39, H⟩ := H
       have c39b0 := eq_true c39
       have c39b1 : decide (((((⟨#[40, 112, 97, 105, 114, 32]⟩ : ByteArray) ++ t170) ++ (⟨#[32]⟩ : ByteArray)) ++ t172).size + 1 <= 9223372036854775807) = true := decide_eq_true c39
       try have c39b2 : (9223372036854775807 < ((((⟨#[40, 112, 97, 105, 114, 32]⟩ : ByteArray) ++ t170) ++ (⟨#[32]⟩ : ByteArray)) ++ t172).size + 1) = False := eq_false (Nat.not_lt.2 c39)
       (try (have c39b2z := c39b2; simp only [ByteArray.size_append, show (⟨#[32]⟩ : ByteArray).size = 1 from rfl, show (⟨#[40, 112, 97, 105, 114, 32]⟩ : ByteArray).size = 6 from rfl] at c39b2z))
       obtain rfl := Option.some.inj H
       go_enter Tryd.func66, Tryd.ntmps66
       try go_wp2_with (first | ((with_reducible refine gate_dst (N := 3) rfl ?_); refine box_event ?hg (N := 3) ?hd (cs := #[.slice A0_0 l0_0.length c0_0, .slice A0_1 l0_1.length c0_1, .slice A0_2 l0_2.length c0_2, .slice A0_3 l0_3.length c0_3]) (t := 29) ?hr ?_; (case hd => rfl); (case hg => rfl); (case hr => exact vz); intro gb166 hg w40 hbox hb; have BK166 := Aside0.mk (hbox); have GW166 := Aside0.mk ((by rw [hg]; exact (below_size (bz0 HB.out)) : w.heap.size <= gb166)); have GE166 := Aside0.mk ((by rw [hg]; exact (below_size (bz0 HB.out)) : w.heap.size <= gb166)); replace HB := Aside0.mk (below_step (bz0 HB.out) hb); clear hb hbox hg) | ((with_reducible refine gate_dst (N := 4) rfl ?_); refine box_event ?hg (N := 4) ?hd (cs := #[.int .i64 a1_0, .int .i64 a1_1]) (t := 35) ?hr ?_; (case hd => rfl); (case hg => rfl); (case hr => exact vz); intro gb167 hg w41 hbox hb; have BK167 := Aside0.mk (hbox); have GW167 := Aside0.mk ((by rw [hg]; exact (below_size (bz1 HB.out GE166.out)) : w.heap.size <= gb167)); have GE167 := Aside0.mk ((by rw [hg]; exact (below_size (bz1 HB.out GE166.out)) : w.heap.size <= gb167)); replace HB := Aside0.mk (below_step (bz1 HB.out GE166.out) hb); have NB166_167 := Aside0.mk ((by rw [hg]; exact Nat.ne_of_lt (blk_lt (g := gb166) (o := .cells #[.slice A0_0 l0_0.length c0_0, .slice A0_1 l0_1.length c0_1, .slice A0_2 l0_2.length c0_2, .slice A0_3 l0_3.length c0_3] 29 (0, 0)) (kz BK166.out)) : gb166 ≠ gb167)); have NB167_166 := Aside0.mk ((by rw [hg]; exact Nat.ne_of_gt (blk_lt (g := gb166) (o := .cells #[.slice A0_0 l0_0.length c0_0, .slice A0_1 l0_1.length c0_1, .slice A0_2 l0_2.length c0_2, .slice A0_3 l0_3.length c0_3] 29 (0, 0)) (kz BK166.out)) : gb167 ≠ gb166)); replace BK166 := Aside0.mk (blk_below (kz BK166.out) hb); clear hb hbox hg; have hnb42 := NB167_166.out; have hnc42 := NB166_167.out; obtain ⟨hcz43_0, hcz43_1⟩ := cz2 BK167.out; obtain ⟨hfz43_0, hfz43_1⟩ := fz2 BK167.out))
       have n0_ := Aside0.mk (blk_drew BK166.out)
       have n1_ := Aside0.mk (blk_drew BK167.out)
       have n2_ := Aside0.mk (below_drew1 HB.out)
       clear BK166
       clear BK167
       clear HB
       have BK166 := n0_
       have BK167 := n1_
       have HB := n2_
       clear n0_ n1_ n2_
       have p169 : 0 <= (a1_1 : Int) := oz
       have q169 : a1_1 < (l0_2.length : Int) := oz
       obtain ⟨ad169, e169, hx169_0, hx169_1, hx169_2, hx169_3⟩ := at_T47 HR0_2.out a1_1 p169 q169
       have hw169_3 := hx169_3
       have hw169_2 := hx169_2
       have hw169_1 := hx169_1
       have hw169_0 := hx169_0
       cases e169
       replace hx169_0 := hz HB.out hx169_0
       replace hx169_1 := hz HB.out hx169_1
       replace hx169_2 := hz HB.out hx169_2
       replace hx169_3 := hz HB.out hx169_3
       replace p169 := eq_true p169
       replace q169 := eq_true q169
       refine start_ (n := 12) (S := fun w' => w'.cell? ⟨gb166, 0, none⟩ = some (.slice A0_0 l0_0.length c0_0) /\ w'.cell? ⟨gb166, 1, none⟩ = some (.slice A0_1 l0_1.length c0_1) /\ w'.cell? ⟨gb166, 2, none⟩ = some (.slice (some ad169) l0_2.length c0_2) /\ w'.cell? ⟨gb166, 3, none⟩ = some (.slice A0_3 l0_3.length c0_3) /\ w'.cell? ⟨gb167, 0, none⟩ = some (.int .i64 a1_0) /\ w'.cell? ⟨gb167, 1, none⟩ = some (.int .i64 a1_1) /\ w'.cell? (ad169.add ((a1_1).toNat * 4)) = some (.int .i64 ((rd_T47 l0_2 a1_1).f0.f0)) /\ w'.cell? ⟨(ad169.add ((a1_1).toNat * 4)).block, (ad169.add ((a1_1).toNat * 4)).off + 1, none⟩ = some (.int .i64 ((rd_T47 l0_2 a1_1).f0.f1)) /\ w'.cell? ⟨(ad169.add ((a1_1).toNat * 4)).block, (ad169.add ((a1_1).toNat * 4)).off + 2, none⟩ = some (.int .i64 ((rd_T47 l0_2 a1_1).f1.f0)) /\ w'.cell? ⟨(ad169.add ((a1_1).toNat * 4)).block, (ad169.add ((a1_1).toNat * 4)).off + 3, none⟩ = some (.int .i64 ((rd_T47 l0_2 a1_1).f1.f1))) (ds := []) #[ff, ff, ff, ff, ff, ff, ff, ff, ff, ff, ff, ff] (by kernel_rfl) rfl rfl ⟨(blk_cell BK166.out 0).trans rfl, (blk_cell BK166.out 1).trans rfl, (blk_cell BK166.out 2).trans rfl, (blk_cell BK166.out 3).trans rfl, (blk_cell BK167.out 0).trans rfl, (blk_cell BK167.out 1).trans rfl, (hz HB.out hw169_0 :), (hz HB.out hw169_1 :), (hz HB.out hw169_2 :), (hz HB.out hw169_3 :)⟩ (fun hHeld => ?_); refine with_tabW spec_l10Show.tab12 spec_l10Show.bits12 (fun HT_ HW_ => ?_)
       generalize w41.drew = w44 at BK166 BK167 HB hx169_0 hx169_1 hx169_2 hx169_3 hHeld ⊢
       refine pure_ (i := 1) (N := some 25) (v := ?_) (a' := ?_) #[ff, tt, ff, ff, ff, ff, ff, ff, ff, ff, ff, ff] rfl rfl (any_of HT_.out (by kernel_rfl)) (fun _ _ _ h => h) (Or.inl ⟨by rfl, ?_⟩) ?_ ?_
       rotate_left
       ·intro w'
        go_simp
        with_reducible rfl
       rotate_left
       ·simp only [Act.put, sz1, sz2, sz3, i64_w, i32_w]
        rfl
       refine pure_ (i := 3) (N := some 27) (v := ?_) (a' := ?_) #[ff, tt, ff, tt, ff, ff, ff, ff, ff, ff, ff, ff] rfl rfl (any_of HT_.out (by kernel_rfl)) (fun _ _ _ h => h) (Or.inl ⟨by rfl, ?_⟩) ?_ ?_
       rotate_left
       ·intro w'
        go_simp
        with_reducible rfl
       rotate_left
       ·simp only [Act.put, sz1, sz2, sz3, i64_w, i32_w]
        rfl
       refine pure_ (i := 8) (N := some 32) (v := ?_) (a' := ?_) #[ff, tt, ff, tt, ff, ff, ff, ff, tt, ff, ff, ff] rfl rfl (any_of HT_.out (by kernel_rfl)) (fun _ _ _ h => h) (Or.inl ⟨by rfl, ?_⟩) ?_ ?_
       rotate_left
       ·intro w'
        go_simp
        with_reducible rfl
       rotate_left
       ·simp only [Act.put, sz1, sz2, sz3, i64_w, i32_w]
        rfl
       refine pure_ (i := 9) (N := some 33) (v := ?_) (a' := ?_) #[ff, tt, ff, tt, ff, ff, ff, ff, tt, tt, ff, ff] rfl rfl (any_of HT_.out (by kernel_rfl)) (fun _ _ _ h => h) (Or.inl ⟨by rfl, ?_⟩) ?_ ?_
       rotate_left
       ·intro w'
        go_simp
        with_reducible rfl
       rotate_left
       ·simp only [Act.put, sz1, sz2, sz3, i64_w, i32_w]
        rfl
       refine take_ (i := 0) (N := some 24) (v := ?_) (a' := ?_) #[tt, tt, ff, tt, ff, ff, ff, ff, tt, tt, ff, ff] rfl rfl (take_ofW HT_.out HW_.out (by kernel_rfl)) (fun _ _ _ h => h) (Or.inl ⟨by rfl, ?_⟩) hHeld ?_ ?_
       rotate_left
       ·rintro w' ⟨s0, s1, s2, s3, s4, s5, s6, s7, s8, s9⟩
        go_simp
        with_reducible rfl
       rotate_left
       ·simp only [Act.put, sz1, sz2, sz3, i64_w, i32_w]
        rfl
       refine take_ (i := 2) (N := some 26) (v := ?_) (a' := ?_) #[tt, tt, tt, tt, ff, ff, ff, ff, tt, tt, ff, ff] rfl rfl (take_ofW HT_.out HW_.out (by kernel_rfl)) (fun _ _ _ h => h) (Or.inl ⟨by rfl, ?_⟩) hHeld ?_ ?_
       rotate_left
       ·rintro w' ⟨s0, s1, s2, s3, s4, s5, s6, s7, s8, s9⟩
        go_simp
        with_reducible rfl
       rotate_left
       ·simp only [Act.put, sz1, sz2, sz3, i64_w, i32_w]
        rfl
       refine take_ (i := 4) (N := some 28) (v := ?_) (a' := ?_) #[tt, tt, tt, tt, tt, ff, ff, ff, tt, tt, ff, ff] rfl rfl (take_ofW HT_.out HW_.out (by kernel_rfl)) (fun _ _ _ h => h) (Or.inl ⟨by rfl, ?_⟩) hHeld ?_ ?_
       rotate_left
       ·rintro w' ⟨s0, s1, s2, s3, s4, s5, s6, s7, s8, s9⟩
        go_simp
        with_reducible rfl
       rotate_left
       ·simp only [Act.put, sz1, sz2, sz3, i64_w, i32_w]
        rfl
       refine pure_ (i := 5) (N := some 29) (v := ?_) (a' := ?_) #[tt, tt, tt, tt, tt, tt, ff, ff, tt, tt, ff, ff] rfl rfl (any_of HT_.out (by kernel_rfl)) (fun _ _ _ h => h) (Or.inl ⟨by rfl, ?_⟩) ?_ ?_
       rotate_left
       ·intro w'
        go_simp
        with_reducible rfl
       rotate_left
       ·simp only [Act.put, sz1, sz2, sz3, i64_w, i32_w]
        rfl
       refine pure_ (i := 6) (N := some 30) (v := ?_) (a' := ?_) #[tt, tt, tt, tt, tt, tt, tt, ff, tt, tt, ff, ff] rfl rfl (any_of HT_.out (by kernel_rfl)) (fun _ _ _ h => h) (Or.inl ⟨by rfl, ?_⟩) ?_ ?_
       rotate_left
       ·intro w'
        go_simp
        with_reducible rfl
       rotate_left
       ·simp only [Act.put, sz1, sz2, sz3, i64_w, i32_w]
        rfl
       refine take_ (i := 7) (N := some 31) (v := ?_) (a' := ?_) #[tt, tt, tt, tt, tt, tt, tt, tt, tt, tt, ff, ff] rfl rfl (take_ofW HT_.out HW_.out (by kernel_rfl)) (fun _ _ _ h => h) (Or.inl ⟨by rfl, ?_⟩) hHeld ?_ ?_
       rotate_left
       ·rintro w' ⟨s0, s1, s2, s3, s4, s5, s6, s7, s8, s9⟩
        go_simp
        with_reducible rfl
       rotate_left
       ·simp only [Act.put, sz1, sz2, sz3, i64_w, i32_w]
        rfl
       refine one_ (i := 10) (N := some 34) #[tt, tt, tt, tt, tt, tt, tt, tt, tt, tt, tt, ff] rfl rfl (one_of HT_.out (by kernel_rfl)) (by decide) (fun K hK => ?_)
       refine goes_ Tryd.func66 (by kernel_rfl) rfl #[.agg #[.slice A0_0 l0_0.length c0_0, .slice A0_1 l0_1.length c0_1, .slice (some ad169) l0_2.length c0_2, .slice A0_3 l0_3.length c0_3], .agg #[.int .i64 ((rd_T47 l0_2 a1_1).f0.f0), .int .i64 ((rd_T47 l0_2 a1_1).f0.f1)], .int .i64 (wrap64 (a2 - 1))] (by rfl) rfl rfl lz ?_
       with_reducible refine (ih k (by omega) _ _ l0_0 _ _ l0_1 _ _ l0_2 _ _ l0_3 ((rd_T47 l0_2 a1_1).f0.f0) ((rd_T47 l0_2 a1_1).f0.f1) (wrap64 (a2 - 1)) t170 _ ?side1 ?side2 ?side3 ?side4 ?side5 ?side6 ?side7 ?side8 A33.out).mono ?_
       (case side1 => exact cz (Kd.C_below HR0_0.out HB.out))
       (case side2 => exact HC0_0.out)
       (case side3 => exact cz (Kd.C_below HR0_1.out HB.out))
       (case side4 => exact HC0_1.out)
       (case side5 => exact cz (Kd.C_below HR0_2.out HB.out))
       (case side6 => exact HC0_2.out)
       (case side7 => exact cz (Kd.C_below HR0_3.out HB.out))
       (case side8 => exact HC0_3.out)
       rintro e w45 ⟨rfl, hb⟩
       refine ⟨_, rfl, ?_⟩
       have n0_ := Aside0.mk (blk_below (kz BK166.out) hb)
       have n1_ := Aside0.mk (blk_below (kz BK167.out) hb)
       have n2_ := Aside0.mk (below_step (bz2 HB.out GE166.out GE167.out) hb)
       clear BK166
       clear BK167
       clear HB
       have BK166 := n0_
       have BK167 := n1_
       have HB := n2_
       clear n0_ n1_ n2_
       (try clear hb)
       (try clear hb2)
       (try clear hk)
       (try clear hi)
       refine hK.out _ _ ⟨(blk_cell BK166.out 0).trans rfl, (blk_cell BK166.out 1).trans rfl, (blk_cell BK166.out 2).trans rfl, (blk_cell BK166.out 3).trans rfl, (blk_cell BK167.out 0).trans rfl, (blk_cell BK167.out 1).trans rfl, (hz HB.out hw169_0 :), (hz HB.out hw169_1 :), (hz HB.out hw169_2 :), (hz HB.out hw169_3 :)⟩ (fun hHeld => ?_)
       clear hK K
       refine norm_ (a' := ?_) ?_ ?_
       rotate_left
       ·show Act.put _ (some 34) _ = _
        simp only [Act.put, sz1, sz2, sz3, i64_w, i32_w]
        rfl
       refine pure_ (i := 11) (N := some 7) (v := ?_) (a' := ?_) #[tt, tt, tt, tt, tt, tt, tt, tt, tt, tt, tt, tt] rfl rfl (any_of HT_.out (by kernel_rfl)) (fun _ _ _ h => h) (Or.inl ⟨by rfl, ?_⟩) ?_ ?_
       rotate_left
       ·intro w'
        go_simp
        with_reducible rfl
       rotate_left
       ·simp only [Act.put, sz1, sz2, sz3, i64_w, i32_w]
        rfl
       refine done_ (done_of HT_.out (by kernel_rfl)) ?_
       try go_wp2
       have n0_ := Aside0.mk (blk_drew BK166.out)
       have n1_ := Aside0.mk (blk_drew BK167.out)
       have n2_ := Aside0.mk (below_drew1 HB.out)
       clear BK166
       clear BK167
       clear HB
       have BK166 := n0_
       have BK167 := n1_
       have HB := n2_
       clear n0_ n1_ n2_
       have p171 : 0 <= (a1_1 : Int) := oz
       have q171 : a1_1 < (l0_2.length : Int) := oz
       obtain ⟨ad171, e171, hx171_0, hx171_1, hx171_2, hx171_3⟩ := at_T47 HR0_2.out a1_1 p171 q171
       have hw171_3 := hx171_3
       have hw171_2 := hx171_2
       have hw171_1 := hx171_1
       have hw171_0 := hx171_0
       obtain rfl : ad169 = ad171 := (by injection e171)
       replace hx171_0 := hz HB.out hx171_0
       replace hx171_1 := hz HB.out hx171_1
       replace hx171_2 := hz HB.out hx171_2
       replace hx171_3 := hz HB.out hx171_3
       replace p171 := eq_true p171
       replace q171 := eq_true q171
       refine start_ (n := 12) (S := fun w' => w'.cell? ⟨gb166, 0, none⟩ = some (.slice A0_0 l0_0.length c0_0) /\ w'.cell? ⟨gb166, 1, none⟩ = some (.slice A0_1 l0_1.length c0_1) /\ w'.cell? ⟨gb166, 2, none⟩ = some (.slice (some ad169) l0_2.length c0_2) /\ w'.cell? ⟨gb166, 3, none⟩ = some (.slice A0_3 l0_3.length c0_3) /\ w'.cell? ⟨gb167, 0, none⟩ = some (.int .i64 a1_0) /\ w'.cell? ⟨gb167, 1, none⟩ = some (.int .i64 a1_1) /\ w'.cell? (ad169.add ((a1_1).toNat * 4)) = some (.int .i64 ((rd_T47 l0_2 a1_1).f0.f0)) /\ w'.cell? ⟨(ad169.add ((a1_1).toNat * 4)).block, (ad169.add ((a1_1).toNat * 4)).off + 1, none⟩ = some (.int .i64 ((rd_T47 l0_2 a1_1).f0.f1)) /\ w'.cell? ⟨(ad169.add ((a1_1).toNat * 4)).block, (ad169.add ((a1_1).toNat * 4)).off + 2, none⟩ = some (.int .i64 ((rd_T47 l0_2 a1_1).f1.f0)) /\ w'.cell? ⟨(ad169.add ((a1_1).toNat * 4)).block, (ad169.add ((a1_1).toNat * 4)).off + 3, none⟩ = some (.int .i64 ((rd_T47 l0_2 a1_1).f1.f1))) (ds := []) #[ff, ff, ff, ff, ff, ff, ff, ff, ff, ff, ff, ff] (by kernel_rfl) rfl rfl ⟨(blk_cell BK166.out 0).trans rfl, (blk_cell BK166.out 1).trans rfl, (blk_cell BK166.out 2).trans rfl, (blk_cell BK166.out 3).trans rfl, (blk_cell BK167.out 0).trans rfl, (blk_cell BK167.out 1).trans rfl, (hz HB.out hw171_0 :), (hz HB.out hw171_1 :), (hz HB.out hw171_2 :), (hz HB.out hw171_3 :)⟩ (fun hHeld => ?_); refine with_tabW spec_l10Show.tab13 spec_l10Show.bits13 (fun HT_ HW_ => ?_)
       generalize w45.drew = w46 at BK166 BK167 HB hx171_0 hx171_1 hx171_2 hx171_3 hHeld ⊢
       refine pure_ (i := 1) (N := some 36) (v := ?_) (a' := ?_) #[ff, tt, ff, ff, ff, ff, ff, ff, ff, ff, ff, ff] rfl rfl (any_of HT_.out (by kernel_rfl)) (fun _ _ _ h => h) (Or.inl ⟨by rfl, ?_⟩) ?_ ?_
       rotate_left
       ·intro w'
        go_simp
        with_reducible rfl
       rotate_left
       ·simp only [Act.put, sz1, sz2, sz3, i64_w, i32_w]
        rfl
       refine pure_ (i := 3) (N := some 38) (v := ?_) (a' := ?_) #[ff, tt, ff, tt, ff, ff, ff, ff, ff, ff, ff, ff] rfl rfl (any_of HT_.out (by kernel_rfl)) (fun _ _ _ h => h) (Or.inl ⟨by rfl, ?_⟩) ?_ ?_
       rotate_left
       ·intro w'
        go_simp
        with_reducible rfl
       rotate_left
       ·simp only [Act.put, sz1, sz2, sz3, i64_w, i32_w]
        rfl
       refine pure_ (i := 8) (N := some 43) (v := ?_) (a' := ?_) #[ff, tt, ff, tt, ff, ff, ff, ff, tt, ff, ff, ff] rfl rfl (any_of HT_.out (by kernel_rfl)) (fun _ _ _ h => h) (Or.inl ⟨by rfl, ?_⟩) ?_ ?_
       rotate_left
       ·intro w'
        go_simp
        with_reducible rfl
       rotate_left
       ·simp only [Act.put, sz1, sz2, sz3, i64_w, i32_w]
        rfl
       refine pure_ (i := 9) (N := some 44) (v := ?_) (a' := ?_) #[ff, tt, ff, tt, ff, ff, ff, ff, tt, tt, ff, ff] rfl rfl (any_of HT_.out (by kernel_rfl)) (fun _ _ _ h => h) (Or.inl ⟨by rfl, ?_⟩) ?_ ?_
       rotate_left
       ·intro w'
        go_simp
        with_reducible rfl
       rotate_left
       ·simp only [Act.put, sz1, sz2, sz3, i64_w, i32_w]
        rfl
       refine take_ (i := 0) (N := some 35) (v := ?_) (a' := ?_) #[tt, tt, ff, tt, ff, ff, ff, ff, tt, tt, ff, ff] rfl rfl (take_ofW HT_.out HW_.out (by kernel_rfl)) (fun _ _ _ h => h) (Or.inl ⟨by rfl, ?_⟩) hHeld ?_ ?_
       rotate_left
       ·rintro w' ⟨s0, s1, s2, s3, s4, s5, s6, s7, s8, s9⟩
        go_simp
        with_reducible rfl
       rotate_left
       ·simp only [Act.put, sz1, sz2, sz3, i64_w, i32_w]
        rfl
       refine take_ (i := 2) (N := some 37) (v := ?_) (a' := ?_) #[tt, tt, tt, tt, ff, ff, ff, ff, tt, tt, ff, ff] rfl rfl (take_ofW HT_.out HW_.out (by kernel_rfl)) (fun _ _ _ h => h) (Or.inl ⟨by rfl, ?_⟩) hHeld ?_ ?_
       rotate_left
       ·rintro w' ⟨s0, s1, s2, s3, s4, s5, s6, s7, s8, s9⟩
        go_simp
        with_reducible rfl
       rotate_left
       ·simp only [Act.put, sz1, sz2, sz3, i64_w, i32_w]
        rfl
       refine take_ (i := 4) (N := some 39) (v := ?_) (a' := ?_) #[tt, tt, tt, tt, tt, ff, ff, ff, tt, tt, ff, ff] rfl rfl (take_ofW HT_.out HW_.out (by kernel_rfl)) (fun _ _ _ h => h) (Or.inl ⟨by rfl, ?_⟩) hHeld ?_ ?_
       rotate_left
       ·rintro w' ⟨s0, s1, s2, s3, s4, s5, s6, s7, s8, s9⟩
        go_simp
        with_reducible rfl
       rotate_left
       ·simp only [Act.put, sz1, sz2, sz3, i64_w, i32_w]
        rfl
       refine pure_ (i := 5) (N := some 40) (v := ?_) (a' := ?_) #[tt, tt, tt, tt, tt, tt, ff, ff, tt, tt, ff, ff] rfl rfl (any_of HT_.out (by kernel_rfl)) (fun _ _ _ h => h) (Or.inl ⟨by rfl, ?_⟩) ?_ ?_
       rotate_left
       ·intro w'
        go_simp
        with_reducible rfl
       rotate_left
       ·simp only [Act.put, sz1, sz2, sz3, i64_w, i32_w]
        rfl
       refine pure_ (i := 6) (N := some 41) (v := ?_) (a' := ?_) #[tt, tt, tt, tt, tt, tt, tt, ff, tt, tt, ff, ff] rfl rfl (any_of HT_.out (by kernel_rfl)) (fun _ _ _ h => h) (Or.inl ⟨by rfl, ?_⟩) ?_ ?_
       rotate_left
       ·intro w'
        go_simp
        with_reducible rfl
       rotate_left
       ·simp only [Act.put, sz1, sz2, sz3, i64_w, i32_w]
        rfl
       refine take_ (i := 7) (N := some 42) (v := ?_) (a' := ?_) #[tt, tt, tt, tt, tt, tt, tt, tt, tt, tt, ff, ff] rfl rfl (take_ofW HT_.out HW_.out (by kernel_rfl)) (fun _ _ _ h => h) (Or.inl ⟨by rfl, ?_⟩) hHeld ?_ ?_
       rotate_left
       ·rintro w' ⟨s0, s1, s2, s3, s4, s5, s6, s7, s8, s9⟩
        go_simp
        with_reducible rfl
       rotate_left
       ·simp only [Act.put, sz1, sz2, sz3, i64_w, i32_w]
        rfl
       refine one_ (i := 10) (N := some 45) #[tt, tt, tt, tt, tt, tt, tt, tt, tt, tt, tt, ff] rfl rfl (one_of HT_.out (by kernel_rfl)) (by decide) (fun K hK => ?_)
       refine goes_ Tryd.func66 (by kernel_rfl) rfl #[.agg #[.slice A0_0 l0_0.length c0_0, .slice A0_1 l0_1.length c0_1, .slice (some ad169) l0_2.length c0_2, .slice A0_3 l0_3.length c0_3], .agg #[.int .i64 ((rd_T47 l0_2 a1_1).f1.f0), .int .i64 ((rd_T47 l0_2 a1_1).f1.f1)], .int .i64 (wrap64 (a2 - 1))] (by rfl) rfl rfl lz ?_
       with_reducible refine (ih k (by omega) _ _ l0_0 _ _ l0_1 _ _ l0_2 _ _ l0_3 ((rd_T47 l0_2 a1_1).f1.f0) ((rd_T47 l0_2 a1_1).f1.f1) (wrap64 (a2 - 1)) t172 _ ?side1 ?side2 ?side3 ?side4 ?side5 ?side6 ?side7 ?side8 A34.out).mono ?_
       (case side1 => exact cz (Kd.C_below HR0_0.out HB.out))
       (case side2 => exact HC0_0.out)
       (case side3 => exact cz (Kd.C_below HR0_1.out HB.out))
       (case side4 => exact HC0_1.out)
       (case side5 => exact cz (Kd.C_below HR0_2.out HB.out))
       (case side6 => exact HC0_2.out)
       (case side7 => exact cz (Kd.C_below HR0_3.out HB.out))
       (case side8 => exact HC0_3.out)
       rintro e w47 ⟨rfl, hb⟩
       refine ⟨_, rfl, ?_⟩
       have n0_ := Aside0.mk (blk_below (kz BK166.out) hb)
       have n1_ := Aside0.mk (blk_below (kz BK167.out) hb)
       have n2_ := Aside0.mk (below_step (bz2 HB.out GE166.out GE167.out) hb)
       clear BK166
       clear BK167
       clear HB
       have BK166 := n0_
       have BK167 := n1_
       have HB := n2_
       clear n0_ n1_ n2_
       (try clear hb)
       (try clear hb2)
       (try clear hk)
       (try clear hi)
       refine hK.out _ _ ⟨(blk_cell BK166.out 0).trans rfl, (blk_cell BK166.out 1).trans rfl, (blk_cell BK166.out 2).trans rfl, (blk_cell BK166.out 3).trans rfl, (blk_cell BK167.out 0).trans rfl, (blk_cell BK167.out 1).trans rfl, (hz HB.out hw171_0 :), (hz HB.out hw171_1 :), (hz HB.out hw171_2 :), (hz HB.out hw171_3 :)⟩ (fun hHeld => ?_)
       clear hK K
       refine norm_ (a' := ?_) ?_ ?_
       rotate_left
       ·show Act.put _ (some 45) _ = _
        simp only [Act.put, sz1, sz2, sz3, i64_w, i32_w]
        rfl
       refine pure_ (i := 11) (N := some 8) (v := ?_) (a' := ?_) #[tt, tt, tt, tt, tt, tt, tt, tt, tt, tt, tt, tt] rfl rfl (any_of HT_.out (by kernel_rfl)) (fun _ _ _ h => h) (Or.inl ⟨by rfl, ?_⟩) ?_ ?_
       rotate_left
       ·intro w'
        go_simp
        with_reducible rfl
       rotate_left
       ·simp only [Act.put, sz1, sz2, sz3, i64_w, i32_w]
        rfl
       refine done_ (done_of HT_.out (by kernel_rfl)) ?_
       obtain ⟨hcz48_0, hcz48_1⟩ := cz2 BK167.out
       obtain ⟨hfz48_0, hfz48_1⟩ := fz2 BK167.out
       try go_wp2
       go_ret
       exact ⟨gz, (bz2 HB.out GE166.out GE167.out)⟩
      ·rw [if_neg c35] at H
       have c35b0 : (a1_0 == 3) = false := beq_eq_false_iff_ne.mpr c35
       have c35b1 : (a1_0 != 3) = true := bne_iff_ne.mpr c35
       replace H := iz H
       obtain ⟨c49, H⟩ := H
       have c49b0 := eq_true c49
       have c49b1 : decide (6 + t170.size <= 9223372036854775807) = true := decide_eq_true c49
       try have c49b2 : (9223372036854775807 < 6 + t170.size) = False := eq_false (Nat.not_lt.2 c49)
       replace H := iz H
       obtain ⟨c50, H⟩ := H
       have c50b0 := eq_true c50
       have c50b1 : decide (((⟨#[40, 99, 111, 110, 115, 32]⟩ : ByteArray) ++ t170).size + 1 <= 9223372036854775807) = true := decide_eq_true c50
       try have c50b2 : (9223372036854775807 < ((⟨#[40, 99, 111, 110, 115, 32]⟩ : ByteArray) ++ t170).size + 1) = False := eq_false (Nat.not_lt.2 c50)
       (try (have c50b2z := c50b2; simp only [ByteArray.size_append, show (⟨#[40, 99, 111, 110, 115, 32]⟩ : ByteArray).size = 6 from rfl] at c50b2z))
       replace H := iz H
       obtain ⟨c51, H⟩ := H
       have c51b0 := eq_true c51
       have c51b1 : decide ((((⟨#[40, 99, 111, 110, 115, 32]⟩ : ByteArray) ++ t170) ++ (⟨#[32]⟩ : ByteArray)).size + t172.size <= 9223372036854775807) = true := decide_eq_true c51
       try have c51b2 : (9223372036854775807 < (((⟨#[40, 99, 111, 110, 115, 32]⟩ : ByteArray) ++ t170) ++ (⟨#[32]⟩ : ByteArray)).size + t172.size) = False := eq_false (Nat.not_lt.2 c51)
       (try (have c51b2z := c51b2; simp only [ByteArray.size_append, show (⟨#[32]⟩ : ByteArray).size = 1 from rfl, show (⟨#[40, 99, 111, 110, 115, 32]⟩ : ByteArray).size = 6 from rfl] at c51b2z))
       replace H := iz H
       obtain ⟨c52, H⟩ := H
       have c52b0 := eq_true c52
       have c52b1 : decide (((((⟨#[40, 99, 111, 110, 115, 32]⟩ : ByteArray) ++ t170) ++ (⟨#[32]⟩ : ByteArray)) ++ t172).size + 1 <= 9223372036854775807) = true := decide_eq_true c52
       try have c52b2 : (9223372036854775807 < ((((⟨#[40, 99, 111, 110, 115, 32]⟩ : ByteArray) ++ t170) ++ (⟨#[32]⟩ : ByteArray)) ++ t172).size + 1) = False := eq_false (Nat.not_lt.2 c52)
       (try (have c52b2z := c52b2; simp only [ByteArray.size_append, show (⟨#[32]⟩ : ByteArray).size = 1 from rfl, show (⟨#[40, 99, 111, 110, 115, 32]⟩ : ByteArray).size = 6 from rfl] at c52b2z))
       obtain rfl := Option.some.inj H
       go_enter Tryd.func66, Tryd.ntmps66
       try go_wp2_with (first | ((with_reducible refine gate_dst (N := 3) rfl ?_); refine box_event ?hg (N := 3) ?hd (cs := #[.slice A0_0 l0_0.length c0_0, .slice A0_1 l0_1.length c0_1, .slice A0_2 l0_2.length c0_2, .slice A0_3 l0_3.length c0_3]) (t := 29) ?hr ?_; (case hd => rfl); (case hg => rfl); (case hr => exact vz); intro gb166 hg w53 hbox hb; have BK166 := Aside0.mk (hbox); have GW166 := Aside0.mk ((by rw [hg]; exact (below_size (bz0 HB.out)) : w.heap.size <= gb166)); have GE166 := Aside0.mk ((by rw [hg]; exact (below_size (bz0 HB.out)) : w.heap.size <= gb166)); replace HB := Aside0.mk (below_step (bz0 HB.out) hb); clear hb hbox hg) | ((with_reducible refine gate_dst (N := 4) rfl ?_); refine box_event ?hg (N := 4) ?hd (cs := #[.int .i64 a1_0, .int .i64 a1_1]) (t := 35) ?hr ?_; (case hd => rfl); (case hg => rfl); (case hr => exact vz); intro gb167 hg w54 hbox hb; have BK167 := Aside0.mk (hbox); have GW167 := Aside0.mk ((by rw [hg]; exact (below_size (bz1 HB.out GE166.out)) : w.heap.size <= gb167)); have GE167 := Aside0.mk ((by rw [hg]; exact (below_size (bz1 HB.out GE166.out)) : w.heap.size <= gb167)); replace HB := Aside0.mk (below_step (bz1 HB.out GE166.out) hb); have NB166_167 := Aside0.mk ((by rw [hg]; exact Nat.ne_of_lt (blk_lt (g := gb166) (o := .cells #[.slice A0_0 l0_0.length c0_0, .slice A0_1 l0_1.length c0_1, .slice A0_2 l0_2.length c0_2, .slice A0_3 l0_3.length c0_3] 29 (0, 0)) (kz BK166.out)) : gb166 ≠ gb167)); have NB167_166 := Aside0.mk ((by rw [hg]; exact Nat.ne_of_gt (blk_lt (g := gb166) (o := .cells #[.slice A0_0 l0_0.length c0_0, .slice A0_1 l0_1.length c0_1, .slice A0_2 l0_2.length c0_2, .slice A0_3 l0_3.length c0_3] 29 (0, 0)) (kz BK166.out)) : gb167 ≠ gb166)); replace BK166 := Aside0.mk (blk_below (kz BK166.out) hb); clear hb hbox hg; have hnb55 := NB167_166.out; have hnc55 := NB166_167.out; obtain ⟨hcz56_0, hcz56_1⟩ := cz2 BK167.out; obtain ⟨hfz56_0, hfz56_1⟩ := fz2 BK167.out))
       have n0_ := Aside0.mk (blk_drew BK166.out)
       have n1_ := Aside0.mk (blk_drew BK167.out)
       have n2_ := Aside0.mk (below_drew1 HB.out)
       clear BK166
       clear BK167
       clear HB
       have BK166 := n0_
       have BK167 := n1_
       have HB := n2_
       clear n0_ n1_ n2_
       have p169 : 0 <= (a1_1 : Int) := oz
       have q169 : a1_1 < (l0_2.length : Int) := oz
       obtain ⟨ad169, e169, hx169_0, hx169_1, hx169_2, hx169_3⟩ := at_T47 HR0_2.out a1_1 p169 q169
       have hw169_3 := hx169_3
       have hw169_2 := hx169_2
       have hw169_1 := hx169_1
       have hw169_0 := hx169_0
       cases e169
       replace hx169_0 := hz HB.out hx169_0
       replace hx169_1 := hz HB.out hx169_1
       replace hx169_2 := hz HB.out hx169_2
       replace hx169_3 := hz HB.out hx169_3
       replace p169 := eq_true p169
       replace q169 := eq_true q169
       refine start_ (n := 12) (S := fun w' => w'.cell? ⟨gb166, 0, none⟩ = some (.slice A0_0 l0_0.length c0_0) /\ w'.cell? ⟨gb166, 1, none⟩ = some (.slice A0_1 l0_1.length c0_1) /\ w'.cell? ⟨gb166, 2, none⟩ = some (.slice (some ad169) l0_2.length c0_2) /\ w'.cell? ⟨gb166, 3, none⟩ = some (.slice A0_3 l0_3.length c0_3) /\ w'.cell? ⟨gb167, 0, none⟩ = some (.int .i64 a1_0) /\ w'.cell? ⟨gb167, 1, none⟩ = some (.int .i64 a1_1) /\ w'.cell? (ad169.add ((a1_1).toNat * 4)) = some (.int .i64 ((rd_T47 l0_2 a1_1).f0.f0)) /\ w'.cell? ⟨(ad169.add ((a1_1).toNat * 4)).block, (ad169.add ((a1_1).toNat * 4)).off + 1, none⟩ = some (.int .i64 ((rd_T47 l0_2 a1_1).f0.f1)) /\ w'.cell? ⟨(ad169.add ((a1_1).toNat * 4)).block, (ad169.add ((a1_1).toNat * 4)).off + 2, none⟩ = some (.int .i64 ((rd_T47 l0_2 a1_1).f1.f0)) /\ w'.cell? ⟨(ad169.add ((a1_1).toNat * 4)).block, (ad169.add ((a1_1).toNat * 4)).off + 3, none⟩ = some (.int .i64 ((rd_T47 l0_2 a1_1).f1.f1))) (ds := []) #[ff, ff, ff, ff, ff, ff, ff, ff, ff, ff, ff, ff] (by kernel_rfl) rfl rfl ⟨(blk_cell BK166.out 0).trans rfl, (blk_cell BK166.out 1).trans rfl, (blk_cell BK166.out 2).trans rfl, (blk_cell BK166.out 3).trans rfl, (blk_cell BK167.out 0).trans rfl, (blk_cell BK167.out 1).trans rfl, (hz HB.out hw169_0 :), (hz HB.out hw169_1 :), (hz HB.out hw169_2 :), (hz HB.out hw169_3 :)⟩ (fun hHeld => ?_); refine with_tabW spec_l10Show.tab12 spec_l10Show.bits12 (fun HT_ HW_ => ?_)
       generalize w54.drew = w57 at BK166 BK167 HB hx169_0 hx169_1 hx169_2 hx169_3 hHeld ⊢
       refine pure_ (i := 1) (N := some 25) (v := ?_) (a' := ?_) #[ff, tt, ff, ff, ff, ff, ff, ff, ff, ff, ff, ff] rfl rfl (any_of HT_.out (by kernel_rfl)) (fun _ _ _ h => h) (Or.inl ⟨by rfl, ?_⟩) ?_ ?_
       rotate_left
       ·intro w'
        go_simp
        with_reducible rfl
       rotate_left
       ·simp only [Act.put, sz1, sz2, sz3, i64_w, i32_w]
        rfl
       refine pure_ (i := 3) (N := some 27) (v := ?_) (a' := ?_) #[ff, tt, ff, tt, ff, ff, ff, ff, ff, ff, ff, ff] rfl rfl (any_of HT_.out (by kernel_rfl)) (fun _ _ _ h => h) (Or.inl ⟨by rfl, ?_⟩) ?_ ?_
       rotate_left
       ·intro w'
        go_simp
        with_reducible rfl
       rotate_left
       ·simp only [Act.put, sz1, sz2, sz3, i64_w, i32_w]
        rfl
       refine pure_ (i := 8) (N := some 32) (v := ?_) (a' := ?_) #[ff, tt, ff, tt, ff, ff, ff, ff, tt, ff, ff, ff] rfl rfl (any_of HT_.out (by kernel_rfl)) (fun _ _ _ h => h) (Or.inl ⟨by rfl, ?_⟩) ?_ ?_
       rotate_left
       ·intro w'
        go_simp
        with_reducible rfl
       rotate_left
       ·simp only [Act.put, sz1, sz2, sz3, i64_w, i32_w]
        rfl
       refine pure_ (i := 9) (N := some 33) (v := ?_) (a' := ?_) #[ff, tt, ff, tt, ff, ff, ff, ff, tt, tt, ff, ff] rfl rfl (any_of HT_.out (by kernel_rfl)) (fun _ _ _ h => h) (Or.inl ⟨by rfl, ?_⟩) ?_ ?_
       rotate_left
       ·intro w'
        go_simp
        with_reducible rfl
       rotate_left
       ·simp only [Act.put, sz1, sz2, sz3, i64_w, i32_w]
        rfl
       refine take_ (i := 0) (N := some 24) (v := ?_) (a' := ?_) #[tt, tt, ff, tt, ff, ff, ff, ff, tt, tt, ff, ff] rfl rfl (take_ofW HT_.out HW_.out (by kernel_rfl)) (fun _ _ _ h => h) (Or.inl ⟨by rfl, ?_⟩) hHeld ?_ ?_
       rotate_left
       ·rintro w' ⟨s0, s1, s2, s3, s4, s5, s6, s7, s8, s9⟩
        go_simp
        with_reducible rfl
       rotate_left
       ·simp only [Act.put, sz1, sz2, sz3, i64_w, i32_w]
        rfl
       refine take_ (i := 2) (N := some 26) (v := ?_) (a' := ?_) #[tt, tt, tt, tt, ff, ff, ff, ff, tt, tt, ff, ff] rfl rfl (take_ofW HT_.out HW_.out (by kernel_rfl)) (fun _ _ _ h => h) (Or.inl ⟨by rfl, ?_⟩) hHeld ?_ ?_
       rotate_left
       ·rintro w' ⟨s0, s1, s2, s3, s4, s5, s6, s7, s8, s9⟩
        go_simp
        with_reducible rfl
       rotate_left
       ·simp only [Act.put, sz1, sz2, sz3, i64_w, i32_w]
        rfl
       refine take_ (i := 4) (N := some 28) (v := ?_) (a' := ?_) #[tt, tt, tt, tt, tt, ff, ff, ff, tt, tt, ff, ff] rfl rfl (take_ofW HT_.out HW_.out (by kernel_rfl)) (fun _ _ _ h => h) (Or.inl ⟨by rfl, ?_⟩) hHeld ?_ ?_
       rotate_left
       ·rintro w' ⟨s0, s1, s2, s3, s4, s5, s6, s7, s8, s9⟩
        go_simp
        with_reducible rfl
       rotate_left
       ·simp only [Act.put, sz1, sz2, sz3, i64_w, i32_w]
        rfl
       refine pure_ (i := 5) (N := some 29) (v := ?_) (a' := ?_) #[tt, tt, tt, tt, tt, tt, ff, ff, tt, tt, ff, ff] rfl rfl (any_of HT_.out (by kernel_rfl)) (fun _ _ _ h => h) (Or.inl ⟨by rfl, ?_⟩) ?_ ?_
       rotate_left
       ·intro w'
        go_simp
        with_reducible rfl
       rotate_left
       ·simp only [Act.put, sz1, sz2, sz3, i64_w, i32_w]
        rfl
       refine pure_ (i := 6) (N := some 30) (v := ?_) (a' := ?_) #[tt, tt, tt, tt, tt, tt, tt, ff, tt, tt, ff, ff] rfl rfl (any_of HT_.out (by kernel_rfl)) (fun _ _ _ h => h) (Or.inl ⟨by rfl, ?_⟩) ?_ ?_
       rotate_left
       ·intro w'
        go_simp
        with_reducible rfl
       rotate_left
       ·simp only [Act.put, sz1, sz2, sz3, i64_w, i32_w]
        rfl
       refine take_ (i := 7) (N := some 31) (v := ?_) (a' := ?_) #[tt, tt, tt, tt, tt, tt, tt, tt, tt, tt, ff, ff] rfl rfl (take_ofW HT_.out HW_.out (by kernel_rfl)) (fun _ _ _ h => h) (Or.inl ⟨by rfl, ?_⟩) hHeld ?_ ?_
       rotate_left
       ·rintro w' ⟨s0, s1, s2, s3, s4, s5, s6, s7, s8, s9⟩
        go_simp
        with_reducible rfl
       rotate_left
       ·simp only [Act.put, sz1, sz2, sz3, i64_w, i32_w]
        rfl
       refine one_ (i := 10) (N := some 34) #[tt, tt, tt, tt, tt, tt, tt, tt, tt, tt, tt, ff] rfl rfl (one_of HT_.out (by kernel_rfl)) (by decide) (fun K hK => ?_)
       refine goes_ Tryd.func66 (by kernel_rfl) rfl #[.agg #[.slice A0_0 l0_0.length c0_0, .slice A0_1 l0_1.length c0_1, .slice (some ad169) l0_2.length c0_2, .slice A0_3 l0_3.length c0_3], .agg #[.int .i64 ((rd_T47 l0_2 a1_1).f0.f0), .int .i64 ((rd_T47 l0_2 a1_1).f0.f1)], .int .i64 (wrap64 (a2 - 1))] (by rfl) rfl rfl lz ?_
       with_reducible refine (ih k (by omega) _ _ l0_0 _ _ l0_1 _ _ l0_2 _ _ l0_3 ((rd_T47 l0_2 a1_1).f0.f0) ((rd_T47 l0_2 a1_1).f0.f1) (wrap64 (a2 - 1)) t170 _ ?side1 ?side2 ?side3 ?side4 ?side5 ?side6 ?side7 ?side8 A33.out).mono ?_
       (case side1 => exact cz (Kd.C_below HR0_0.out HB.out))
       (case side2 => exact HC0_0.out)
       (case side3 => exact cz (Kd.C_below HR0_1.out HB.out))
       (case side4 => exact HC0_1.out)
       (case side5 => exact cz (Kd.C_below HR0_2.out HB.out))
       (case side6 => exact HC0_2.out)
       (case side7 => exact cz (Kd.C_below HR0_3.out HB.out))
       (case side8 => exact HC0_3.out)
       rintro e w58 ⟨rfl, hb⟩
       refine ⟨_, rfl, ?_⟩
       have n0_ := Aside0.mk (blk_below (kz BK166.out) hb)
       have n1_ := Aside0.mk (blk_below (kz BK167.out) hb)
       have n2_ := Aside0.mk (below_step (bz2 HB.out GE166.out GE167.out) hb)
       clear BK166
       clear BK167
       clear HB
       have BK166 := n0_
       have BK167 := n1_
       have HB := n2_
       clear n0_ n1_ n2_
       (try clear hb)
       (try clear hb2)
       (try clear hk)
       (try clear hi)
       refine hK.out _ _ ⟨(blk_cell BK166.out 0).trans rfl, (blk_cell BK166.out 1).trans rfl, (blk_cell BK166.out 2).trans rfl, (blk_cell BK166.out 3).trans rfl, (blk_cell BK167.out 0).trans rfl, (blk_cell BK167.out 1).trans rfl, (hz HB.out hw169_0 :), (hz HB.out hw169_1 :), (hz HB.out hw169_2 :), (hz HB.out hw169_3 :)⟩ (fun hHeld => ?_)
       clear hK K
       refine norm_ (a' := ?_) ?_ ?_
       rotate_left
       ·show Act.put _ (some 34) _ = _
        simp only [Act.put, sz1, sz2, sz3, i64_w, i32_w]
        rfl
       refine pure_ (i := 11) (N := some 7) (v := ?_) (a' := ?_) #[tt, tt, tt, tt, tt, tt, tt, tt, tt, tt, tt, tt] rfl rfl (any_of HT_.out (by kernel_rfl)) (fun _ _ _ h => h) (Or.inl ⟨by rfl, ?_⟩) ?_ ?_
       rotate_left
       ·intro w'
        go_simp
        with_reducible rfl
       rotate_left
       ·simp only [Act.put, sz1, sz2, sz3, i64_w, i32_w]
        rfl
       refine done_ (done_of HT_.out (by kernel_rfl)) ?_
       try go_wp2
       have n0_ := Aside0.mk (blk_drew BK166.out)
       have n1_ := Aside0.mk (blk_drew BK167.out)
       have n2_ := Aside0.mk (below_drew1 HB.out)
       clear BK166
       clear BK167
       clear HB
       have BK166 := n0_
       have BK167 := n1_
       have HB := n2_
       clear n0_ n1_ n2_
       have p171 : 0 <= (a1_1 : Int) := oz
       have q171 : a1_1 < (l0_2.length : Int) := oz
       obtain ⟨ad171, e171, hx171_0, hx171_1, hx171_2, hx171_3⟩ := at_T47 HR0_2.out a1_1 p171 q171
       have hw171_3 := hx171_3
       have hw171_2 := hx171_2
       have hw171_1 := hx171_1
       have hw171_0 := hx171_0
       obtain rfl : ad169 = ad171 := (by injection e171)
       replace hx171_0 := hz HB.out hx171_0
       replace hx171_1 := hz HB.out hx171_1
       replace hx171_2 := hz HB.out hx171_2
       replace hx171_3 := hz HB.out hx171_3
       replace p171 := eq_true p171
       replace q171 := eq_true q171
       refine start_ (n := 12) (S := fun w' => w'.cell? ⟨gb166, 0, none⟩ = some (.slice A0_0 l0_0.length c0_0) /\ w'.cell? ⟨gb166, 1, none⟩ = some (.slice A0_1 l0_1.length c0_1) /\ w'.cell? ⟨gb166, 2, none⟩ = some (.slice (some ad169) l0_2.length c0_2) /\ w'.cell? ⟨gb166, 3, none⟩ = some (.slice A0_3 l0_3.length c0_3) /\ w'.cell? ⟨gb167, 0, none⟩ = some (.int .i64 a1_0) /\ w'.cell? ⟨gb167, 1, none⟩ = some (.int .i64 a1_1) /\ w'.cell? (ad169.add ((a1_1).toNat * 4)) = some (.int .i64 ((rd_T47 l0_2 a1_1).f0.f0)) /\ w'.cell? ⟨(ad169.add ((a1_1).toNat * 4)).block, (ad169.add ((a1_1).toNat * 4)).off + 1, none⟩ = some (.int .i64 ((rd_T47 l0_2 a1_1).f0.f1)) /\ w'.cell? ⟨(ad169.add ((a1_1).toNat * 4)).block, (ad169.add ((a1_1).toNat * 4)).off + 2, none⟩ = some (.int .i64 ((rd_T47 l0_2 a1_1).f1.f0)) /\ w'.cell? ⟨(ad169.add ((a1_1).toNat * 4)).block, (ad169.add ((a1_1).toNat * 4)).off + 3, none⟩ = some (.int .i64 ((rd_T47 l0_2 a1_1).f1.f1))) (ds := []) #[ff, ff, ff, ff, ff, ff, ff, ff, ff, ff, ff, ff] (by kernel_rfl) rfl rfl ⟨(blk_cell BK166.out 0).trans rfl, (blk_cell BK166.out 1).trans rfl, (blk_cell BK166.out 2).trans rfl, (blk_cell BK166.out 3).trans rfl, (blk_cell BK167.out 0).trans rfl, (blk_cell BK167.out 1).trans rfl, (hz HB.out hw171_0 :), (hz HB.out hw171_1 :), (hz HB.out hw171_2 :), (hz HB.out hw171_3 :)⟩ (fun hHeld => ?_); refine with_tabW spec_l10Show.tab13 spec_l10Show.bits13 (fun HT_ HW_ => ?_)
       generalize w58.drew = w59 at BK166 BK167 HB hx171_0 hx171_1 hx171_2 hx171_3 hHeld ⊢
       refine pure_ (i := 1) (N := some 36) (v := ?_) (a' := ?_) #[ff, tt, ff, ff, ff, ff, ff, ff, ff, ff, ff, ff] rfl rfl (any_of HT_.out (by kernel_rfl)) (fun _ _ _ h => h) (Or.inl ⟨by rfl, ?_⟩) ?_ ?_
       rotate_left
       ·intro w'
        go_simp
        with_reducible rfl
       rotate_left
       ·simp only [Act.put, sz1, sz2, sz3, i64_w, i32_w]
        rfl
       refine pure_ (i := 3) (N := some 38) (v := ?_) (a' := ?_) #[ff, tt, ff, tt, ff, ff, ff, ff, ff, ff, ff, ff] rfl rfl (any_of HT_.out (by kernel_rfl)) (fun _ _ _ h => h) (Or.inl ⟨by rfl, ?_⟩) ?_ ?_
       rotate_left
       ·intro w'
        go_simp
        with_reducible rfl
       rotate_left
       ·simp only [Act.put, sz1, sz2, sz3, i64_w, i32_w]
        rfl
       refine pure_ (i := 8) (N := some 43) (v := ?_) (a' := ?_) #[ff, tt, ff, tt, ff, ff, ff, ff, tt, ff, ff, ff] rfl rfl (any_of HT_.out (by kernel_rfl)) (fun _ _ _ h => h) (Or.inl ⟨by rfl, ?_⟩) ?_ ?_
       rotate_left
       ·intro w'
        go_simp
        with_reducible rfl
       rotate_left
       ·simp only [Act.put, sz1, sz2, sz3, i64_w, i32_w]
        rfl
       refine pure_ (i := 9) (N := some 44) (v := ?_) (a' := ?_) #[ff, tt, ff, tt, ff, ff, ff, ff, tt, tt, ff, ff] rfl rfl (any_of HT_.out (by kernel_rfl)) (fun _ _ _ h => h) (Or.inl ⟨by rfl, ?_⟩) ?_ ?_
       rotate_left
       ·intro w'
        go_simp
        with_reducible rfl
       rotate_left
       ·simp only [Act.put, sz1, sz2, sz3, i64_w, i32_w]
        rfl
       refine take_ (i := 0) (N := some 35) (v := ?_) (a' := ?_) #[tt, tt, ff, tt, ff, ff, ff, ff, tt, tt, ff, ff] rfl rfl (take_ofW HT_.out HW_.out (by kernel_rfl)) (fun _ _ _ h => h) (Or.inl ⟨by rfl, ?_⟩) hHeld ?_ ?_
       rotate_left
       ·rintro w' ⟨s0, s1, s2, s3, s4, s5, s6, s7, s8, s9⟩
        go_simp
        with_reducible rfl
       rotate_left
       ·simp only [Act.put, sz1, sz2, sz3, i64_w, i32_w]
        rfl
       refine take_ (i := 2) (N := some 37) (v := ?_) (a' := ?_) #[tt, tt, tt, tt, ff, ff, ff, ff, tt, tt, ff, ff] rfl rfl (take_ofW HT_.out HW_.out (by kernel_rfl)) (fun _ _ _ h => h) (Or.inl ⟨by rfl, ?_⟩) hHeld ?_ ?_
       rotate_left
       ·rintro w' ⟨s0, s1, s2, s3, s4, s5, s6, s7, s8, s9⟩
        go_simp
        with_reducible rfl
       rotate_left
       ·simp only [Act.put, sz1, sz2, sz3, i64_w, i32_w]
        rfl
       refine take_ (i := 4) (N := some 39) (v := ?_) (a' := ?_) #[tt, tt, tt, tt, tt, ff, ff, ff, tt, tt, ff, ff] rfl rfl (take_ofW HT_.out HW_.out (by kernel_rfl)) (fun _ _ _ h => h) (Or.inl ⟨by rfl, ?_⟩) hHeld ?_ ?_
       rotate_left
       ·rintro w' ⟨s0, s1, s2, s3, s4, s5, s6, s7, s8, s9⟩
        go_simp
        with_reducible rfl
       rotate_left
       ·simp only [Act.put, sz1, sz2, sz3, i64_w, i32_w]
        rfl
       refine pure_ (i := 5) (N := some 40) (v := ?_) (a' := ?_) #[tt, tt, tt, tt, tt, tt, ff, ff, tt, tt, ff, ff] rfl rfl (any_of HT_.out (by kernel_rfl)) (fun _ _ _ h => h) (Or.inl ⟨by rfl, ?_⟩) ?_ ?_
       rotate_left
       ·intro w'
        go_simp
        with_reducible rfl
       rotate_left
       ·simp only [Act.put, sz1, sz2, sz3, i64_w, i32_w]
        rfl
       refine pure_ (i := 6) (N := some 41) (v := ?_) (a' := ?_) #[tt, tt, tt, tt, tt, tt, tt, ff, tt, tt, ff, ff] rfl rfl (any_of HT_.out (by kernel_rfl)) (fun _ _ _ h => h) (Or.inl ⟨by rfl, ?_⟩) ?_ ?_
       rotate_left
       ·intro w'
        go_simp
        with_reducible rfl
       rotate_left
       ·simp only [Act.put, sz1, sz2, sz3, i64_w, i32_w]
        rfl
       refine take_ (i := 7) (N := some 42) (v := ?_) (a' := ?_) #[tt, tt, tt, tt, tt, tt, tt, tt, tt, tt, ff, ff] rfl rfl (take_ofW HT_.out HW_.out (by kernel_rfl)) (fun _ _ _ h => h) (Or.inl ⟨by rfl, ?_⟩) hHeld ?_ ?_
       rotate_left
       ·rintro w' ⟨s0, s1, s2, s3, s4, s5, s6, s7, s8, s9⟩
        go_simp
        with_reducible rfl
       rotate_left
       ·simp only [Act.put, sz1, sz2, sz3, i64_w, i32_w]
        rfl
       refine one_ (i := 10) (N := some 45) #[tt, tt, tt, tt, tt, tt, tt, tt, tt, tt, tt, ff] rfl rfl (one_of HT_.out (by kernel_rfl)) (by decide) (fun K hK => ?_)
       refine goes_ Tryd.func66 (by kernel_rfl) rfl #[.agg #[.slice A0_0 l0_0.length c0_0, .slice A0_1 l0_1.length c0_1, .slice (some ad169) l0_2.length c0_2, .slice A0_3 l0_3.length c0_3], .agg #[.int .i64 ((rd_T47 l0_2 a1_1).f1.f0), .int .i64 ((rd_T47 l0_2 a1_1).f1.f1)], .int .i64 (wrap64 (a2 - 1))] (by rfl) rfl rfl lz ?_
       with_reducible refine (ih k (by omega) _ _ l0_0 _ _ l0_1 _ _ l0_2 _ _ l0_3 ((rd_T47 l0_2 a1_1).f1.f0) ((rd_T47 l0_2 a1_1).f1.f1) (wrap64 (a2 - 1)) t172 _ ?side1 ?side2 ?side3 ?side4 ?side5 ?side6 ?side7 ?side8 A34.out).mono ?_
       (case side1 => exact cz (Kd.C_below HR0_0.out HB.out))
       (case side2 => exact HC0_0.out)
       (case side3 => exact cz (Kd.C_below HR0_1.out HB.out))
       (case side4 => exact HC0_1.out)
       (case side5 => exact cz (Kd.C_below HR0_2.out HB.out))
       (case side6 => exact HC0_2.out)
       (case side7 => exact cz (Kd.C_below HR0_3.out HB.out))
       (case side8 => exact HC0_3.out)
       rintro e w60 ⟨rfl, hb⟩
       refine ⟨_, rfl, ?_⟩
       have n0_ := Aside0.mk (blk_below (kz BK166.out) hb)
       have n1_ := Aside0.mk (blk_below (kz BK167.out) hb)
       have n2_ := Aside0.mk (below_step (bz2 HB.out GE166.out GE167.out) hb)
       clear BK166
       clear BK167
       clear HB
       have BK166 := n0_
       have BK167 := n1_
       have HB := n2_
       clear n0_ n1_ n2_
       (try clear hb)
       (try clear hb2)
       (try clear hk)
       (try clear hi)
       refine hK.out _ _ ⟨(blk_cell BK166.out 0).trans rfl, (blk_cell BK166.out 1).trans rfl, (blk_cell BK166.out 2).trans rfl, (blk_cell BK166.out 3).trans rfl, (blk_cell BK167.out 0).trans rfl, (blk_cell BK167.out 1).trans rfl, (hz HB.out hw171_0 :), (hz HB.out hw171_1 :), (hz HB.out hw171_2 :), (hz HB.out hw171_3 :)⟩ (fun hHeld => ?_)
       clear hK K
       refine norm_ (a' := ?_) ?_ ?_
       rotate_left
       ·show Act.put _ (some 45) _ = _
        simp only [Act.put, sz1, sz2, sz3, i64_w, i32_w]
        rfl
       refine pure_ (i := 11) (N := some 8) (v := ?_) (a' := ?_) #[tt, tt, tt, tt, tt, tt, tt, tt, tt, tt, tt, tt] rfl rfl (any_of HT_.out (by kernel_rfl)) (fun _ _ _ h => h) (Or.inl ⟨by rfl, ?_⟩) ?_ ?_
       rotate_left
       ·intro w'
        go_simp
        with_reducible rfl
       rotate_left
       ·simp only [Act.put, sz1, sz2, sz3, i64_w, i32_w]
        rfl
       refine done_ (done_of HT_.out (by kernel_rfl)) ?_
       obtain ⟨hcz61_0, hcz61_1⟩ := cz2 BK167.out
       obtain ⟨hfz61_0, hfz61_1⟩ := fz2 BK167.out
       try go_wp2
       go_ret
       exact ⟨gz, (bz2 HB.out GE166.out GE167.out)⟩
end Go.Proofs.YtlhofeikcaejpaaDoor.PFnExactShowVal
