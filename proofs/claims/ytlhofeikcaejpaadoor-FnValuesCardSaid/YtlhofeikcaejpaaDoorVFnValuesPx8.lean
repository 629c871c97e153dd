/- PFnValuesx8, of the words and walks that the law FnValues needs; made by this session's program out of printed texts. -/

import Derived.Test.YtlhofeikcaejpaaDoorVFnValuesPx0
import Derived.Test.YtlhofeikcaejpaaDoorVFnValuesPx2
import Derived.Test.YtlhofeikcaejpaaDoorVFnValuesPx3
import Derived.Test.YtlhofeikcaejpaaDoorVFnValuesPx6
import Derived.Test.YtlhofeikcaejpaaDoorVFnValuesPx7
namespace Go.Proofs.YtlhofeikcaejpaaDoor.PFnValues
open Go.RowKit Go.Proofs.YtlhofeikcaejpaaDoorW.PrintWords Go.Proofs.YtlhofeikcaejpaaDoorW.PrintLast Go.Proofs.YtlhofeikcaejpaaDoorW.PrintMore
attribute [local go_sem] max2_int min2_int max_two min_two max_three min_three max_four min_four
set_option linter.unusedVariables false
set_option linter.unusedSimpArgs false
def spec_l10Look.l0 : Nat -> Int -> List (S41) -> List (S86) -> List (S47) -> List (S35) -> Int -> Int -> Option (Int × Int × Bool)
 | 0, _, _, _, _, _, _, _ => none
 | k + 1, x1, x310000, x310001, x310002, x310003, x311000, x311001 => if x1 ≥ 0 then (if 0 <= x1 then (if x1 < (x310000.length : Int) then (if ((rd_T41 x310000 x1).f0) = x311000 then (if ((rd_T41 x310000 x1).f1) = x311001 then (some ((rd_T41 x310000 x1).f2.f0, (rd_T41 x310000 x1).f2.f1, true)) else (spec_l10Look.l0 k ((rd_T41 x310000 x1).f3) x310000 x310001 x310002 x310003 x311000 x311001)) else (spec_l10Look.l0 k ((rd_T41 x310000 x1).f3) x310000 x310001 x310002 x310003 x311000 x311001)) else (none)) else (none)) else (some (0, 0, false))
def spec_l10Look.f (k : Nat) (l0_0 : List (S41)) (l0_1 : List (S86)) (l0_2 : List (S47)) (l0_3 : List (S35)) (a1 : Int) (a2_0 : Int) (a2_1 : Int) : Option (Int × Int × Bool) := spec_l10Look.l0 k a1 l0_0 l0_1 l0_2 l0_3 a2_0 a2_1
theorem spec_l10Look.mono_l : ∀ k, (∀ y0 y1 y2 y3 y4 y5 y6, LeO (spec_l10Look.l0 k y0 y1 y2 y3 y4 y5 y6) (spec_l10Look.l0 (k + 1) y0 y1 y2 y3 y4 y5 y6))
 | 0 => fun _ _ _ _ _ _ _ r h => by simp [spec_l10Look.l0] at h
 | k + 1 => by
  have ih0 := spec_l10Look.mono_l k
  ·intro y0 y1 y2 y3 y4 y5 y6
   unfold spec_l10Look.l0
   with_reducible repeat' first | exact ih0 _ _ _ _ _ _ _ | exact lrz _ | exact lnz _ | refine liz ?_ ?_ | refine lbz ?_ fun _ => ?_
theorem spec_l10Look.mono : ∀ a0 a1 a2 a3 a4 a5 a6 k, LeO (spec_l10Look.f k a0 a1 a2 a3 a4 a5 a6) (spec_l10Look.f (k + 1) a0 a1 a2 a3 a4 a5 a6) := by
 intro a0 a1 a2 a3 a4 a5 a6 k
 have ih0 := spec_l10Look.mono_l k
 unfold spec_l10Look.f
 with_reducible repeat' first | exact ih0 _ _ _ _ _ _ _ | exact lrz _ | exact lnz _ | refine liz ?_ ?_ | refine lbz ?_ fun _ => ?_
set_option maxHeartbeats 80000000 in
set_option maxRecDepth 100000 in
theorem spec_l10Look.calls (k : Nat) (A0_0 : Option Addr) (c0_0 : Nat) (l0_0 : List (S41)) (A0_1 : Option Addr) (c0_1 : Nat) (l0_1 : List (S86)) (A0_2 : Option Addr) (c0_2 : Nat) (l0_2 : List (S47)) (A0_3 : Option Addr) (c0_3 : Nat) (l0_3 : List (S35)) (a1 : Int) (a2_0 : Int) (a2_1 : Int) (r1 : Int) (r2 : Int) (r3 : Bool) (w : World) (hr0_0 : Kd.C k41 w A0_0 l0_0.length l0_0) (hc0_0 : l0_0.length <= c0_0) (hr0_1 : Kd.C k86 w A0_1 l0_1.length l0_1) (hc0_1 : l0_1.length <= c0_1) (hr0_2 : Kd.C k47 w A0_2 l0_2.length l0_2) (hc0_2 : l0_2.length <= c0_2) (hr0_3 : Kd.C k35 w A0_3 l0_3.length l0_3) (hc0_3 : l0_3.length <= c0_3) (h : spec_l10Look.f k l0_0 l0_1 l0_2 l0_3 a1 a2_0 a2_1 = some (r1, r2, r3)) :
  Calls Tryd.prog 45 #[.agg #[.slice A0_0 l0_0.length c0_0, .slice A0_1 l0_1.length c0_1, .slice A0_2 l0_2.length c0_2, .slice A0_3 l0_3.length c0_3], .int .i64 a1, .agg #[.int .i64 a2_0, .int .i64 a2_1]] w fun e w' => e = .returned (.tuple #[.agg #[.int .i64 r1, .int .i64 r2], .bool r3]) /\ Below w.heap.size w w' := by
 have hu29 := Tryd.underlying29
 have hu31 := Tryd.underlying31
 have hu35 := Tryd.underlying35
 have hu41 := Tryd.underlying41
 have HR0_0 := Aside0.mk hr0_0
 have HC0_0 := Aside0.mk hc0_0
 clear hr0_0 hc0_0
 have HR0_1 := Aside0.mk hr0_1
 have HC0_1 := Aside0.mk hc0_1
 clear hr0_1 hc0_1
 have HR0_2 := Aside0.mk hr0_2
 have HC0_2 := Aside0.mk hc0_2
 clear hr0_2 hc0_2
 have HR0_3 := Aside0.mk hr0_3
 have HC0_3 := Aside0.mk hc0_3
 clear hr0_3 hc0_3
 have HB := Aside0.mk (Below.refl w.heap.size w)
 have H : (spec_l10Look.l0 k a1 l0_0 l0_1 l0_2 l0_3 a2_0 a2_1) = some (r1, r2, r3) := h
 clear h
 have H' := Aside0.mk H
 clear H
 go_enter Tryd.func45, Tryd.ntmps45
 go_wp2_with (first | ((with_reducible refine gate_dst (N := 3) rfl ?_); refine box_event ?hg (N := 3) ?hd (cs := #[.slice A0_0 l0_0.length c0_0, .slice A0_1 l0_1.length c0_1, .slice A0_2 l0_2.length c0_2, .slice A0_3 l0_3.length c0_3]) (t := 29) ?hr ?_; (case hd => rfl); (case hg => rfl); (case hr => exact vz); intro gb309 hg w4 hbox hb; have BK309 := Aside0.mk (hbox); have GW309 := Aside0.mk ((by rw [hg]; exact (below_size (bz0 HB.out)) : w.heap.size <= gb309)); have GE309 := GW309; replace HB := Aside0.mk (below_step (bz0 HB.out) hb); clear hb hbox hg) | ((with_reducible refine gate_dst (N := 5) rfl ?_); refine box_event ?hg (N := 5) ?hd (cs := #[.int .i64 a2_0, .int .i64 a2_1]) (t := 31) ?hr ?_; (case hd => rfl); (case hg => rfl); (case hr => exact vz); intro gb310 hg w5 hbox hb; have BK310 := Aside0.mk (hbox); have GW310 := Aside0.mk ((by rw [hg]; exact (below_size (bz1 HB.out GE309.out)) : w.heap.size <= gb310)); have GE310 := GW310; replace HB := Aside0.mk (below_step (bz1 HB.out GE309.out) hb); have NB309_310 := Aside0.mk ((by rw [hg]; exact Nat.ne_of_lt (blk_lt (kz BK309.out)) : gb309 ≠ gb310)); have NB310_309 := Aside0.mk ((by rw [hg]; exact Nat.ne_of_gt (blk_lt (kz BK309.out)) : gb310 ≠ gb309)); replace BK309 := Aside0.mk (blk_below (kz BK309.out) hb); clear hb hbox hg) | ((with_reducible refine gate_dst (N := 6) rfl ?_); refine box_event ?hg (N := 6) ?hd (cs := #[.int .i64 0, .int .i64 0]) (t := 35) ?hr ?_; (case hd => rfl); (case hg => rfl); (case hr => exact vz); intro gb311 hg w6 hbox hb; have BK311 := Aside0.mk (hbox); have GW311 := Aside0.mk ((by rw [hg]; exact (below_size (bz2 HB.out GE309.out GE310.out)) : w.heap.size <= gb311)); have GE311 := GW311; replace HB := Aside0.mk (below_step (bz2 HB.out GE309.out GE310.out) hb); have NB309_311 := Aside0.mk ((by rw [hg]; exact Nat.ne_of_lt (blk_lt (kz BK309.out)) : gb309 ≠ gb311)); have NB311_309 := Aside0.mk ((by rw [hg]; exact Nat.ne_of_gt (blk_lt (kz BK309.out)) : gb311 ≠ gb309)); replace BK309 := Aside0.mk (blk_below (kz BK309.out) hb); have NB310_311 := Aside0.mk ((by rw [hg]; exact Nat.ne_of_lt (blk_lt (kz BK310.out)) : gb310 ≠ gb311)); have NB311_310 := Aside0.mk ((by rw [hg]; exact Nat.ne_of_gt (blk_lt (kz BK310.out)) : gb311 ≠ gb310)); replace BK310 := Aside0.mk (blk_below (kz BK310.out) hb); clear hb hbox hg))
 (try simp only [Act.put, sz1, sz2, sz3])
 go_loopg [1] k (fun kq v1 w' => ∃ (x1_1 : Int) (x312000_1 : Int) (x312001_1 : Int), v1 = .int .i64 x1_1 /\ Aside0 (spec_l10Look.l0 kq x1_1 l0_0 l0_1 l0_2 l0_3 a2_0 a2_1 = some (r1, r2, r3)) /\ Aside0 (kq <= k) /\ Aside0 (w'.heap[gb309]? = some (.cells #[(.slice A0_0 l0_0.length c0_0), (.slice A0_1 l0_1.length c0_1), (.slice A0_2 l0_2.length c0_2), (.slice A0_3 l0_3.length c0_3)] 29 (0, 0))) /\ Aside0 (w'.heap[gb310]? = some (.cells #[.int .i64 a2_0, .int .i64 a2_1] 31 (0, 0))) /\ Aside0 (w'.heap[gb311]? = some (.cells #[.int .i64 x312000_1, .int .i64 x312001_1] 35 (0, 0))) /\ Aside0 (Below w.heap.size w w'))
 case atStart => exact ⟨(a1), (0), (0), ez, H', ⟨Nat.le_refl _⟩, ⟨by refine kq ?_; exact BK309.out⟩, ⟨by refine kq ?_; exact BK310.out⟩, ⟨by refine kq ?_; exact BK311.out⟩, ⟨(bz3 HB.out GE309.out GE310.out GE311.out)⟩⟩
 case round =>
  clear H'
  try clear p2
  try clear c4
  obtain ⟨x1_1, x312000_1, x312001_1, rfl, HA, HK1, BK309, BK310, BK311, HB⟩ := hrel
  cases gk with
  | zero => exact absurd HA.out (by simp [spec_l10Look.l0])
  | succ k1 =>
   have H := HA.out
   clear HA
   simp only [spec_l10Look.l0] at H
   by_cases c7 : x1_1 ≥ 0
   ·rw [if_pos c7] at H
    have c7b0 : decide (0 <= x1_1) = true := decide_eq_true c7
    clear c7
    replace H := iz H
    obtain ⟨c8, H⟩ := H
    have c8b0 := decide_eq_true c8
    clear c8
    replace H := iz H
    obtain ⟨c9, H⟩ := H
    have c9b0 := decide_eq_true c9
    clear c9
    by_cases c10 : ((rd_T41 l0_0 x1_1).f0) = a2_0
    ·rw [if_pos c10] at H
     have c10b0 : (((rd_T41 l0_0 x1_1).f0) == a2_0) = true := beq_iff_eq.mpr c10
     have c10b1 : (((rd_T41 l0_0 x1_1).f0) != a2_0) = false := bne_eq_false_iff_eq.mpr c10
     clear c10
     by_cases c11 : ((rd_T41 l0_0 x1_1).f1) = a2_1
     ·rw [if_pos c11] at H
      have c11b0 : (((rd_T41 l0_0 x1_1).f1) == a2_1) = true := beq_iff_eq.mpr c11
      have c11b1 : (((rd_T41 l0_0 x1_1).f1) != a2_1) = false := bne_eq_false_iff_eq.mpr c11
      clear c11
      simp only [Option.some.injEq, Prod.mk.injEq] at H
      obtain ⟨rfl, rfl, rfl⟩ := H
      have hnb12 := NB309_310.out
      have hnc12 := NB310_309.out
      have hnb13 := NB309_311.out
      have hnc13 := NB311_309.out
      obtain ⟨hcz14_0, hcz14_1, hcz14_2, hcz14_3⟩ := cz4 BK309.out
      obtain ⟨hfz14_0, hfz14_1, hfz14_2, hfz14_3⟩ := fz4 BK309.out
      have p312 : 0 <= (x1_1 : Int) := oz
      have q312 : x1_1 < (l0_0.length : Int) := oz
      obtain ⟨ad312, e312, hx312_0, hx312_1, hx312_2, hx312_3, hx312_4⟩ := at_T41 HR0_0.out x1_1 p312 q312
      cases e312
      replace hx312_0 := hz HB.out hx312_0
      replace hx312_1 := hz HB.out hx312_1
      replace hx312_2 := hz HB.out hx312_2
      replace hx312_3 := hz HB.out hx312_3
      replace hx312_4 := hz HB.out hx312_4
      replace p312 := eq_true p312
      replace q312 := eq_true q312
      go_wp2_with (first | ((with_reducible refine gate_dst (N := 8) rfl ?_); refine box_event ?hg (N := 8) ?hd (cs := #[.int .i64 0, .int .i64 0, .int .i64 0, .int .i64 0, .int .i64 0]) (t := 41) ?hr ?_; (case hd => rfl); (case hg => rfl); (case hr => exact vz); intro gb313 hg w15 hbox hb; have BK313 := Aside0.mk (hbox); have GW313 := Aside0.mk ((by rw [hg]; exact (below_size (bz3 HB.out GE309.out GE310.out GE311.out)) : w.heap.size <= gb313)); have GE313 := GW313; replace HB := Aside0.mk (below_step (bz3 HB.out GE309.out GE310.out GE311.out) hb); have NB309_313 := Aside0.mk ((by rw [hg]; exact Nat.ne_of_lt (blk_lt (kz BK309.out)) : gb309 ≠ gb313)); have NB313_309 := Aside0.mk ((by rw [hg]; exact Nat.ne_of_gt (blk_lt (kz BK309.out)) : gb313 ≠ gb309)); replace BK309 := Aside0.mk (blk_below (kz BK309.out) hb); have NB310_313 := Aside0.mk ((by rw [hg]; exact Nat.ne_of_lt (blk_lt (kz BK310.out)) : gb310 ≠ gb313)); have NB313_310 := Aside0.mk ((by rw [hg]; exact Nat.ne_of_gt (blk_lt (kz BK310.out)) : gb313 ≠ gb310)); replace BK310 := Aside0.mk (blk_below (kz BK310.out) hb); have NB311_313 := Aside0.mk ((by rw [hg]; exact Nat.ne_of_lt (blk_lt (kz BK311.out)) : gb311 ≠ gb313)); have NB313_311 := Aside0.mk ((by rw [hg]; exact Nat.ne_of_gt (blk_lt (kz BK311.out)) : gb313 ≠ gb311)); replace BK311 := Aside0.mk (blk_below (kz BK311.out) hb); clear hb hbox hg; have hnb16 := NB313_309.out; have hnc16 := NB309_313.out; have hnb17 := NB313_310.out; have hnc17 := NB310_313.out; have hnb18 := NB313_311.out; have hnc18 := NB311_313.out; obtain ⟨hcz19_0, hcz19_1, hcz19_2, hcz19_3, hcz19_4⟩ := cz5 BK313.out; obtain ⟨hfz19_0, hfz19_1, hfz19_2, hfz19_3, hfz19_4⟩ := fz5 BK313.out; have hnb20 := NB310_311.out; have hnc20 := NB311_310.out; obtain ⟨hcz21_0, hcz21_1⟩ := cz2 BK310.out; obtain ⟨hfz21_0, hfz21_1⟩ := fz2 BK310.out; obtain ⟨hcz22_0, hcz22_1⟩ := cz2 BK311.out; obtain ⟨hfz22_0, hfz22_1⟩ := fz2 BK311.out))
      refine bodyPost_ret (results_ct rfl _ _ gb311 35 #[.int .i64 ((rd_T41 l0_0 x1_1).f2.f0), .int .i64 ((rd_T41 l0_0 x1_1).f2.f1)] (0, 0) _ rfl (by refine kq ?_; refine blk_put (cs := #[.int .i64 ((rd_T41 l0_0 x1_1).f2.f0), .int .i64 x312001_1]) ?_ 1 _ rfl; refine kq ?_; refine blk_put (cs := #[.int .i64 x312000_1, .int .i64 x312001_1]) ?_ 0 _ rfl; refine kq ?_; refine blk_far ?_ NB311_313.out _; refine kq ?_; refine blk_far ?_ NB311_313.out _; refine kq ?_; refine blk_far ?_ NB311_313.out _; refine kq ?_; refine blk_far ?_ NB311_313.out _; refine kq ?_; refine blk_far ?_ NB311_313.out _; refine kq ?_; exact BK311.out) Tryd.underlying35 rfl (by kernel_rfl)) rfl ?_
      exact ⟨gz, (bz4 HB.out GE309.out GE310.out GE311.out GE313.out)⟩
     ·rw [if_neg c11] at H
      have c11b0 : (((rd_T41 l0_0 x1_1).f1) == a2_1) = false := beq_eq_false_iff_ne.mpr c11
      have c11b1 : (((rd_T41 l0_0 x1_1).f1) != a2_1) = true := bne_iff_ne.mpr c11
      have H' := Aside0.mk H
      clear H
      have hnb23 := NB309_310.out
      have hnc23 := NB310_309.out
      have hnb24 := NB309_311.out
      have hnc24 := NB311_309.out
      obtain ⟨hcz25_0, hcz25_1, hcz25_2, hcz25_3⟩ := cz4 BK309.out
      obtain ⟨hfz25_0, hfz25_1, hfz25_2, hfz25_3⟩ := fz4 BK309.out
      have p312 : 0 <= (x1_1 : Int) := oz
      have q312 : x1_1 < (l0_0.length : Int) := oz
      obtain ⟨ad312, e312, hx312_0, hx312_1, hx312_2, hx312_3, hx312_4⟩ := at_T41 HR0_0.out x1_1 p312 q312
      cases e312
      replace hx312_0 := hz HB.out hx312_0
      replace hx312_1 := hz HB.out hx312_1
      replace hx312_2 := hz HB.out hx312_2
      replace hx312_3 := hz HB.out hx312_3
      replace hx312_4 := hz HB.out hx312_4
      replace p312 := eq_true p312
      replace q312 := eq_true q312
      go_wp2_with (first | ((with_reducible refine gate_dst (N := 8) rfl ?_); refine box_event ?hg (N := 8) ?hd (cs := #[.int .i64 0, .int .i64 0, .int .i64 0, .int .i64 0, .int .i64 0]) (t := 41) ?hr ?_; (case hd => rfl); (case hg => rfl); (case hr => exact vz); intro gb313 hg w26 hbox hb; have BK313 := Aside0.mk (hbox); have GW313 := Aside0.mk ((by rw [hg]; exact (below_size (bz3 HB.out GE309.out GE310.out GE311.out)) : w.heap.size <= gb313)); have GE313 := GW313; replace HB := Aside0.mk (below_step (bz3 HB.out GE309.out GE310.out GE311.out) hb); have NB309_313 := Aside0.mk ((by rw [hg]; exact Nat.ne_of_lt (blk_lt (kz BK309.out)) : gb309 ≠ gb313)); have NB313_309 := Aside0.mk ((by rw [hg]; exact Nat.ne_of_gt (blk_lt (kz BK309.out)) : gb313 ≠ gb309)); replace BK309 := Aside0.mk (blk_below (kz BK309.out) hb); have NB310_313 := Aside0.mk ((by rw [hg]; exact Nat.ne_of_lt (blk_lt (kz BK310.out)) : gb310 ≠ gb313)); have NB313_310 := Aside0.mk ((by rw [hg]; exact Nat.ne_of_gt (blk_lt (kz BK310.out)) : gb313 ≠ gb310)); replace BK310 := Aside0.mk (blk_below (kz BK310.out) hb); have NB311_313 := Aside0.mk ((by rw [hg]; exact Nat.ne_of_lt (blk_lt (kz BK311.out)) : gb311 ≠ gb313)); have NB313_311 := Aside0.mk ((by rw [hg]; exact Nat.ne_of_gt (blk_lt (kz BK311.out)) : gb313 ≠ gb311)); replace BK311 := Aside0.mk (blk_below (kz BK311.out) hb); clear hb hbox hg; have hnb27 := NB313_309.out; have hnc27 := NB309_313.out; have hnb28 := NB313_310.out; have hnc28 := NB310_313.out; have hnb29 := NB313_311.out; have hnc29 := NB311_313.out; obtain ⟨hcz30_0, hcz30_1, hcz30_2, hcz30_3, hcz30_4⟩ := cz5 BK313.out; obtain ⟨hfz30_0, hfz30_1, hfz30_2, hfz30_3, hfz30_4⟩ := fz5 BK313.out; have hnb31 := NB310_311.out; have hnc31 := NB311_310.out; obtain ⟨hcz32_0, hcz32_1⟩ := cz2 BK310.out; obtain ⟨hfz32_0, hfz32_1⟩ := fz2 BK310.out))
      go_roundg k1
      case measure => have := HK1.out; omega
      case rel => exact ⟨((rd_T41 l0_0 x1_1).f3), (x312000_1), (x312001_1), ez, H', ⟨by have := HK1.out; omega⟩, ⟨by refine kq ?_; refine blk_far ?_ NB309_313.out _; refine kq ?_; refine blk_far ?_ NB309_313.out _; refine kq ?_; refine blk_far ?_ NB309_313.out _; refine kq ?_; refine blk_far ?_ NB309_313.out _; refine kq ?_; refine blk_far ?_ NB309_313.out _; refine kq ?_; exact BK309.out⟩, ⟨by refine kq ?_; refine blk_far ?_ NB310_313.out _; refine kq ?_; refine blk_far ?_ NB310_313.out _; refine kq ?_; refine blk_far ?_ NB310_313.out _; refine kq ?_; refine blk_far ?_ NB310_313.out _; refine kq ?_; refine blk_far ?_ NB310_313.out _; refine kq ?_; exact BK310.out⟩, ⟨by refine kq ?_; refine blk_far ?_ NB311_313.out _; refine kq ?_; refine blk_far ?_ NB311_313.out _; refine kq ?_; refine blk_far ?_ NB311_313.out _; refine kq ?_; refine blk_far ?_ NB311_313.out _; refine kq ?_; refine blk_far ?_ NB311_313.out _; refine kq ?_; exact BK311.out⟩, ⟨(bz4 HB.out GE309.out GE310.out GE311.out GE313.out)⟩⟩
    ·rw [if_neg c10] at H
     have c10b0 : (((rd_T41 l0_0 x1_1).f0) == a2_0) = false := beq_eq_false_iff_ne.mpr c10
     have c10b1 : (((rd_T41 l0_0 x1_1).f0) != a2_0) = true := bne_iff_ne.mpr c10
     have H' := Aside0.mk H
     clear H
     have hnb33 := NB309_310.out
     have hnc33 := NB310_309.out
     have hnb34 := NB309_311.out
     have hnc34 := NB311_309.out
     obtain ⟨hcz35_0, hcz35_1, hcz35_2, hcz35_3⟩ := cz4 BK309.out
     obtain ⟨hfz35_0, hfz35_1, hfz35_2, hfz35_3⟩ := fz4 BK309.out
     have p312 : 0 <= (x1_1 : Int) := oz
     have q312 : x1_1 < (l0_0.length : Int) := oz
     obtain ⟨ad312, e312, hx312_0, hx312_1, hx312_2, hx312_3, hx312_4⟩ := at_T41 HR0_0.out x1_1 p312 q312
     cases e312
     replace hx312_0 := hz HB.out hx312_0
     replace hx312_1 := hz HB.out hx312_1
     replace hx312_2 := hz HB.out hx312_2
     replace hx312_3 := hz HB.out hx312_3
     replace hx312_4 := hz HB.out hx312_4
     replace p312 := eq_true p312
     replace q312 := eq_true q312
     go_wp2_with (first | ((with_reducible refine gate_dst (N := 8) rfl ?_); refine box_event ?hg (N := 8) ?hd (cs := #[.int .i64 0, .int .i64 0, .int .i64 0, .int .i64 0, .int .i64 0]) (t := 41) ?hr ?_; (case hd => rfl); (case hg => rfl); (case hr => exact vz); intro gb313 hg w36 hbox hb; have BK313 := Aside0.mk (hbox); have GW313 := Aside0.mk ((by rw [hg]; exact (below_size (bz3 HB.out GE309.out GE310.out GE311.out)) : w.heap.size <= gb313)); have GE313 := GW313; replace HB := Aside0.mk (below_step (bz3 HB.out GE309.out GE310.out GE311.out) hb); have NB309_313 := Aside0.mk ((by rw [hg]; exact Nat.ne_of_lt (blk_lt (kz BK309.out)) : gb309 ≠ gb313)); have NB313_309 := Aside0.mk ((by rw [hg]; exact Nat.ne_of_gt (blk_lt (kz BK309.out)) : gb313 ≠ gb309)); replace BK309 := Aside0.mk (blk_below (kz BK309.out) hb); have NB310_313 := Aside0.mk ((by rw [hg]; exact Nat.ne_of_lt (blk_lt (kz BK310.out)) : gb310 ≠ gb313)); have NB313_310 := Aside0.mk ((by rw [hg]; exact Nat.ne_of_gt (blk_lt (kz BK310.out)) : gb313 ≠ gb310)); replace BK310 := Aside0.mk (blk_below (kz BK310.out) hb); have NB311_313 := Aside0.mk ((by rw [hg]; exact Nat.ne_of_lt (blk_lt (kz BK311.out)) : gb311 ≠ gb313)); have NB313_311 := Aside0.mk ((by rw [hg]; exact Nat.ne_of_gt (blk_lt (kz BK311.out)) : gb313 ≠ gb311)); replace BK311 := Aside0.mk (blk_below (kz BK311.out) hb); clear hb hbox hg; have hnb37 := NB313_309.out; have hnc37 := NB309_313.out; have hnb38 := NB313_310.out; have hnc38 := NB310_313.out; have hnb39 := NB313_311.out; have hnc39 := NB311_313.out; obtain ⟨hcz40_0, hcz40_1, hcz40_2, hcz40_3, hcz40_4⟩ := cz5 BK313.out; obtain ⟨hfz40_0, hfz40_1, hfz40_2, hfz40_3, hfz40_4⟩ := fz5 BK313.out; have hnb41 := NB310_311.out; have hnc41 := NB311_310.out; obtain ⟨hcz42_0, hcz42_1⟩ := cz2 BK310.out; obtain ⟨hfz42_0, hfz42_1⟩ := fz2 BK310.out))
     go_roundg k1
     case measure => have := HK1.out; omega
     case rel => exact ⟨((rd_T41 l0_0 x1_1).f3), (x312000_1), (x312001_1), ez, H', ⟨by have := HK1.out; omega⟩, ⟨by refine kq ?_; refine blk_far ?_ NB309_313.out _; refine kq ?_; refine blk_far ?_ NB309_313.out _; refine kq ?_; refine blk_far ?_ NB309_313.out _; refine kq ?_; refine blk_far ?_ NB309_313.out _; refine kq ?_; refine blk_far ?_ NB309_313.out _; refine kq ?_; exact BK309.out⟩, ⟨by refine kq ?_; refine blk_far ?_ NB310_313.out _; refine kq ?_; refine blk_far ?_ NB310_313.out _; refine kq ?_; refine blk_far ?_ NB310_313.out _; refine kq ?_; refine blk_far ?_ NB310_313.out _; refine kq ?_; refine blk_far ?_ NB310_313.out _; refine kq ?_; exact BK310.out⟩, ⟨by refine kq ?_; refine blk_far ?_ NB311_313.out _; refine kq ?_; refine blk_far ?_ NB311_313.out _; refine kq ?_; refine blk_far ?_ NB311_313.out _; refine kq ?_; refine blk_far ?_ NB311_313.out _; refine kq ?_; refine blk_far ?_ NB311_313.out _; refine kq ?_; exact BK311.out⟩, ⟨(bz4 HB.out GE309.out GE310.out GE311.out GE313.out)⟩⟩
   ·rw [if_neg c7] at H
    have c7b0 : decide (0 <= x1_1) = false := decide_eq_false c7
    clear c7
    simp only [Option.some.injEq, Prod.mk.injEq] at H
    obtain ⟨rfl, rfl, rfl⟩ := H
    have hnb43 := NB311_309.out
    have hnc43 := NB309_311.out
    have hnb44 := NB311_310.out
    have hnc44 := NB310_311.out
    obtain ⟨hcz45_0, hcz45_1⟩ := cz2 BK311.out
    obtain ⟨hfz45_0, hfz45_1⟩ := fz2 BK311.out
    go_wp2
    refine bodyPost_ret (results_ct rfl _ _ gb311 35 #[.int .i64 0, .int .i64 0] (0, 0) _ rfl (by refine kq ?_; refine blk_put (cs := #[.int .i64 0, .int .i64 x312001_1]) ?_ 1 _ rfl; refine kq ?_; refine blk_put (cs := #[.int .i64 x312000_1, .int .i64 x312001_1]) ?_ 0 _ rfl; refine kq ?_; exact BK311.out) Tryd.underlying35 rfl (by kernel_rfl)) rfl ?_
    exact ⟨gz, (bz3 HB.out GE309.out GE310.out GE311.out)⟩
def spec_LookUp.f (k : Nat) (l0_0 : List (S41)) (l0_1 : List (S86)) (l0_2 : List (S47)) (l0_3 : List (S35)) (a1 : Int) (a2_0 : Int) (a2_1 : Int) : Option (Int × Int × Bool) := (spec_HeapOk.f k l0_0 l0_1 l0_2 l0_3).bind fun t317 => (if t317 = true then ((spec_l1In.f a1 (-1) (wrap64 ((l0_0.length : Int) - 1))).bind fun t318 => (if t318 = true then ((spec_l10Look.f k l0_0 l0_1 l0_2 l0_3 a1 a2_0 a2_1).bind fun bt319 => (some (bt319.1, bt319.2.1, bt319.2.2))) else (some (0, 0, false)))) else (some (0, 0, false)))
theorem spec_LookUp.mono : ∀ a0 a1 a2 a3 a4 a5 a6 k, LeO (spec_LookUp.f k a0 a1 a2 a3 a4 a5 a6) (spec_LookUp.f (k + 1) a0 a1 a2 a3 a4 a5 a6) := by
 intro a0 a1 a2 a3 a4 a5 a6 k
 unfold spec_LookUp.f
 with_reducible repeat' first | exact spec_HeapOk.mono _ _ _ _ _ | exact spec_l10Look.mono _ _ _ _ _ _ _ _ | exact lrz _ | exact lnz _ | refine liz ?_ ?_ | refine lbz ?_ fun _ => ?_
set_option maxHeartbeats 80000000 in
set_option maxRecDepth 100000 in
theorem spec_LookUp.calls (k : Nat) (A0_0 : Option Addr) (c0_0 : Nat) (l0_0 : List (S41)) (A0_1 : Option Addr) (c0_1 : Nat) (l0_1 : List (S86)) (A0_2 : Option Addr) (c0_2 : Nat) (l0_2 : List (S47)) (A0_3 : Option Addr) (c0_3 : Nat) (l0_3 : List (S35)) (a1 : Int) (a2_0 : Int) (a2_1 : Int) (r1 : Int) (r2 : Int) (r3 : Bool) (w : World) (hr0_0 : Kd.C k41 w A0_0 l0_0.length l0_0) (hc0_0 : l0_0.length <= c0_0) (hr0_1 : Kd.C k86 w A0_1 l0_1.length l0_1) (hc0_1 : l0_1.length <= c0_1) (hr0_2 : Kd.C k47 w A0_2 l0_2.length l0_2) (hc0_2 : l0_2.length <= c0_2) (hr0_3 : Kd.C k35 w A0_3 l0_3.length l0_3) (hc0_3 : l0_3.length <= c0_3) (h : spec_LookUp.f k l0_0 l0_1 l0_2 l0_3 a1 a2_0 a2_1 = some (r1, r2, r3)) :
  Calls Tryd.prog 12 #[.agg #[.slice A0_0 l0_0.length c0_0, .slice A0_1 l0_1.length c0_1, .slice A0_2 l0_2.length c0_2, .slice A0_3 l0_3.length c0_3], .int .i64 a1, .agg #[.int .i64 a2_0, .int .i64 a2_1]] w fun e w' => e = .returned (.tuple #[.agg #[.int .i64 r1, .int .i64 r2], .bool r3]) /\ Below w.heap.size w w' := by
 have hu29 := Tryd.underlying29
 have hu31 := Tryd.underlying31
 have hu35 := Tryd.underlying35
 have HR0_0 := Aside0.mk hr0_0
 have HC0_0 := Aside0.mk hc0_0
 clear hr0_0 hc0_0
 have HR0_1 := Aside0.mk hr0_1
 have HC0_1 := Aside0.mk hc0_1
 clear hr0_1 hc0_1
 have HR0_2 := Aside0.mk hr0_2
 have HC0_2 := Aside0.mk hc0_2
 clear hr0_2 hc0_2
 have HR0_3 := Aside0.mk hr0_3
 have HC0_3 := Aside0.mk hc0_3
 clear hr0_3 hc0_3
 have HB := Aside0.mk (Below.refl w.heap.size w)
 have H : ((spec_HeapOk.f k l0_0 l0_1 l0_2 l0_3).bind fun t317 => (if t317 = true then ((spec_l1In.f a1 (-1) (wrap64 ((l0_0.length : Int) - 1))).bind fun t318 => (if t318 = true then ((spec_l10Look.f k l0_0 l0_1 l0_2 l0_3 a1 a2_0 a2_1).bind fun bt319 => (some (bt319.1, bt319.2.1, bt319.2.2))) else (some (0, 0, false)))) else (some (0, 0, false)))) = some (r1, r2, r3) := h
 clear h
 replace H := bi H
 obtain ⟨t317, A40, H⟩ := H
 try dsimp only at H
 have A4 := Aside0.mk A40
 clear A40
 by_cases c5 : t317 = true
 ·subst c5
  have H1 := hp H
  clear H
  have H := H1
  clear H1
  replace H := bi H
  obtain ⟨t318, A60, H⟩ := H
  try dsimp only at H
  have A6 := Aside0.mk A60
  clear A60
  by_cases c7 : t318 = true
  ·subst c7
   have H1 := hp H
   clear H
   have H := H1
   clear H1
   replace H := bi H
   obtain ⟨⟨t319, t320, t321⟩, A80, H⟩ := H
   try dsimp only at H
   have A8 := Aside0.mk A80
   clear A80
   simp only [Option.some.injEq, Prod.mk.injEq] at H
   obtain ⟨rfl, rfl, rfl⟩ := H
   go_enter Tryd.func12, Tryd.ntmps12
   go_wp2_with (first | ((with_reducible refine gate_dst (N := 3) rfl ?_); (try (refine gate_guard (by rfl) ?_; dsimp only)); refine box_event ?hg (N := 3) ?hd (cs := #[.slice A0_0 l0_0.length c0_0, .slice A0_1 l0_1.length c0_1, .slice A0_2 l0_2.length c0_2, .slice A0_3 l0_3.length c0_3]) (t := 29) ?hr ?_; (case hd => rfl); (case hg => rfl); (case hr => exact vz); intro gb314 hg w9 hbox hb; have BK314 := Aside0.mk (hbox); have GW314 := Aside0.mk ((by rw [hg]; exact (below_size (bz0 HB.out)) : w.heap.size <= gb314)); have GE314 := GW314; replace HB := Aside0.mk (below_step (bz0 HB.out) hb); clear hb hbox hg) | ((with_reducible refine gate_dst (N := 5) rfl ?_); (try (refine gate_guard (by rfl) ?_; dsimp only)); refine box_event ?hg (N := 5) ?hd (cs := #[.int .i64 a2_0, .int .i64 a2_1]) (t := 31) ?hr ?_; (case hd => rfl); (case hg => rfl); (case hr => exact vz); intro gb315 hg w10 hbox hb; have BK315 := Aside0.mk (hbox); have GW315 := Aside0.mk ((by rw [hg]; exact (below_size (bz1 HB.out GE314.out)) : w.heap.size <= gb315)); have GE315 := GW315; replace HB := Aside0.mk (below_step (bz1 HB.out GE314.out) hb); have NB314_315 := Aside0.mk ((by rw [hg]; exact Nat.ne_of_lt (blk_lt (kz BK314.out)) : gb314 ≠ gb315)); have NB315_314 := Aside0.mk ((by rw [hg]; exact Nat.ne_of_gt (blk_lt (kz BK314.out)) : gb315 ≠ gb314)); replace BK314 := Aside0.mk (blk_below (kz BK314.out) hb); clear hb hbox hg) | ((with_reducible refine gate_dst (N := 6) rfl ?_); (try (refine gate_guard (by rfl) ?_; dsimp only)); refine box_event ?hg (N := 6) ?hd (cs := #[.int .i64 0, .int .i64 0]) (t := 35) ?hr ?_; (case hd => rfl); (case hg => rfl); (case hr => exact vz); intro gb316 hg w11 hbox hb; have BK316 := Aside0.mk (hbox); have GW316 := Aside0.mk ((by rw [hg]; exact (below_size (bz2 HB.out GE314.out GE315.out)) : w.heap.size <= gb316)); have GE316 := GW316; replace HB := Aside0.mk (below_step (bz2 HB.out GE314.out GE315.out) hb); have NB314_316 := Aside0.mk ((by rw [hg]; exact Nat.ne_of_lt (blk_lt (kz BK314.out)) : gb314 ≠ gb316)); have NB316_314 := Aside0.mk ((by rw [hg]; exact Nat.ne_of_gt (blk_lt (kz BK314.out)) : gb316 ≠ gb314)); replace BK314 := Aside0.mk (blk_below (kz BK314.out) hb); have NB315_316 := Aside0.mk ((by rw [hg]; exact Nat.ne_of_lt (blk_lt (kz BK315.out)) : gb315 ≠ gb316)); have NB316_315 := Aside0.mk ((by rw [hg]; exact Nat.ne_of_gt (blk_lt (kz BK315.out)) : gb316 ≠ gb315)); replace BK315 := Aside0.mk (blk_below (kz BK315.out) hb); clear hb hbox hg; have hnb12 := NB314_315.out; have hnc12 := NB315_314.out; have hnb13 := NB314_316.out; have hnc13 := NB316_314.out; obtain ⟨hcz14_0, hcz14_1, hcz14_2, hcz14_3⟩ := cz4 BK314.out; obtain ⟨hfz14_0, hfz14_1, hfz14_2, hfz14_3⟩ := fz4 BK314.out) | ((with_reducible refine gate_callee (f := 14) rfl ?_); refine goesL_ (some 9) rfl rfl Tryd.func14 (by kernel_rfl) rfl #[.agg #[.slice A0_0 l0_0.length c0_0, .slice A0_1 l0_1.length c0_1, .slice A0_2 l0_2.length c0_2, .slice A0_3 l0_3.length c0_3]] rfl lz ?_; (with_reducible refine (spec_HeapOk.calls k _ _ l0_0 _ _ l0_1 _ _ l0_2 _ _ l0_3 true _ ?side1 ?side2 ?side3 ?side4 ?side5 ?side6 ?side7 ?side8 A4.out).mono ?_); (case side1 => exact cz (Kd.C_below HR0_0.out HB.out)); (case side2 => exact HC0_0.out); (case side3 => exact cz (Kd.C_below HR0_1.out HB.out)); (case side4 => exact HC0_1.out); (case side5 => exact cz (Kd.C_below HR0_2.out HB.out)); (case side6 => exact HC0_2.out); (case side7 => exact cz (Kd.C_below HR0_3.out HB.out)); (case side8 => exact HC0_3.out); rintro e w15 ⟨rfl, hb⟩; refine ⟨_, rfl, ?_⟩; replace BK314 := Aside0.mk (blk_below (kz BK314.out) hb); replace BK315 := Aside0.mk (blk_below (kz BK315.out) hb); replace BK316 := Aside0.mk (blk_below (kz BK316.out) hb); replace HB := Aside0.mk (below_step (bz3 HB.out GE314.out GE315.out GE316.out) hb); (try clear hb); obtain ⟨hcz16_0, hcz16_1, hcz16_2, hcz16_3⟩ := cz4 BK314.out; obtain ⟨hfz16_0, hfz16_1, hfz16_2, hfz16_3⟩ := fz4 BK314.out) | (go_at_call 44; (with_reducible refine (spec_l1In.calls a1 (-1) (wrap64 ((l0_0.length : Int) - 1)) true _ A6.out).mono ?_); rintro e w' ⟨rfl, ⟨nd, rfl⟩⟩; have hnb17 := NB315_316.out; have hnc17 := NB316_315.out; obtain ⟨hcz18_0, hcz18_1⟩ := cz2 BK315.out; obtain ⟨hfz18_0, hfz18_1⟩ := fz2 BK315.out) | ((with_reducible refine gate_callee (f := 45) rfl ?_); refine goesL_ (some 24) rfl rfl Tryd.func45 (by kernel_rfl) rfl #[.agg #[.slice A0_0 l0_0.length c0_0, .slice A0_1 l0_1.length c0_1, .slice A0_2 l0_2.length c0_2, .slice A0_3 l0_3.length c0_3], .int .i64 a1, .agg #[.int .i64 a2_0, .int .i64 a2_1]] rfl lz ?_; (with_reducible refine (spec_l10Look.calls k _ _ l0_0 _ _ l0_1 _ _ l0_2 _ _ l0_3 a1 a2_0 a2_1 t319 t320 t321 _ ?side1 ?side2 ?side3 ?side4 ?side5 ?side6 ?side7 ?side8 A8.out).mono ?_); (case side1 => exact cz (Kd.C_below HR0_0.out HB.out)); (case side2 => exact HC0_0.out); (case side3 => exact cz (Kd.C_below HR0_1.out HB.out)); (case side4 => exact HC0_1.out); (case side5 => exact cz (Kd.C_below HR0_2.out HB.out)); (case side6 => exact HC0_2.out); (case side7 => exact cz (Kd.C_below HR0_3.out HB.out)); (case side8 => exact HC0_3.out); rintro e w19 ⟨rfl, hb⟩; refine ⟨_, rfl, ?_⟩; replace BK314 := Aside0.mk (blk_below (kz BK314.out) hb); replace BK315 := Aside0.mk (blk_below (kz BK315.out) hb); replace BK316 := Aside0.mk (blk_below (kz BK316.out) hb); replace HB := Aside0.mk (below_step (bz3 HB.out GE314.out GE315.out GE316.out) hb); (try clear hb); obtain ⟨hcz20_0, hcz20_1⟩ := cz2 BK316.out; obtain ⟨hfz20_0, hfz20_1⟩ := fz2 BK316.out))
   refine bodyPost_ret (results_ct rfl _ _ gb316 35 #[.int .i64 t319, .int .i64 t320] (0, 0) _ rfl (by refine kq ?_; refine blk_put (cs := #[.int .i64 t319, .int .i64 0]) ?_ 1 _ rfl; refine kq ?_; refine blk_put (cs := #[.int .i64 0, .int .i64 0]) ?_ 0 _ rfl; refine kq ?_; exact BK316.out) Tryd.underlying35 rfl (by kernel_rfl)) rfl ?_
   exact ⟨gz, (bz3 HB.out GE314.out GE315.out GE316.out)⟩
  ·replace c7 := Bool.eq_false_iff.mpr c7
   subst c7
   have H1 := hq H
   clear H
   have H := H1
   clear H1
   simp only [Option.some.injEq, Prod.mk.injEq] at H
   obtain ⟨rfl, rfl, rfl⟩ := H
   go_enter Tryd.func12, Tryd.ntmps12
   go_wp2_with (first | ((with_reducible refine gate_dst (N := 3) rfl ?_); (try (refine gate_guard (by rfl) ?_; dsimp only)); refine box_event ?hg (N := 3) ?hd (cs := #[.slice A0_0 l0_0.length c0_0, .slice A0_1 l0_1.length c0_1, .slice A0_2 l0_2.length c0_2, .slice A0_3 l0_3.length c0_3]) (t := 29) ?hr ?_; (case hd => rfl); (case hg => rfl); (case hr => exact vz); intro gb314 hg w21 hbox hb; have BK314 := Aside0.mk (hbox); have GW314 := Aside0.mk ((by rw [hg]; exact (below_size (bz0 HB.out)) : w.heap.size <= gb314)); have GE314 := GW314; replace HB := Aside0.mk (below_step (bz0 HB.out) hb); clear hb hbox hg) | ((with_reducible refine gate_dst (N := 5) rfl ?_); (try (refine gate_guard (by rfl) ?_; dsimp only)); refine box_event ?hg (N := 5) ?hd (cs := #[.int .i64 a2_0, .int .i64 a2_1]) (t := 31) ?hr ?_; (case hd => rfl); (case hg => rfl); (case hr => exact vz); intro gb315 hg w22 hbox hb; have BK315 := Aside0.mk (hbox); have GW315 := Aside0.mk ((by rw [hg]; exact (below_size (bz1 HB.out GE314.out)) : w.heap.size <= gb315)); have GE315 := GW315; replace HB := Aside0.mk (below_step (bz1 HB.out GE314.out) hb); have NB314_315 := Aside0.mk ((by rw [hg]; exact Nat.ne_of_lt (blk_lt (kz BK314.out)) : gb314 ≠ gb315)); have NB315_314 := Aside0.mk ((by rw [hg]; exact Nat.ne_of_gt (blk_lt (kz BK314.out)) : gb315 ≠ gb314)); replace BK314 := Aside0.mk (blk_below (kz BK314.out) hb); clear hb hbox hg) | ((with_reducible refine gate_dst (N := 6) rfl ?_); (try (refine gate_guard (by rfl) ?_; dsimp only)); refine box_event ?hg (N := 6) ?hd (cs := #[.int .i64 0, .int .i64 0]) (t := 35) ?hr ?_; (case hd => rfl); (case hg => rfl); (case hr => exact vz); intro gb316 hg w23 hbox hb; have BK316 := Aside0.mk (hbox); have GW316 := Aside0.mk ((by rw [hg]; exact (below_size (bz2 HB.out GE314.out GE315.out)) : w.heap.size <= gb316)); have GE316 := GW316; replace HB := Aside0.mk (below_step (bz2 HB.out GE314.out GE315.out) hb); have NB314_316 := Aside0.mk ((by rw [hg]; exact Nat.ne_of_lt (blk_lt (kz BK314.out)) : gb314 ≠ gb316)); have NB316_314 := Aside0.mk ((by rw [hg]; exact Nat.ne_of_gt (blk_lt (kz BK314.out)) : gb316 ≠ gb314)); replace BK314 := Aside0.mk (blk_below (kz BK314.out) hb); have NB315_316 := Aside0.mk ((by rw [hg]; exact Nat.ne_of_lt (blk_lt (kz BK315.out)) : gb315 ≠ gb316)); have NB316_315 := Aside0.mk ((by rw [hg]; exact Nat.ne_of_gt (blk_lt (kz BK315.out)) : gb316 ≠ gb315)); replace BK315 := Aside0.mk (blk_below (kz BK315.out) hb); clear hb hbox hg; have hnb24 := NB314_315.out; have hnc24 := NB315_314.out; have hnb25 := NB314_316.out; have hnc25 := NB316_314.out; obtain ⟨hcz26_0, hcz26_1, hcz26_2, hcz26_3⟩ := cz4 BK314.out; obtain ⟨hfz26_0, hfz26_1, hfz26_2, hfz26_3⟩ := fz4 BK314.out) | ((with_reducible refine gate_callee (f := 14) rfl ?_); refine goesL_ (some 9) rfl rfl Tryd.func14 (by kernel_rfl) rfl #[.agg #[.slice A0_0 l0_0.length c0_0, .slice A0_1 l0_1.length c0_1, .slice A0_2 l0_2.length c0_2, .slice A0_3 l0_3.length c0_3]] rfl lz ?_; (with_reducible refine (spec_HeapOk.calls k _ _ l0_0 _ _ l0_1 _ _ l0_2 _ _ l0_3 true _ ?side1 ?side2 ?side3 ?side4 ?side5 ?side6 ?side7 ?side8 A4.out).mono ?_); (case side1 => exact cz (Kd.C_below HR0_0.out HB.out)); (case side2 => exact HC0_0.out); (case side3 => exact cz (Kd.C_below HR0_1.out HB.out)); (case side4 => exact HC0_1.out); (case side5 => exact cz (Kd.C_below HR0_2.out HB.out)); (case side6 => exact HC0_2.out); (case side7 => exact cz (Kd.C_below HR0_3.out HB.out)); (case side8 => exact HC0_3.out); rintro e w27 ⟨rfl, hb⟩; refine ⟨_, rfl, ?_⟩; replace BK314 := Aside0.mk (blk_below (kz BK314.out) hb); replace BK315 := Aside0.mk (blk_below (kz BK315.out) hb); replace BK316 := Aside0.mk (blk_below (kz BK316.out) hb); replace HB := Aside0.mk (below_step (bz3 HB.out GE314.out GE315.out GE316.out) hb); (try clear hb); obtain ⟨hcz28_0, hcz28_1, hcz28_2, hcz28_3⟩ := cz4 BK314.out; obtain ⟨hfz28_0, hfz28_1, hfz28_2, hfz28_3⟩ := fz4 BK314.out) | (go_at_call 44; (with_reducible refine (spec_l1In.calls a1 (-1) (wrap64 ((l0_0.length : Int) - 1)) false _ A6.out).mono ?_); rintro e w' ⟨rfl, ⟨nd, rfl⟩⟩; have hnb29 := NB316_315.out; have hnc29 := NB315_316.out; obtain ⟨hcz30_0, hcz30_1⟩ := cz2 BK316.out; obtain ⟨hfz30_0, hfz30_1⟩ := fz2 BK316.out))
   refine bodyPost_ret (results_ct rfl _ _ gb316 35 #[.int .i64 0, .int .i64 0] (0, 0) _ rfl (by refine kq ?_; refine blk_put (cs := #[.int .i64 0, .int .i64 0]) ?_ 1 _ rfl; refine kq ?_; refine blk_put (cs := #[.int .i64 0, .int .i64 0]) ?_ 0 _ rfl; refine kq ?_; exact BK316.out) Tryd.underlying35 rfl (by kernel_rfl)) rfl ?_
   exact ⟨gz, (bz3 HB.out GE314.out GE315.out GE316.out)⟩
 ·replace c5 := Bool.eq_false_iff.mpr c5
  subst c5
  have H1 := hq H
  clear H
  have H := H1
  clear H1
  simp only [Option.some.injEq, Prod.mk.injEq] at H
  obtain ⟨rfl, rfl, rfl⟩ := H
  go_enter Tryd.func12, Tryd.ntmps12
  go_wp2_with (first | ((with_reducible refine gate_dst (N := 3) rfl ?_); (try (refine gate_guard (by rfl) ?_; dsimp only)); refine box_event ?hg (N := 3) ?hd (cs := #[.slice A0_0 l0_0.length c0_0, .slice A0_1 l0_1.length c0_1, .slice A0_2 l0_2.length c0_2, .slice A0_3 l0_3.length c0_3]) (t := 29) ?hr ?_; (case hd => rfl); (case hg => rfl); (case hr => exact vz); intro gb314 hg w31 hbox hb; have BK314 := Aside0.mk (hbox); have GW314 := Aside0.mk ((by rw [hg]; exact (below_size (bz0 HB.out)) : w.heap.size <= gb314)); have GE314 := GW314; replace HB := Aside0.mk (below_step (bz0 HB.out) hb); clear hb hbox hg) | ((with_reducible refine gate_dst (N := 5) rfl ?_); (try (refine gate_guard (by rfl) ?_; dsimp only)); refine box_event ?hg (N := 5) ?hd (cs := #[.int .i64 a2_0, .int .i64 a2_1]) (t := 31) ?hr ?_; (case hd => rfl); (case hg => rfl); (case hr => exact vz); intro gb315 hg w32 hbox hb; have BK315 := Aside0.mk (hbox); have GW315 := Aside0.mk ((by rw [hg]; exact (below_size (bz1 HB.out GE314.out)) : w.heap.size <= gb315)); have GE315 := GW315; replace HB := Aside0.mk (below_step (bz1 HB.out GE314.out) hb); have NB314_315 := Aside0.mk ((by rw [hg]; exact Nat.ne_of_lt (blk_lt (kz BK314.out)) : gb314 ≠ gb315)); have NB315_314 := Aside0.mk ((by rw [hg]; exact Nat.ne_of_gt (blk_lt (kz BK314.out)) : gb315 ≠ gb314)); replace BK314 := Aside0.mk (blk_below (kz BK314.out) hb); clear hb hbox hg) | ((with_reducible refine gate_dst (N := 6) rfl ?_); (try (refine gate_guard (by rfl) ?_; dsimp only)); refine box_event ?hg (N := 6) ?hd (cs := #[.int .i64 0, .int .i64 0]) (t := 35) ?hr ?_; (case hd => rfl); (case hg => rfl); (case hr => exact vz); intro gb316 hg w33 hbox hb; have BK316 := Aside0.mk (hbox); have GW316 := Aside0.mk ((by rw [hg]; exact (below_size (bz2 HB.out GE314.out GE315.out)) : w.heap.size <= gb316)); have GE316 := GW316; replace HB := Aside0.mk (below_step (bz2 HB.out GE314.out GE315.out) hb); have NB314_316 := Aside0.mk ((by rw [hg]; exact Nat.ne_of_lt (blk_lt (kz BK314.out)) : gb314 ≠ gb316)); have NB316_314 := Aside0.mk ((by rw [hg]; exact Nat.ne_of_gt (blk_lt (kz BK314.out)) : gb316 ≠ gb314)); replace BK314 := Aside0.mk (blk_below (kz BK314.out) hb); have NB315_316 := Aside0.mk ((by rw [hg]; exact Nat.ne_of_lt (blk_lt (kz BK315.out)) : gb315 ≠ gb316)); have NB316_315 := Aside0.mk ((by rw [hg]; exact Nat.ne_of_gt (blk_lt (kz BK315.out)) : gb316 ≠ gb315)); replace BK315 := Aside0.mk (blk_below (kz BK315.out) hb); clear hb hbox hg; have hnb34 := NB314_315.out; have hnc34 := NB315_314.out; have hnb35 := NB314_316.out; have hnc35 := NB316_314.out; obtain ⟨hcz36_0, hcz36_1, hcz36_2, hcz36_3⟩ := cz4 BK314.out; obtain ⟨hfz36_0, hfz36_1, hfz36_2, hfz36_3⟩ := fz4 BK314.out) | ((with_reducible refine gate_callee (f := 14) rfl ?_); refine goesL_ (some 9) rfl rfl Tryd.func14 (by kernel_rfl) rfl #[.agg #[.slice A0_0 l0_0.length c0_0, .slice A0_1 l0_1.length c0_1, .slice A0_2 l0_2.length c0_2, .slice A0_3 l0_3.length c0_3]] rfl lz ?_; (with_reducible refine (spec_HeapOk.calls k _ _ l0_0 _ _ l0_1 _ _ l0_2 _ _ l0_3 false _ ?side1 ?side2 ?side3 ?side4 ?side5 ?side6 ?side7 ?side8 A4.out).mono ?_); (case side1 => exact cz (Kd.C_below HR0_0.out HB.out)); (case side2 => exact HC0_0.out); (case side3 => exact cz (Kd.C_below HR0_1.out HB.out)); (case side4 => exact HC0_1.out); (case side5 => exact cz (Kd.C_below HR0_2.out HB.out)); (case side6 => exact HC0_2.out); (case side7 => exact cz (Kd.C_below HR0_3.out HB.out)); (case side8 => exact HC0_3.out); rintro e w37 ⟨rfl, hb⟩; refine ⟨_, rfl, ?_⟩; replace BK314 := Aside0.mk (blk_below (kz BK314.out) hb); replace BK315 := Aside0.mk (blk_below (kz BK315.out) hb); replace BK316 := Aside0.mk (blk_below (kz BK316.out) hb); replace HB := Aside0.mk (below_step (bz3 HB.out GE314.out GE315.out GE316.out) hb); (try clear hb); have hnb38 := NB316_315.out; have hnc38 := NB315_316.out; obtain ⟨hcz39_0, hcz39_1⟩ := cz2 BK316.out; obtain ⟨hfz39_0, hfz39_1⟩ := fz2 BK316.out))
  refine bodyPost_ret (results_ct rfl _ _ gb316 35 #[.int .i64 0, .int .i64 0] (0, 0) _ rfl (by refine kq ?_; refine blk_put (cs := #[.int .i64 0, .int .i64 0]) ?_ 1 _ rfl; refine kq ?_; refine blk_put (cs := #[.int .i64 0, .int .i64 0]) ?_ 0 _ rfl; refine kq ?_; exact BK316.out) Tryd.underlying35 rfl (by kernel_rfl)) rfl ?_
  exact ⟨gz, (bz3 HB.out GE314.out GE315.out GE316.out)⟩
def spec_l1PickInt.f (s0_0 : List Int) (s0_1 : Int) (s0_2 : Int) (l1 : List Int) : Option (Int × Int × Int) := (spec_l1Below.f s0_0 s0_1 s0_2 (l1.length : Int)).bind fun bt322 => (if 0 <= bt322.1 then (if bt322.1 < (l1.length : Int) then (some (rd l1 bt322.1, bt322.2.1, bt322.2.2)) else (none)) else (none))
set_option maxHeartbeats 80000000 in
set_option maxRecDepth 100000 in
theorem spec_l1PickInt.calls (g : Nat) (s0_0 : List Int) (s0_1 : Int) (s0_2 : Int) (A1 : Option Addr) (c1 : Nat) (l1 : List Int) (r1 : Int) (r2 : Int) (r3 : Int) (w0 w : World) (hI : IsS120 w0 w g s0_0 s0_1 s0_2) (hB : Below w0.heap.size w0 w) (hr1 : Kd.C (Kd.int .i64) w A1 l1.length l1) (hc1 : l1.length <= c1) (hf1 : ∀ ad, A1 = some ad -> 0 < l1.length -> ad.block ≠ g) (h : spec_l1PickInt.f s0_0 s0_1 s0_2 l1 = some (r1, r2, r3)) :
  Calls Tryd.prog 47 #[.pointer (some ⟨g, 0, none⟩), .slice A1 l1.length c1] w fun e w' => e = .returned (.int .i64 r1) /\ IsS120 w0 w' g s0_0 r2 r3 /\ Below w0.heap.size w0 w' /\ KeepBut w w' g none := by
 have HR1 := Aside0.mk hr1
 have HC1 := Aside0.mk hc1
 clear hr1 hc1
 have HI0 := Aside0.mk hI
 have HK := Aside0.mk (KeepBut.refl w g none)
 have HL := Aside0.mk hB.size
 clear hI
 have HW0 := Aside0.mk hB.size
 have HB := Aside0.mk hB
 clear hB
 have H : ((spec_l1Below.f s0_0 s0_1 s0_2 (l1.length : Int)).bind fun bt322 => (if 0 <= bt322.1 then (if bt322.1 < (l1.length : Int) then (some (rd l1 bt322.1, bt322.2.1, bt322.2.2)) else (none)) else (none))) = some (r1, r2, r3) := h
 clear h
 replace H := bi H
 obtain ⟨⟨t322, t323, t324⟩, A30, H⟩ := H
 try dsimp only at H
 have A3 := Aside0.mk A30
 clear A30
 replace H := iz H
 obtain ⟨c4, H⟩ := H
 have c4b0 := decide_eq_true c4
 clear c4
 replace H := iz H
 obtain ⟨c5, H⟩ := H
 have c5b0 := decide_eq_true c5
 clear c5
 simp only [Option.some.injEq, Prod.mk.injEq] at H
 obtain ⟨rfl, rfl, rfl⟩ := H
 go_enter Tryd.func47, Tryd.ntmps47
 go_wp2_with (first | ((with_reducible refine gate_callee (f := 40) rfl ?_); refine goesL_ (some 9) rfl rfl Tryd.func40 (by kernel_rfl) rfl #[.pointer (some ⟨g, 0, none⟩), .int .i64 (l1.length : Int)] rfl lz ?_; (with_reducible refine (spec_l1Below.calls g s0_0 s0_1 s0_2 (l1.length : Int) t322 t323 t324 w0 _ ?side1 ?side2 A3.out).mono ?_); (case side1 => repeat (first | (with_reducible first | exact HI0.out | apply IsS120.alloc | apply IsS120.drewN | apply IsS120.drew | apply IsS120.set_1 | apply IsS120.set_2) | exact HI0.out)); (case side2 => repeat (first | (with_reducible first | exact HB.out | apply below_alloc | apply pw_below_drewN | apply below_drew1 | refine below_set ?_ (IsS120.ge HI0.out)) | exact HB.out)); rintro e w6 ⟨rfl, hi, hb, hk⟩; refine ⟨_, rfl, ?_⟩; replace HK := Aside0.mk (KeepBut.trans (by repeat (first | (with_reducible first | exact HK.out | apply KeepBut.set_ | apply keep_drewN | apply keep_drew | apply keep_alloc) | exact HK.out)) hk (.inl rfl)); replace HB := Aside0.mk (hb); replace HI0 := Aside0.mk (hi); (try clear hb); (try clear hk); (try clear hi); have p325 : 0 <= (t322 : Int) := oz; have q325 : t322 < (l1.length : Int) := oz; obtain ⟨ad325, e325, hx325_0⟩ := Kd.at_int HR1.out t322 p325 q325; cases e325; replace hx325_0 := keep_cell HK.out hx325_0 (by first | (rw [add_block]; exact hf1 _ rfl (by omega)) | exact hf1 _ rfl (by omega) | exact hf1 ad325 rfl (by omega)); replace p325 := eq_true p325; replace q325 := eq_true q325))
 go_ret
 exact ⟨gz, by repeat (first | (with_reducible first | exact HI0.out | apply IsS120.alloc | apply IsS120.drewN | apply IsS120.drew | apply IsS120.set_1 | apply IsS120.set_2) | exact HI0.out), by repeat (first | (with_reducible first | exact HB.out | apply below_alloc | apply pw_below_drewN | apply below_drew1 | refine below_set ?_ (IsS120.ge HI0.out)) | exact HB.out), by repeat (first | (with_reducible first | exact HK.out | apply KeepBut.set_ | apply keep_drewN | apply keep_drew | apply keep_alloc) | exact HK.out)⟩
def spec_DrawShowVal.f (k : Nat) (l0 : List Int) : Option ((List (S41)) × (List (S86)) × (List (S47)) × (List (S35)) × Int × Int × Int) := (spec_l1New.f k l0).bind fun bt328 => ((spec_l10Heap.f k bt328.1 bt328.2.1 bt328.2.2).bind fun bt332 => ((spec_l10Val.f k bt328.1 bt332.2.2.2.2.1 bt332.2.2.2.2.2 bt332.1 bt332.2.1 bt332.2.2.1 bt332.2.2.2.1).bind fun bt347 => ((spec_l1PickInt.f bt328.1 bt347.2.2.1 bt347.2.2.2 (([3, 3, 0, 1, 8, 9, (-1)] : List Int))).bind fun bt355 => (some (bt332.1, bt332.2.1, bt332.2.2.1, bt332.2.2.2.1, bt347.1, bt347.2.1, bt355.1)))))
theorem spec_DrawShowVal.mono : ∀ a0 k, LeO (spec_DrawShowVal.f k a0) (spec_DrawShowVal.f (k + 1) a0) := by
 intro a0 k
 unfold spec_DrawShowVal.f
 with_reducible repeat' first | exact spec_l10Heap.mono _ _ _ _ | exact spec_l10Val.mono _ _ _ _ _ _ _ _ | exact spec_l1New.mono _ _ | exact lrz _ | exact lnz _ | refine liz ?_ ?_ | refine lbz ?_ fun _ => ?_
def spec_DrawShowVal.T4 : Bool × List (List Nat × List Nat) := (true, [([], []), ([], []), ([], []), ([], []), ([2, 3], [2, 3]), ([0, 4, 0], [0]), ([1, 5, 0, 1, 5], [1]), ([4, 6, 0, 1, 2, 3, 4, 5, 6], [4])])
def spec_DrawShowVal.B4 : List Nat := [0, 0, 0, 0, 12, 29, 63, 127]
theorem spec_DrawShowVal.tab4 : rtab .any (opsOf Tryd.f15 4) = spec_DrawShowVal.T4 := by kernel_rfl
theorem spec_DrawShowVal.bits4 : waitsOk spec_DrawShowVal.T4.2 spec_DrawShowVal.B4 = true := by kernel_rfl
set_option maxHeartbeats 80000000 in
set_option maxRecDepth 100000 in
theorem spec_DrawShowVal.calls (k : Nat) (A0 : Option Addr) (c0 : Nat) (l0 : List Int) (r1 : List (S41)) (r2 : List (S86)) (r3 : List (S47)) (r4 : List (S35)) (r5 : Int) (r6 : Int) (r7 : Int) (w : World) (hr0 : Kd.C (Kd.int .u8) w A0 l0.length l0) (hc0 : l0.length <= c0) (h : spec_DrawShowVal.f k l0 = some (r1, r2, r3, r4, r5, r6, r7)) :
  Calls Tryd.prog 15 #[.slice A0 l0.length c0] w fun e w' => ∃ v0_ v1_ v2_ v3_ : Value, e = .returned (.tuple #[.agg #[v0_, v1_, v2_, v3_], .agg #[.int .i64 r5, .int .i64 r6], .int .i64 r7]) /\ Kd.R k41 41 w' w.heap.size (fun _ => True) v0_ r1 /\ Kd.R k86 86 w' w.heap.size (fun _ => True) v1_ r2 /\ Kd.R k47 47 w' w.heap.size (fun _ => True) v2_ r3 /\ Kd.R k35 35 w' w.heap.size (fun _ => True) v3_ r4 /\ Below w.heap.size w w' := by
 have hu29 := Tryd.underlying29
 have hu35 := Tryd.underlying35
 have HR0 := Aside0.mk hr0
 have HC0 := Aside0.mk hc0
 clear hr0 hc0
 have HB := Aside0.mk (Below.refl w.heap.size w)
 have H : ((spec_l1New.f k l0).bind fun bt328 => ((spec_l10Heap.f k bt328.1 bt328.2.1 bt328.2.2).bind fun bt332 => ((spec_l10Val.f k bt328.1 bt332.2.2.2.2.1 bt332.2.2.2.2.2 bt332.1 bt332.2.1 bt332.2.2.1 bt332.2.2.2.1).bind fun bt347 => ((spec_l1PickInt.f bt328.1 bt347.2.2.1 bt347.2.2.2 (([3, 3, 0, 1, 8, 9, (-1)] : List Int))).bind fun bt355 => (some (bt332.1, bt332.2.1, bt332.2.2.1, bt332.2.2.2.1, bt347.1, bt347.2.1, bt355.1)))))) = some (r1, r2, r3, r4, r5, r6, r7) := h
 clear h
 replace H := bi H
 obtain ⟨⟨t328, t329, t330⟩, A20, H⟩ := H
 try dsimp only at H
 have A2 := Aside0.mk A20
 clear A20
 replace H := bi H
 obtain ⟨⟨t332, t335, t338, t341, t344, t345⟩, A30, H⟩ := H
 try dsimp only at H
 have A3 := Aside0.mk A30
 clear A30
 replace H := bi H
 obtain ⟨⟨t347, t348, t349, t350⟩, A40, H⟩ := H
 try dsimp only at H
 have A4 := Aside0.mk A40
 clear A40
 obtain ⟨y352, hy352⟩ : ∃ y_ : List Int, y_ = (([3, 3, 0, 1, 8, 9, (-1)] : List Int)) := ⟨_, rfl⟩
 replace H : ((spec_l1PickInt.f t328 t349 t350 y352).bind fun bt355 => (some (t332, t335, t338, t341, t347, t348, bt355.1))) = some (r1, r2, r3, r4, r5, r6, r7) := yz hy352 H
 have Ny352 := Aside0.mk hy352
 clear hy352
 replace H := bi H
 obtain ⟨⟨t355, t356, t357⟩, A50, H⟩ := H
 try dsimp only at H
 have A5 := Aside0.mk A50
 clear A50
 simp only [Option.some.injEq, Prod.mk.injEq] at H
 obtain ⟨rfl, rfl, rfl, rfl, rfl, rfl, rfl⟩ := H
 go_enter Tryd.func15, Tryd.ntmps15
 try go_wp2_with (first | ((with_reducible refine gate_dst (N := 2) rfl ?_); refine box_event ?hg (N := 2) ?hd (cs := #[.slice none 0 0, .slice none 0 0, .slice none 0 0, .slice none 0 0]) (t := 29) ?hr ?_; (case hd => rfl); (case hg => rfl); (case hr => exact vz); intro gb326 hg w6 hbox hb; have BK326 := Aside0.mk (hbox); have GW326 := Aside0.mk ((by rw [hg]; exact (below_size (bz0 HB.out)) : w.heap.size <= gb326)); have GE326 := GW326; replace HB := Aside0.mk (below_step (bz0 HB.out) hb); clear hb hbox hg) | ((with_reducible refine gate_dst (N := 3) rfl ?_); refine box_event ?hg (N := 3) ?hd (cs := #[.int .i64 0, .int .i64 0]) (t := 35) ?hr ?_; (case hd => rfl); (case hg => rfl); (case hr => exact vz); intro gb327 hg w7 hbox hb; have BK327 := Aside0.mk (hbox); have GW327 := Aside0.mk ((by rw [hg]; exact (below_size (bz1 HB.out GE326.out)) : w.heap.size <= gb327)); have GE327 := GW327; replace HB := Aside0.mk (below_step (bz1 HB.out GE326.out) hb); have NB326_327 := Aside0.mk ((by rw [hg]; exact Nat.ne_of_lt (blk_lt (kz BK326.out)) : gb326 ≠ gb327)); have NB327_326 := Aside0.mk ((by rw [hg]; exact Nat.ne_of_gt (blk_lt (kz BK326.out)) : gb327 ≠ gb326)); replace BK326 := Aside0.mk (blk_below (kz BK326.out) hb); clear hb hbox hg) | ((with_reducible refine gate_callee (f := 37) rfl ?_); refine goesL_ (some 9) rfl rfl Tryd.func37 (by kernel_rfl) rfl #[.slice A0 l0.length c0] rfl lz ?_; (with_reducible refine (spec_l1New.calls k _ _ l0 t328 t329 t330 w _ ?side1 ?side2 ?side3 A2.out).mono ?_); (case side1 => repeat (first | (with_reducible first | exact HB.out | apply below_alloc | apply pw_below_drewN | apply below_drew1 | refine below_set ?_ GE326.out | refine below_set ?_ GE327.out) | exact HB.out)); (case side2 => exact HR0.out); (case side3 => exact HC0.out); rintro e w8 ⟨g331, rfl, hi, hb, hb2⟩; refine ⟨_, rfl, ?_⟩; replace HB := Aside0.mk (hb); have HI331 := Aside0.mk (hi); have NB331_326 := Aside0.mk (IsS120.ne_blk hi (blk_below (g := gb326) (o := .cells #[.slice none 0 0, .slice none 0 0, .slice none 0 0, .slice none 0 0] 29 (0, 0)) (kz BK326.out) hb2) (by decide)); have NB326_331 := Aside0.mk (Ne.symm (IsS120.ne_blk hi (blk_below (g := gb326) (o := .cells #[.slice none 0 0, .slice none 0 0, .slice none 0 0, .slice none 0 0] 29 (0, 0)) (kz BK326.out) hb2) (by decide))); replace BK326 := Aside0.mk (blk_below (g := gb326) (o := .cells #[.slice none 0 0, .slice none 0 0, .slice none 0 0, .slice none 0 0] 29 (0, 0)) (kz BK326.out) hb2); have NB331_327 := Aside0.mk (IsS120.ne_blk hi (blk_below (g := gb327) (o := .cells #[.int .i64 0, .int .i64 0] 35 (0, 0)) (kz BK327.out) hb2) (by decide)); have NB327_331 := Aside0.mk (Ne.symm (IsS120.ne_blk hi (blk_below (g := gb327) (o := .cells #[.int .i64 0, .int .i64 0] 35 (0, 0)) (kz BK327.out) hb2) (by decide))); replace BK327 := Aside0.mk (blk_below (g := gb327) (o := .cells #[.int .i64 0, .int .i64 0] 35 (0, 0)) (kz BK327.out) hb2); (try clear hb); (try clear hb2); (try clear hk); (try clear hi)) | ((with_reducible refine gate_callee (f := 38) rfl ?_); refine goesL_ (some 11) rfl rfl Tryd.func38 (by kernel_rfl) rfl #[.pointer (some ⟨g331, 0, none⟩)] rfl lz ?_; (with_reducible refine (spec_l10Heap.calls k g331 t328 t329 t330 t332 t335 t338 t341 t344 t345 w _ ?side1 ?side2 A3.out).mono ?_); (case side1 => repeat (first | (with_reducible first | exact HI331.out | apply IsS120.alloc | apply IsS120.drewN | apply IsS120.drew | apply IsS120.set_1 | apply IsS120.set_2 | apply IsS120.far (p := ⟨gb326, _, none⟩) (hne := NB331_326.out) | apply IsS120.far (p := ⟨gb327, _, none⟩) (hne := NB331_327.out)) | exact HI331.out)); (case side2 => repeat (first | (with_reducible first | exact HB.out | apply below_alloc | apply pw_below_drewN | apply below_drew1 | refine below_set ?_ (IsS120.ge HI331.out) | refine below_set ?_ GE326.out | refine below_set ?_ GE327.out) | exact HB.out)); rintro e w9 ⟨v333, v336, v339, v342, rfl, ho0, ho1, ho2, ho3, hi, hb, hk⟩; refine ⟨_, rfl, ?_⟩; replace BK326 := Aside0.mk (KeepBut.blk hk (g' := gb326) (o := .cells #[.slice none 0 0, .slice none 0 0, .slice none 0 0, .slice none 0 0] 29 (0, 0)) (kz BK326.out) NB326_331.out (by simp)); have HO334 := Aside0.mk (Kd.R_lower ho0 (below_size (by repeat (first | (with_reducible first | exact HB.out | apply below_alloc | apply pw_below_drewN | apply below_drew1 | refine below_set ?_ (IsS120.ge HI331.out) | refine below_set ?_ GE326.out | refine below_set ?_ GE327.out) | exact HB.out)))); have HO337 := Aside0.mk (Kd.R_lower ho1 (below_size (by repeat (first | (with_reducible first | exact HB.out | apply below_alloc | apply pw_below_drewN | apply below_drew1 | refine below_set ?_ (IsS120.ge HI331.out) | refine below_set ?_ GE326.out | refine below_set ?_ GE327.out) | exact HB.out)))); have HO340 := Aside0.mk (Kd.R_lower ho2 (below_size (by repeat (first | (with_reducible first | exact HB.out | apply below_alloc | apply pw_below_drewN | apply below_drew1 | refine below_set ?_ (IsS120.ge HI331.out) | refine below_set ?_ GE326.out | refine below_set ?_ GE327.out) | exact HB.out)))); have HO343 := Aside0.mk (Kd.R_lower (Kd.R_newB ho3 (g := gb327) (o := .cells #[.int .i64 0, .int .i64 0] 35 (0, 0)) (kz BK327.out)) (below_size (by repeat (first | (with_reducible first | exact HB.out | apply below_alloc | apply pw_below_drewN | apply below_drew1 | refine below_set ?_ (IsS120.ge HI331.out) | refine below_set ?_ GE326.out | refine below_set ?_ GE327.out) | exact HB.out)))); replace BK327 := Aside0.mk (KeepBut.blk hk (g' := gb327) (o := .cells #[.int .i64 0, .int .i64 0] 35 (0, 0)) (kz BK327.out) NB327_331.out (by simp)); replace HB := Aside0.mk (hb); replace HI331 := Aside0.mk (hi); (try clear hb); (try clear hb2); (try clear hk); (try clear hi); (try clear ho0); (try clear ho1); (try clear ho2); (try clear ho3)) | ((with_reducible refine gate_dst (N := 6) rfl ?_); refine box_event ?hg (N := 6) ?hd (cs := #[.slice none 0 0, .slice none 0 0, .slice none 0 0, .slice none 0 0]) (t := 29) ?hr ?_; (case hd => rfl); (case hg => rfl); (case hr => exact vz); intro gb346 hg w10 hbox hb; replace HO334 := qz HO334 hb; replace HO337 := qz HO337 hb; replace HO340 := qz HO340 hb; replace HO343 := qz HO343 hb; have BK346 := Aside0.mk (hbox); have GW346 := Aside0.mk ((by rw [hg]; exact (below_size (by repeat (first | (with_reducible first | exact HB.out | apply below_alloc | apply pw_below_drewN | apply below_drew1 | refine below_set ?_ (IsS120.ge HI331.out) | refine below_set ?_ GE326.out | refine below_set ?_ GE327.out) | exact HB.out))) : w.heap.size <= gb346)); have GE346 := Aside0.mk ((by rw [hg]; exact (below_size (by repeat (first | (with_reducible first | exact HB.out | apply below_alloc | apply pw_below_drewN | apply below_drew1 | refine below_set ?_ (IsS120.ge HI331.out) | refine below_set ?_ GE326.out | refine below_set ?_ GE327.out) | exact HB.out))) : w.heap.size <= gb346)); replace HB := Aside0.mk (below_step (by repeat (first | (with_reducible first | exact HB.out | apply below_alloc | apply pw_below_drewN | apply below_drew1 | refine below_set ?_ (IsS120.ge HI331.out) | refine below_set ?_ GE326.out | refine below_set ?_ GE327.out) | exact HB.out)) hb); have NB326_346 := Aside0.mk ((by rw [hg]; exact Nat.ne_of_lt (blk_lt (kz BK326.out)) : gb326 ≠ gb346)); have NB346_326 := Aside0.mk ((by rw [hg]; exact Nat.ne_of_gt (blk_lt (kz BK326.out)) : gb346 ≠ gb326)); replace BK326 := Aside0.mk (blk_below (kz BK326.out) hb); have NB327_346 := Aside0.mk ((by rw [hg]; exact Nat.ne_of_lt (blk_lt (kz BK327.out)) : gb327 ≠ gb346)); have NB346_327 := Aside0.mk ((by rw [hg]; exact Nat.ne_of_gt (blk_lt (kz BK327.out)) : gb346 ≠ gb327)); replace BK327 := Aside0.mk (blk_below (kz BK327.out) hb); have NB331_346 := Aside0.mk ((by rw [hg]; exact Nat.ne_of_lt (IsS120.lt (show IsS120 w _ g331 t328 t344 t345 from by repeat (first | (with_reducible first | exact HI331.out | apply IsS120.alloc | apply IsS120.drewN | apply IsS120.drew | apply IsS120.set_1 | apply IsS120.set_2 | apply IsS120.far (p := ⟨gb326, _, none⟩) (hne := NB331_326.out) | apply IsS120.far (p := ⟨gb327, _, none⟩) (hne := NB331_327.out)) | exact HI331.out))) : g331 ≠ gb346)); have NB346_331 := Aside0.mk ((by rw [hg]; exact Nat.ne_of_gt (IsS120.lt (show IsS120 w _ g331 t328 t344 t345 from by repeat (first | (with_reducible first | exact HI331.out | apply IsS120.alloc | apply IsS120.drewN | apply IsS120.drew | apply IsS120.set_1 | apply IsS120.set_2 | apply IsS120.far (p := ⟨gb326, _, none⟩) (hne := NB331_326.out) | apply IsS120.far (p := ⟨gb327, _, none⟩) (hne := NB331_327.out)) | exact HI331.out))) : gb346 ≠ g331)); replace HI331 := Aside0.mk (IsS120.below (by repeat (first | (with_reducible first | exact HI331.out | apply IsS120.alloc | apply IsS120.drewN | apply IsS120.drew | apply IsS120.set_1 | apply IsS120.set_2 | apply IsS120.far (p := ⟨gb326, _, none⟩) (hne := NB331_326.out) | apply IsS120.far (p := ⟨gb327, _, none⟩) (hne := NB331_327.out)) | exact HI331.out)) hb); clear hb hbox hg; obtain ⟨Ao11, co11, eo11⟩ := Kd.R_slice HO334.out; subst eo11; have hnb12 := NB346_326.out; have hnc12 := NB326_346.out; have hnb13 := NB346_327.out; have hnc13 := NB327_346.out; have hnb14 := NB346_331.out; have hnc14 := NB331_346.out; obtain ⟨hcz15_0, hcz15_1, hcz15_2, hcz15_3⟩ := cz4 BK346.out; obtain ⟨hfz15_0, hfz15_1, hfz15_2, hfz15_3⟩ := fz4 BK346.out; obtain ⟨Ao16, co16, eo16⟩ := Kd.R_slice HO337.out; subst eo16; obtain ⟨Ao17, co17, eo17⟩ := Kd.R_slice HO340.out; subst eo17; obtain ⟨Ao18, co18, eo18⟩ := Kd.R_slice HO343.out; subst eo18) | ((with_reducible refine gate_callee (f := 46) rfl ?_); refine goesL_ (some 14) rfl rfl Tryd.func46 (by kernel_rfl) rfl #[.pointer (some ⟨g331, 0, none⟩), .agg #[.slice Ao11 t332.length co11, .slice Ao16 t335.length co16, .slice Ao17 t338.length co17, .slice Ao18 t341.length co18]] rfl lz ?_; (with_reducible refine (spec_l10Val.calls k g331 t328 t344 t345 _ _ t332 _ _ t335 _ _ t338 _ _ t341 t347 t348 t349 t350 w _ ?side1 ?side2 ?side3 ?side4 ?side5 ?side6 ?side7 ?side8 ?side9 ?side10 A4.out).mono ?_); (case side1 => repeat (first | (with_reducible first | exact HI331.out | apply IsS120.alloc | apply IsS120.drewN | apply IsS120.drew | apply IsS120.set_1 | apply IsS120.set_2 | apply IsS120.far (p := ⟨gb326, _, none⟩) (hne := NB331_326.out) | apply IsS120.far (p := ⟨gb327, _, none⟩) (hne := NB331_327.out) | apply IsS120.far (p := ⟨gb346, _, none⟩) (hne := NB331_346.out)) | exact HI331.out)); (case side2 => repeat (first | (with_reducible first | exact HB.out | apply below_alloc | apply pw_below_drewN | apply below_drew1 | refine below_set ?_ (IsS120.ge HI331.out) | refine below_set ?_ GE326.out | refine below_set ?_ GE327.out | refine below_set ?_ GE346.out) | exact HB.out)); (case side3 => exact Kd.C_foot_own (IsS120.apart (show IsS120 w _ g331 t328 t344 t345 from by repeat (first | (with_reducible first | exact HI331.out | apply IsS120.alloc | apply IsS120.drewN | apply IsS120.drew | apply IsS120.set_1 | apply IsS120.set_2 | apply IsS120.far (p := ⟨gb326, _, none⟩) (hne := NB331_326.out) | apply IsS120.far (p := ⟨gb327, _, none⟩) (hne := NB331_327.out) | apply IsS120.far (p := ⟨gb346, _, none⟩) (hne := NB331_346.out)) | exact HI331.out)) (by refine rq ?_; exact (Kd.R_mono (Kd.R_far (p := ⟨gb346, 3, none⟩) (Kd.R_far (p := ⟨gb346, 2, none⟩) (Kd.R_far (p := ⟨gb346, 1, none⟩) (Kd.R_far (p := ⟨gb346, 0, none⟩) (Kd.R_types HO334.out BK346.out (by decide)) (fun _ hk => hk.2) (.slice Ao11 t332.length co11)) (fun _ hk => hk.2) (.slice Ao16 t335.length co16)) (fun _ hk => hk.2) (.slice Ao17 t338.length co17)) (fun _ hk => hk.2) (.slice Ao18 t341.length co18)) (fun _ h_ => h_.1))) (by decide)) (fun _ h_ => h_.2)); (case side4 => exact (Kd.R_reads' HO334.out).2.1); (case side5 => exact Kd.C_foot_own (IsS120.apart (show IsS120 w _ g331 t328 t344 t345 from by repeat (first | (with_reducible first | exact HI331.out | apply IsS120.alloc | apply IsS120.drewN | apply IsS120.drew | apply IsS120.set_1 | apply IsS120.set_2 | apply IsS120.far (p := ⟨gb326, _, none⟩) (hne := NB331_326.out) | apply IsS120.far (p := ⟨gb327, _, none⟩) (hne := NB331_327.out) | apply IsS120.far (p := ⟨gb346, _, none⟩) (hne := NB331_346.out)) | exact HI331.out)) (by refine rq ?_; exact (Kd.R_mono (Kd.R_far (p := ⟨gb346, 3, none⟩) (Kd.R_far (p := ⟨gb346, 2, none⟩) (Kd.R_far (p := ⟨gb346, 1, none⟩) (Kd.R_far (p := ⟨gb346, 0, none⟩) (Kd.R_types HO337.out BK346.out (by decide)) (fun _ hk => hk.2) (.slice Ao11 t332.length co11)) (fun _ hk => hk.2) (.slice Ao16 t335.length co16)) (fun _ hk => hk.2) (.slice Ao17 t338.length co17)) (fun _ hk => hk.2) (.slice Ao18 t341.length co18)) (fun _ h_ => h_.1))) (by decide)) (fun _ h_ => h_.2)); (case side6 => exact (Kd.R_reads' HO337.out).2.1); (case side7 => exact Kd.C_foot_own (IsS120.apart (show IsS120 w _ g331 t328 t344 t345 from by repeat (first | (with_reducible first | exact HI331.out | apply IsS120.alloc | apply IsS120.drewN | apply IsS120.drew | apply IsS120.set_1 | apply IsS120.set_2 | apply IsS120.far (p := ⟨gb326, _, none⟩) (hne := NB331_326.out) | apply IsS120.far (p := ⟨gb327, _, none⟩) (hne := NB331_327.out) | apply IsS120.far (p := ⟨gb346, _, none⟩) (hne := NB331_346.out)) | exact HI331.out)) (by refine rq ?_; exact (Kd.R_mono (Kd.R_far (p := ⟨gb346, 3, none⟩) (Kd.R_far (p := ⟨gb346, 2, none⟩) (Kd.R_far (p := ⟨gb346, 1, none⟩) (Kd.R_far (p := ⟨gb346, 0, none⟩) (Kd.R_types HO340.out BK346.out (by decide)) (fun _ hk => hk.2) (.slice Ao11 t332.length co11)) (fun _ hk => hk.2) (.slice Ao16 t335.length co16)) (fun _ hk => hk.2) (.slice Ao17 t338.length co17)) (fun _ hk => hk.2) (.slice Ao18 t341.length co18)) (fun _ h_ => h_.1))) (by decide)) (fun _ h_ => h_.2)); (case side8 => exact (Kd.R_reads' HO340.out).2.1); (case side9 => exact Kd.C_foot_own (IsS120.apart (show IsS120 w _ g331 t328 t344 t345 from by repeat (first | (with_reducible first | exact HI331.out | apply IsS120.alloc | apply IsS120.drewN | apply IsS120.drew | apply IsS120.set_1 | apply IsS120.set_2 | apply IsS120.far (p := ⟨gb326, _, none⟩) (hne := NB331_326.out) | apply IsS120.far (p := ⟨gb327, _, none⟩) (hne := NB331_327.out) | apply IsS120.far (p := ⟨gb346, _, none⟩) (hne := NB331_346.out)) | exact HI331.out)) (by refine rq ?_; exact (Kd.R_mono (Kd.R_far (p := ⟨gb346, 3, none⟩) (Kd.R_far (p := ⟨gb346, 2, none⟩) (Kd.R_far (p := ⟨gb346, 1, none⟩) (Kd.R_far (p := ⟨gb346, 0, none⟩) (Kd.R_types HO343.out BK346.out (by decide)) (fun _ hk => hk.2) (.slice Ao11 t332.length co11)) (fun _ hk => hk.2) (.slice Ao16 t335.length co16)) (fun _ hk => hk.2) (.slice Ao17 t338.length co17)) (fun _ hk => hk.2) (.slice Ao18 t341.length co18)) (fun _ h_ => h_.1))) (by decide)) (fun _ h_ => h_.2)); (case side10 => exact (Kd.R_reads' HO343.out).2.1); rintro e w19 ⟨rfl, hi, hb, hk⟩; refine ⟨_, rfl, ?_⟩; replace BK326 := Aside0.mk (KeepBut.blk hk (g' := gb326) (o := .cells #[.slice none 0 0, .slice none 0 0, .slice none 0 0, .slice none 0 0] 29 (0, 0)) (by refine kq ?_; refine blk_far ?_ NB326_346.out _; refine kq ?_; refine blk_far ?_ NB326_346.out _; refine kq ?_; refine blk_far ?_ NB326_346.out _; refine kq ?_; refine blk_far ?_ NB326_346.out _; refine kq ?_; exact BK326.out) NB326_331.out (by simp)); replace BK327 := Aside0.mk (KeepBut.blk hk (g' := gb327) (o := .cells #[.int .i64 0, .int .i64 0] 35 (0, 0)) (by refine kq ?_; refine blk_far ?_ NB327_346.out _; refine kq ?_; refine blk_far ?_ NB327_346.out _; refine kq ?_; refine blk_far ?_ NB327_346.out _; refine kq ?_; refine blk_far ?_ NB327_346.out _; refine kq ?_; exact BK327.out) NB327_331.out (by simp)); replace HO334 := Aside0.mk (Kd.R_mono (Kd.R_keep (IsS120.apart (show IsS120 w _ g331 t328 t344 t345 from by repeat (first | (with_reducible first | exact HI331.out | apply IsS120.alloc | apply IsS120.drewN | apply IsS120.drew | apply IsS120.set_1 | apply IsS120.set_2 | apply IsS120.far (p := ⟨gb326, _, none⟩) (hne := NB331_326.out) | apply IsS120.far (p := ⟨gb327, _, none⟩) (hne := NB331_327.out) | apply IsS120.far (p := ⟨gb346, _, none⟩) (hne := NB331_346.out)) | exact HI331.out)) (by refine rq ?_; exact (Kd.R_mono (Kd.R_far (p := ⟨gb346, 3, none⟩) (Kd.R_far (p := ⟨gb346, 2, none⟩) (Kd.R_far (p := ⟨gb346, 1, none⟩) (Kd.R_far (p := ⟨gb346, 0, none⟩) (Kd.R_types HO334.out BK346.out (by decide)) (fun _ hk => hk.2) (.slice Ao11 t332.length co11)) (fun _ hk => hk.2) (.slice Ao16 t335.length co16)) (fun _ hk => hk.2) (.slice Ao17 t338.length co17)) (fun _ hk => hk.2) (.slice Ao18 t341.length co18)) (fun _ h_ => h_.1))) (by decide)) hk (fun _ h => h.2)) (fun _ h => h.1)); replace HO337 := Aside0.mk (Kd.R_mono (Kd.R_keep (IsS120.apart (show IsS120 w _ g331 t328 t344 t345 from by repeat (first | (with_reducible first | exact HI331.out | apply IsS120.alloc | apply IsS120.drewN | apply IsS120.drew | apply IsS120.set_1 | apply IsS120.set_2 | apply IsS120.far (p := ⟨gb326, _, none⟩) (hne := NB331_326.out) | apply IsS120.far (p := ⟨gb327, _, none⟩) (hne := NB331_327.out) | apply IsS120.far (p := ⟨gb346, _, none⟩) (hne := NB331_346.out)) | exact HI331.out)) (by refine rq ?_; exact (Kd.R_mono (Kd.R_far (p := ⟨gb346, 3, none⟩) (Kd.R_far (p := ⟨gb346, 2, none⟩) (Kd.R_far (p := ⟨gb346, 1, none⟩) (Kd.R_far (p := ⟨gb346, 0, none⟩) (Kd.R_types HO337.out BK346.out (by decide)) (fun _ hk => hk.2) (.slice Ao11 t332.length co11)) (fun _ hk => hk.2) (.slice Ao16 t335.length co16)) (fun _ hk => hk.2) (.slice Ao17 t338.length co17)) (fun _ hk => hk.2) (.slice Ao18 t341.length co18)) (fun _ h_ => h_.1))) (by decide)) hk (fun _ h => h.2)) (fun _ h => h.1)); replace HO340 := Aside0.mk (Kd.R_mono (Kd.R_keep (IsS120.apart (show IsS120 w _ g331 t328 t344 t345 from by repeat (first | (with_reducible first | exact HI331.out | apply IsS120.alloc | apply IsS120.drewN | apply IsS120.drew | apply IsS120.set_1 | apply IsS120.set_2 | apply IsS120.far (p := ⟨gb326, _, none⟩) (hne := NB331_326.out) | apply IsS120.far (p := ⟨gb327, _, none⟩) (hne := NB331_327.out) | apply IsS120.far (p := ⟨gb346, _, none⟩) (hne := NB331_346.out)) | exact HI331.out)) (by refine rq ?_; exact (Kd.R_mono (Kd.R_far (p := ⟨gb346, 3, none⟩) (Kd.R_far (p := ⟨gb346, 2, none⟩) (Kd.R_far (p := ⟨gb346, 1, none⟩) (Kd.R_far (p := ⟨gb346, 0, none⟩) (Kd.R_types HO340.out BK346.out (by decide)) (fun _ hk => hk.2) (.slice Ao11 t332.length co11)) (fun _ hk => hk.2) (.slice Ao16 t335.length co16)) (fun _ hk => hk.2) (.slice Ao17 t338.length co17)) (fun _ hk => hk.2) (.slice Ao18 t341.length co18)) (fun _ h_ => h_.1))) (by decide)) hk (fun _ h => h.2)) (fun _ h => h.1)); replace HO343 := Aside0.mk (Kd.R_mono (Kd.R_keep (IsS120.apart (show IsS120 w _ g331 t328 t344 t345 from by repeat (first | (with_reducible first | exact HI331.out | apply IsS120.alloc | apply IsS120.drewN | apply IsS120.drew | apply IsS120.set_1 | apply IsS120.set_2 | apply IsS120.far (p := ⟨gb326, _, none⟩) (hne := NB331_326.out) | apply IsS120.far (p := ⟨gb327, _, none⟩) (hne := NB331_327.out) | apply IsS120.far (p := ⟨gb346, _, none⟩) (hne := NB331_346.out)) | exact HI331.out)) (by refine rq ?_; exact (Kd.R_mono (Kd.R_far (p := ⟨gb346, 3, none⟩) (Kd.R_far (p := ⟨gb346, 2, none⟩) (Kd.R_far (p := ⟨gb346, 1, none⟩) (Kd.R_far (p := ⟨gb346, 0, none⟩) (Kd.R_types HO343.out BK346.out (by decide)) (fun _ hk => hk.2) (.slice Ao11 t332.length co11)) (fun _ hk => hk.2) (.slice Ao16 t335.length co16)) (fun _ hk => hk.2) (.slice Ao17 t338.length co17)) (fun _ hk => hk.2) (.slice Ao18 t341.length co18)) (fun _ h_ => h_.1))) (by decide)) hk (fun _ h => h.2)) (fun _ h => h.1)); replace BK346 := Aside0.mk (KeepBut.blk hk (g' := gb346) (o := .cells #[.slice Ao11 t332.length co11, .slice Ao16 t335.length co16, .slice Ao17 t338.length co17, .slice Ao18 t341.length co18] 29 (0, 0)) (by refine kq ?_; refine blk_put (cs := #[.slice Ao11 t332.length co11, .slice Ao16 t335.length co16, .slice Ao17 t338.length co17, .slice none 0 0]) ?_ 3 _ rfl; refine kq ?_; refine blk_put (cs := #[.slice Ao11 t332.length co11, .slice Ao16 t335.length co16, .slice none 0 0, .slice none 0 0]) ?_ 2 _ rfl; refine kq ?_; refine blk_put (cs := #[.slice Ao11 t332.length co11, .slice none 0 0, .slice none 0 0, .slice none 0 0]) ?_ 1 _ rfl; refine kq ?_; refine blk_put (cs := #[.slice none 0 0, .slice none 0 0, .slice none 0 0, .slice none 0 0]) ?_ 0 _ rfl; refine kq ?_; exact BK346.out) NB346_331.out (by simp)); replace HB := Aside0.mk (hb); replace HI331 := Aside0.mk (hi); (try clear hb); (try clear hb2); (try clear hk); (try clear hi)) | ((with_reducible refine gate_dst (N := 7) rfl ?_); refine box_event ?hg (N := 7) ?hd (cs := #[.int .i64 0, .int .i64 0]) (t := 35) ?hr ?_; (case hd => rfl); (case hg => rfl); (case hr => exact vz); intro gb351 hg w20 hbox hb; replace HO334 := qz HO334 hb; replace HO337 := qz HO337 hb; replace HO340 := qz HO340 hb; replace HO343 := Aside0.mk (Kd.R_below (Kd.R_elderB (rz HO343.out) gb351 (Nat.le_of_eq hg.symm)) hb); have BK351 := Aside0.mk (hbox); have GW351 := Aside0.mk ((by rw [hg]; exact (below_size (by repeat (first | (with_reducible first | exact HB.out | apply below_alloc | apply pw_below_drewN | apply below_drew1 | refine below_set ?_ (IsS120.ge HI331.out) | refine below_set ?_ GE326.out | refine below_set ?_ GE327.out | refine below_set ?_ GE346.out) | exact HB.out))) : w.heap.size <= gb351)); have GE351 := Aside0.mk ((by rw [hg]; exact (below_size (by repeat (first | (with_reducible first | exact HB.out | apply below_alloc | apply pw_below_drewN | apply below_drew1 | refine below_set ?_ (IsS120.ge HI331.out) | refine below_set ?_ GE326.out | refine below_set ?_ GE327.out | refine below_set ?_ GE346.out) | exact HB.out))) : w.heap.size <= gb351)); replace HB := Aside0.mk (below_step (by repeat (first | (with_reducible first | exact HB.out | apply below_alloc | apply pw_below_drewN | apply below_drew1 | refine below_set ?_ (IsS120.ge HI331.out) | refine below_set ?_ GE326.out | refine below_set ?_ GE327.out | refine below_set ?_ GE346.out) | exact HB.out)) hb); have NB326_351 := Aside0.mk ((by rw [hg]; exact Nat.ne_of_lt (blk_lt (kz BK326.out)) : gb326 ≠ gb351)); have NB351_326 := Aside0.mk ((by rw [hg]; exact Nat.ne_of_gt (blk_lt (kz BK326.out)) : gb351 ≠ gb326)); replace BK326 := Aside0.mk (blk_below (kz BK326.out) hb); have NB327_351 := Aside0.mk ((by rw [hg]; exact Nat.ne_of_lt (blk_lt (kz BK327.out)) : gb327 ≠ gb351)); have NB351_327 := Aside0.mk ((by rw [hg]; exact Nat.ne_of_gt (blk_lt (kz BK327.out)) : gb351 ≠ gb327)); replace BK327 := Aside0.mk (blk_below (kz BK327.out) hb); have NB346_351 := Aside0.mk ((by rw [hg]; exact Nat.ne_of_lt (blk_lt (kz BK346.out)) : gb346 ≠ gb351)); have NB351_346 := Aside0.mk ((by rw [hg]; exact Nat.ne_of_gt (blk_lt (kz BK346.out)) : gb351 ≠ gb346)); replace BK346 := Aside0.mk (blk_below (kz BK346.out) hb); have NB331_351 := Aside0.mk ((by rw [hg]; exact Nat.ne_of_lt (IsS120.lt (show IsS120 w _ g331 t328 t349 t350 from by repeat (first | (with_reducible first | exact HI331.out | apply IsS120.alloc | apply IsS120.drewN | apply IsS120.drew | apply IsS120.set_1 | apply IsS120.set_2 | apply IsS120.far (p := ⟨gb326, _, none⟩) (hne := NB331_326.out) | apply IsS120.far (p := ⟨gb327, _, none⟩) (hne := NB331_327.out) | apply IsS120.far (p := ⟨gb346, _, none⟩) (hne := NB331_346.out)) | exact HI331.out))) : g331 ≠ gb351)); have NB351_331 := Aside0.mk ((by rw [hg]; exact Nat.ne_of_gt (IsS120.lt (show IsS120 w _ g331 t328 t349 t350 from by repeat (first | (with_reducible first | exact HI331.out | apply IsS120.alloc | apply IsS120.drewN | apply IsS120.drew | apply IsS120.set_1 | apply IsS120.set_2 | apply IsS120.far (p := ⟨gb326, _, none⟩) (hne := NB331_326.out) | apply IsS120.far (p := ⟨gb327, _, none⟩) (hne := NB331_327.out) | apply IsS120.far (p := ⟨gb346, _, none⟩) (hne := NB331_346.out)) | exact HI331.out))) : gb351 ≠ g331)); replace HI331 := Aside0.mk (IsS120.below (by repeat (first | (with_reducible first | exact HI331.out | apply IsS120.alloc | apply IsS120.drewN | apply IsS120.drew | apply IsS120.set_1 | apply IsS120.set_2 | apply IsS120.far (p := ⟨gb326, _, none⟩) (hne := NB331_326.out) | apply IsS120.far (p := ⟨gb327, _, none⟩) (hne := NB331_327.out) | apply IsS120.far (p := ⟨gb346, _, none⟩) (hne := NB331_346.out)) | exact HI331.out)) hb); clear hb hbox hg; have hnb21 := NB351_326.out; have hnc21 := NB326_351.out; have hnb22 := NB351_327.out; have hnc22 := NB327_351.out; have hnb23 := NB351_346.out; have hnc23 := NB346_351.out; have hnb24 := NB351_331.out; have hnc24 := NB331_351.out; obtain ⟨hcz25_0, hcz25_1⟩ := cz2 BK351.out; obtain ⟨hfz25_0, hfz25_1⟩ := fz2 BK351.out))
 have n0_ : Aside0 (Kd.R k41 41 ((w20.setCell ⟨gb351, 0, none⟩ (.int .i64 t347)).setCell ⟨gb351, 1, none⟩ (.int .i64 t348)) w.heap.size (fun _ => True) (.slice Ao11 t332.length co11) t332) := ⟨by refine rq ?_; first | (with_reducible exact Kd.R_mono (Kd.R_far (p := ⟨gb351, 1, none⟩) (Kd.R_far (p := ⟨gb351, 0, none⟩) (Kd.R_types HO334.out BK351.out (by decide)) (fun _ hk => hk.2) (.int .i64 t347)) (fun _ hk => hk.2) (.int .i64 t348)) (fun _ hk => trivial)) | exact Kd.R_mono (Kd.R_far (p := ⟨gb351, 1, none⟩) (Kd.R_drewN (Kd.R_far (p := ⟨gb351, 0, none⟩) (Kd.R_types HO334.out BK351.out (by decide)) (fun _ hk => hk.2) (.int .i64 t347)) _) (fun _ hk => hk.2) (.int .i64 t348)) (fun _ hk => trivial)⟩
 have n1_ : Aside0 (Kd.R k86 86 ((w20.setCell ⟨gb351, 0, none⟩ (.int .i64 t347)).setCell ⟨gb351, 1, none⟩ (.int .i64 t348)) w.heap.size (fun _ => True) (.slice Ao16 t335.length co16) t335) := ⟨by refine rq ?_; first | (with_reducible exact Kd.R_mono (Kd.R_far (p := ⟨gb351, 1, none⟩) (Kd.R_far (p := ⟨gb351, 0, none⟩) (Kd.R_types HO337.out BK351.out (by decide)) (fun _ hk => hk.2) (.int .i64 t347)) (fun _ hk => hk.2) (.int .i64 t348)) (fun _ hk => trivial)) | exact Kd.R_mono (Kd.R_far (p := ⟨gb351, 1, none⟩) (Kd.R_drewN (Kd.R_far (p := ⟨gb351, 0, none⟩) (Kd.R_types HO337.out BK351.out (by decide)) (fun _ hk => hk.2) (.int .i64 t347)) _) (fun _ hk => hk.2) (.int .i64 t348)) (fun _ hk => trivial)⟩
 have n2_ : Aside0 (Kd.R k47 47 ((w20.setCell ⟨gb351, 0, none⟩ (.int .i64 t347)).setCell ⟨gb351, 1, none⟩ (.int .i64 t348)) w.heap.size (fun _ => True) (.slice Ao17 t338.length co17) t338) := ⟨by refine rq ?_; first | (with_reducible exact Kd.R_mono (Kd.R_far (p := ⟨gb351, 1, none⟩) (Kd.R_far (p := ⟨gb351, 0, none⟩) (Kd.R_types HO340.out BK351.out (by decide)) (fun _ hk => hk.2) (.int .i64 t347)) (fun _ hk => hk.2) (.int .i64 t348)) (fun _ hk => trivial)) | exact Kd.R_mono (Kd.R_far (p := ⟨gb351, 1, none⟩) (Kd.R_drewN (Kd.R_far (p := ⟨gb351, 0, none⟩) (Kd.R_types HO340.out BK351.out (by decide)) (fun _ hk => hk.2) (.int .i64 t347)) _) (fun _ hk => hk.2) (.int .i64 t348)) (fun _ hk => trivial)⟩
 have n3_ : Aside0 (Kd.R k35 35 ((w20.setCell ⟨gb351, 0, none⟩ (.int .i64 t347)).setCell ⟨gb351, 1, none⟩ (.int .i64 t348)) w.heap.size (fun k_ => k_ ≠ gb327 /\ k_ ≠ gb351) (.slice Ao18 t341.length co18) t341) := ⟨by refine rq ?_; first | (with_reducible exact Kd.R_mono (Kd.R_far (p := ⟨gb351, 1, none⟩) (Kd.R_far (p := ⟨gb351, 0, none⟩) (Kd.R_mono HO343.out (fun k_ hk => (⟨hk, hk.2⟩ : _ /\ k_ ≠ gb351))) (fun _ hk => hk.2) (.int .i64 t347)) (fun _ hk => hk.2) (.int .i64 t348)) (fun _ hk => ⟨hk.1.1.2, hk.1.2⟩)) | exact Kd.R_mono (Kd.R_far (p := ⟨gb351, 1, none⟩) (Kd.R_drewN (Kd.R_far (p := ⟨gb351, 0, none⟩) (Kd.R_mono HO343.out (fun k_ hk => (⟨hk, hk.2⟩ : _ /\ k_ ≠ gb351))) (fun _ hk => hk.2) (.int .i64 t347)) _) (fun _ hk => hk.2) (.int .i64 t348)) (fun _ hk => ⟨hk.1.1.2, hk.1.2⟩)⟩
 have n4_ : Aside0 (((w20.setCell ⟨gb351, 0, none⟩ (.int .i64 t347)).setCell ⟨gb351, 1, none⟩ (.int .i64 t348)).heap[gb326]? = some (.cells #[.slice none 0 0, .slice none 0 0, .slice none 0 0, .slice none 0 0] 29 (0, 0))) := ⟨by refine kq ?_; refine blk_far ?_ NB326_351.out _; refine kq ?_; refine blk_far ?_ NB326_351.out _; refine kq ?_; exact BK326.out⟩
 have n5_ : Aside0 (((w20.setCell ⟨gb351, 0, none⟩ (.int .i64 t347)).setCell ⟨gb351, 1, none⟩ (.int .i64 t348)).heap[gb327]? = some (.cells #[.int .i64 0, .int .i64 0] 35 (0, 0))) := ⟨by refine kq ?_; refine blk_far ?_ NB327_351.out _; refine kq ?_; refine blk_far ?_ NB327_351.out _; refine kq ?_; exact BK327.out⟩
 have n6_ : Aside0 (((w20.setCell ⟨gb351, 0, none⟩ (.int .i64 t347)).setCell ⟨gb351, 1, none⟩ (.int .i64 t348)).heap[gb346]? = some (.cells #[.slice Ao11 t332.length co11, .slice Ao16 t335.length co16, .slice Ao17 t338.length co17, .slice Ao18 t341.length co18] 29 (0, 0))) := ⟨by refine kq ?_; refine blk_far ?_ NB346_351.out _; refine kq ?_; refine blk_far ?_ NB346_351.out _; refine kq ?_; exact BK346.out⟩
 have n7_ : Aside0 (((w20.setCell ⟨gb351, 0, none⟩ (.int .i64 t347)).setCell ⟨gb351, 1, none⟩ (.int .i64 t348)).heap[gb351]? = some (.cells #[.int .i64 t347, .int .i64 t348] 35 (0, 0))) := ⟨by refine kq ?_; refine blk_put (cs := #[.int .i64 t347, .int .i64 0]) ?_ 1 _ rfl; refine kq ?_; refine blk_put (cs := #[.int .i64 0, .int .i64 0]) ?_ 0 _ rfl; refine kq ?_; exact BK351.out⟩
 have n8_ : Aside0 (IsS120 w ((w20.setCell ⟨gb351, 0, none⟩ (.int .i64 t347)).setCell ⟨gb351, 1, none⟩ (.int .i64 t348)) g331 t328 t349 t350) := ⟨by repeat (first | (with_reducible first | exact HI331.out | apply IsS120.alloc | apply IsS120.drewN | apply IsS120.drew | apply IsS120.set_1 | apply IsS120.set_2 | apply IsS120.far (p := ⟨gb326, _, none⟩) (hne := NB331_326.out) | apply IsS120.far (p := ⟨gb327, _, none⟩) (hne := NB331_327.out) | apply IsS120.far (p := ⟨gb346, _, none⟩) (hne := NB331_346.out) | apply IsS120.far (p := ⟨gb351, _, none⟩) (hne := NB331_351.out)) | exact HI331.out)⟩
 have n9_ : Aside0 (Below w.heap.size w ((w20.setCell ⟨gb351, 0, none⟩ (.int .i64 t347)).setCell ⟨gb351, 1, none⟩ (.int .i64 t348))) := ⟨by repeat (first | (with_reducible first | exact HB.out | apply below_alloc | apply pw_below_drewN | apply below_drew1 | refine below_set ?_ (IsS120.ge HI331.out) | refine below_set ?_ GE326.out | refine below_set ?_ GE327.out | refine below_set ?_ GE346.out | refine below_set ?_ GE351.out) | exact HB.out)⟩
 (try clear HO334)
 (try clear HO337)
 (try clear HO340)
 (try clear HO343)
 (try clear BK326)
 (try clear BK327)
 (try clear BK346)
 (try clear BK351)
 (try clear HI331)
 (try clear HB)
 generalize ((w20.setCell ⟨gb351, 0, none⟩ (.int .i64 t347)).setCell ⟨gb351, 1, none⟩ (.int .i64 t348)) = w26 at n0_ n1_ n2_ n3_ n4_ n5_ n6_ n7_ n8_ n9_ ⊢
 have HO334 := n0_
 have HO337 := n1_
 have HO340 := n2_
 have HO343 := n3_
 have BK326 := n4_
 have BK327 := n5_
 have BK346 := n6_
 have BK351 := n7_
 have HI331 := n8_
 have HB := n9_
 clear n0_ n1_ n2_ n3_ n4_ n5_ n6_ n7_ n8_ n9_
 have n0_ := Aside0.mk (Kd.R_drew HO334.out)
 have n1_ := Aside0.mk (Kd.R_drew HO337.out)
 have n2_ := Aside0.mk (Kd.R_drew HO340.out)
 have n3_ := Aside0.mk (Kd.R_drew HO343.out)
 have n4_ := Aside0.mk (blk_drew BK326.out)
 have n5_ := Aside0.mk (blk_drew BK327.out)
 have n6_ := Aside0.mk (blk_drew BK346.out)
 have n7_ := Aside0.mk (blk_drew BK351.out)
 have n8_ := Aside0.mk (IsS120.drew HI331.out)
 have n9_ := Aside0.mk (below_drew1 HB.out)
 clear HO334
 clear HO337
 clear HO340
 clear HO343
 clear BK326
 clear BK327
 clear BK346
 clear BK351
 clear HI331
 clear HB
 have HO334 := n0_
 have HO337 := n1_
 have HO340 := n2_
 have HO343 := n3_
 have BK326 := n4_
 have BK327 := n5_
 have BK346 := n6_
 have BK351 := n7_
 have HI331 := n8_
 have HB := n9_
 clear n0_ n1_ n2_ n3_ n4_ n5_ n6_ n7_ n8_ n9_
 refine start_ (n := 8) (S := fun w' => w'.cell? ⟨gb346, 0, none⟩ = some (.slice Ao11 t332.length co11) /\ w'.cell? ⟨gb346, 1, none⟩ = some (.slice Ao16 t335.length co16) /\ w'.cell? ⟨gb346, 2, none⟩ = some (.slice Ao17 t338.length co17) /\ w'.cell? ⟨gb346, 3, none⟩ = some (.slice Ao18 t341.length co18) /\ w'.cell? ⟨gb351, 0, none⟩ = some (.int .i64 t347) /\ w'.cell? ⟨gb351, 1, none⟩ = some (.int .i64 t348)) (ds := []) (mk_ 0 8) (by kernel_rfl) rfl rfl ⟨(blk_cell BK346.out 0).trans rfl, (blk_cell BK346.out 1).trans rfl, (blk_cell BK346.out 2).trans rfl, (blk_cell BK346.out 3).trans rfl, (blk_cell BK351.out 0).trans rfl, (blk_cell BK351.out 1).trans rfl⟩ (fun hHeld => ?_); refine with_tabW spec_DrawShowVal.tab4 spec_DrawShowVal.bits4 (fun HT_ HW_ => ?_)
 generalize w26.drew = w27 at HO334 HO337 HO340 HO343 BK326 BK327 BK346 BK351 HI331 HB hHeld ⊢
 refine pv 2 17 (bm_ 8 4) HT_ rfl rfl ?_
 refine tv6 0 15 (bm_ 8 5) HT_ HW_ rfl rfl hHeld ?_
 refine tv6 1 16 (mk_ 3 5) HT_ HW_ rfl rfl hHeld ?_
 refine one_ (i := 3) (N := some 18) (mk_ 4 4) rfl rfl (one_of HT_.out (by kernel_rfl)) (by decide) (fun K hK => ?_)
 refine Kd.R_lit_step (Kd.int .i64) _ 3 ?hg (N := 18) ?hd (xs := ([3, 3, 0, 1, 8, 9, (-1)] : List Int)) (inner := [.int .i64 3, .int .i64 3, .int .i64 0, .int .i64 1, .int .i64 8, .int .i64 9, .int .i64 (-1)]) (ok := fun _ => True) (okp := fun _ => True) ?hr ?hp (fun _ hk => hk) trivial (Below.refl _ _) (Nat.le_refl _) (by simp) ?_; (case hd => rfl); (case hg => rfl); (case hr => exact vz); (case hp => exact (Reps.one (show Kd.M (Kd.int .i64) _ _ _ 3 [.int .i64 3] from rfl) (Reps.one (show Kd.M (Kd.int .i64) _ _ _ 3 [.int .i64 3] from rfl) (Reps.one (show Kd.M (Kd.int .i64) _ _ _ 0 [.int .i64 0] from rfl) (Reps.one (show Kd.M (Kd.int .i64) _ _ _ 1 [.int .i64 1] from rfl) (Reps.one (show Kd.M (Kd.int .i64) _ _ _ 8 [.int .i64 8] from rfl) (Reps.one (show Kd.M (Kd.int .i64) _ _ _ 9 [.int .i64 9] from rfl) (Reps.one (show Kd.M (Kd.int .i64) _ _ _ (-1) [.int .i64 (-1)] from rfl) (Reps.none _ _)))))))))
 intro v353 w28 ho29 hb hg_ hnew_
 clear hg_ hnew_
 (first | rw [<- Ny352.out] at ho29 | (simp only [Int.reduceToNat] at ho29; rw [<- Ny352.out] at ho29))
 have n0_ := qz HO334 hb
 have n1_ := qz HO337 hb
 have n2_ := qz HO340 hb
 have n3_ := qz HO343 hb
 have n4_ := Aside0.mk (Kd.R_lower ho29 (below_size (by repeat (first | (with_reducible first | exact HB.out | apply below_alloc | apply pw_below_drewN | apply below_drew1 | refine below_set ?_ (IsS120.ge HI331.out) | refine below_set ?_ GE326.out | refine below_set ?_ GE327.out | refine below_set ?_ GE346.out | refine below_set ?_ GE351.out) | exact HB.out))))
 have n5_ := Aside0.mk (blk_below (kz BK326.out) hb)
 have n6_ := Aside0.mk (blk_below (kz BK327.out) hb)
 have n7_ := Aside0.mk (IsS120.below (by repeat (first | (with_reducible first | exact HI331.out | apply IsS120.alloc | apply IsS120.drewN | apply IsS120.drew | apply IsS120.set_1 | apply IsS120.set_2 | apply IsS120.far (p := ⟨gb326, _, none⟩) (hne := NB331_326.out) | apply IsS120.far (p := ⟨gb327, _, none⟩) (hne := NB331_327.out) | apply IsS120.far (p := ⟨gb346, _, none⟩) (hne := NB331_346.out) | apply IsS120.far (p := ⟨gb351, _, none⟩) (hne := NB331_351.out)) | exact HI331.out)) hb)
 have n8_ := Aside0.mk (blk_below (kz BK346.out) hb)
 have n9_ := Aside0.mk (blk_below (kz BK351.out) hb)
 have n10_ := Aside0.mk (below_step (by repeat (first | (with_reducible first | exact HB.out | apply below_alloc | apply pw_below_drewN | apply below_drew1 | refine below_set ?_ (IsS120.ge HI331.out) | refine below_set ?_ GE326.out | refine below_set ?_ GE327.out | refine below_set ?_ GE346.out | refine below_set ?_ GE351.out) | exact HB.out)) hb)
 clear HO334
 clear HO337
 clear HO340
 clear HO343
 clear BK326
 clear BK327
 clear HI331
 clear BK346
 clear BK351
 clear HB
 have HO334 := n0_
 have HO337 := n1_
 have HO340 := n2_
 have HO343 := n3_
 have HO354 := n4_
 have BK326 := n5_
 have BK327 := n6_
 have HI331 := n7_
 have BK346 := n8_
 have BK351 := n9_
 have HB := n10_
 clear n0_ n1_ n2_ n3_ n4_ n5_ n6_ n7_ n8_ n9_ n10_
 clear hb ho29
 obtain ⟨Ao30, co30, eo30⟩ := Kd.R_slice HO354.out
 (first | subst eo30 | (injection eo30 with f1_ f2_ f3_; have f4_ := f1_.symm; have f5_ := f3_.symm; clear f1_ f2_ f3_; subst f4_; subst f5_))
 refine hK.out _ _ ⟨(blk_cell BK346.out 0).trans rfl, (blk_cell BK346.out 1).trans rfl, (blk_cell BK346.out 2).trans rfl, (blk_cell BK346.out 3).trans rfl, (blk_cell BK351.out 0).trans rfl, (blk_cell BK351.out 1).trans rfl⟩ (fun hHeld => ?_)
 clear hK K
 refine norm_ (a' := ?_) ?_ ?_
 rotate_left
 ·show Act.put _ (some 18) _ = _
  simp only [Act.put, sz1, sz2, sz3, i64_w, i32_w]
  rfl
 refine one_ (i := 4) (N := some 19) (mk_ 5 3) rfl rfl (one_of HT_.out (by kernel_rfl)) (by decide) (fun K hK => ?_)
 refine goes_ Tryd.func47 (by kernel_rfl) rfl #[.pointer (some ⟨g331, 0, none⟩), .slice Ao30 y352.length co30] (by rfl) rfl rfl lz ?_
 with_reducible refine (spec_l1PickInt.calls g331 t328 t349 t350 _ _ y352 t355 t356 t357 w _ ?side1 ?side2 ?side3 ?side4 ?side5 A5.out).mono ?_
 (case side1 => repeat (first | (with_reducible first | exact HI331.out | apply IsS120.alloc | apply IsS120.drewN | apply IsS120.drew | apply IsS120.set_1 | apply IsS120.set_2 | apply IsS120.far (p := ⟨gb326, _, none⟩) (hne := NB331_326.out) | apply IsS120.far (p := ⟨gb327, _, none⟩) (hne := NB331_327.out) | apply IsS120.far (p := ⟨gb346, _, none⟩) (hne := NB331_346.out) | apply IsS120.far (p := ⟨gb351, _, none⟩) (hne := NB331_351.out)) | exact HI331.out))
 (case side2 => repeat (first | (with_reducible first | exact HB.out | apply below_alloc | apply pw_below_drewN | apply below_drew1 | refine below_set ?_ (IsS120.ge HI331.out) | refine below_set ?_ GE326.out | refine below_set ?_ GE327.out | refine below_set ?_ GE346.out | refine below_set ?_ GE351.out) | exact HB.out))
 (case side3 => exact cz (Kd.R_reads' HO354.out).2.2)
 (case side4 => exact (Kd.R_reads' HO354.out).2.1)
 (case side5 => exact far_slice (IsS120.own_ne HI331.out HO354.out (by decide)))
 rintro e w31 ⟨rfl, hi, hb, hk⟩
 refine ⟨_, rfl, ?_⟩
 have n0_ := Aside0.mk (KeepBut.blk hk (g' := gb326) (o := .cells #[.slice none 0 0, .slice none 0 0, .slice none 0 0, .slice none 0 0] 29 (0, 0)) (kz BK326.out) NB326_331.out (by simp))
 have n1_ := Aside0.mk (KeepBut.blk hk (g' := gb327) (o := .cells #[.int .i64 0, .int .i64 0] 35 (0, 0)) (kz BK327.out) NB327_331.out (by simp))
 have n2_ := Aside0.mk (Kd.R_mono (Kd.R_keep (IsS120.apart (show IsS120 w _ g331 t328 t349 t350 from by repeat (first | (with_reducible first | exact HI331.out | apply IsS120.alloc | apply IsS120.drewN | apply IsS120.drew | apply IsS120.set_1 | apply IsS120.set_2 | apply IsS120.far (p := ⟨gb326, _, none⟩) (hne := NB331_326.out) | apply IsS120.far (p := ⟨gb327, _, none⟩) (hne := NB331_327.out) | apply IsS120.far (p := ⟨gb346, _, none⟩) (hne := NB331_346.out) | apply IsS120.far (p := ⟨gb351, _, none⟩) (hne := NB331_351.out)) | exact HI331.out)) (rz HO334.out) (by decide)) hk (fun _ h => h.2)) (fun _ h => h.1))
 have n3_ := Aside0.mk (Kd.R_mono (Kd.R_keep (IsS120.apart (show IsS120 w _ g331 t328 t349 t350 from by repeat (first | (with_reducible first | exact HI331.out | apply IsS120.alloc | apply IsS120.drewN | apply IsS120.drew | apply IsS120.set_1 | apply IsS120.set_2 | apply IsS120.far (p := ⟨gb326, _, none⟩) (hne := NB331_326.out) | apply IsS120.far (p := ⟨gb327, _, none⟩) (hne := NB331_327.out) | apply IsS120.far (p := ⟨gb346, _, none⟩) (hne := NB331_346.out) | apply IsS120.far (p := ⟨gb351, _, none⟩) (hne := NB331_351.out)) | exact HI331.out)) (rz HO337.out) (by decide)) hk (fun _ h => h.2)) (fun _ h => h.1))
 have n4_ := Aside0.mk (Kd.R_mono (Kd.R_keep (IsS120.apart (show IsS120 w _ g331 t328 t349 t350 from by repeat (first | (with_reducible first | exact HI331.out | apply IsS120.alloc | apply IsS120.drewN | apply IsS120.drew | apply IsS120.set_1 | apply IsS120.set_2 | apply IsS120.far (p := ⟨gb326, _, none⟩) (hne := NB331_326.out) | apply IsS120.far (p := ⟨gb327, _, none⟩) (hne := NB331_327.out) | apply IsS120.far (p := ⟨gb346, _, none⟩) (hne := NB331_346.out) | apply IsS120.far (p := ⟨gb351, _, none⟩) (hne := NB331_351.out)) | exact HI331.out)) (rz HO340.out) (by decide)) hk (fun _ h => h.2)) (fun _ h => h.1))
 have n5_ := Aside0.mk (Kd.R_mono (Kd.R_keep (IsS120.apart (show IsS120 w _ g331 t328 t349 t350 from by repeat (first | (with_reducible first | exact HI331.out | apply IsS120.alloc | apply IsS120.drewN | apply IsS120.drew | apply IsS120.set_1 | apply IsS120.set_2 | apply IsS120.far (p := ⟨gb326, _, none⟩) (hne := NB331_326.out) | apply IsS120.far (p := ⟨gb327, _, none⟩) (hne := NB331_327.out) | apply IsS120.far (p := ⟨gb346, _, none⟩) (hne := NB331_346.out) | apply IsS120.far (p := ⟨gb351, _, none⟩) (hne := NB331_351.out)) | exact HI331.out)) (rz HO343.out) (by decide)) hk (fun _ h => h.2)) (fun _ h => h.1))
 have n6_ := Aside0.mk (KeepBut.blk hk (g' := gb346) (o := .cells #[.slice Ao11 t332.length co11, .slice Ao16 t335.length co16, .slice Ao17 t338.length co17, .slice Ao18 t341.length co18] 29 (0, 0)) (kz BK346.out) NB346_331.out (by simp))
 have n7_ := Aside0.mk (KeepBut.blk hk (g' := gb351) (o := .cells #[.int .i64 t347, .int .i64 t348] 35 (0, 0)) (kz BK351.out) NB351_331.out (by simp))
 have n8_ := Aside0.mk (Kd.R_mono (Kd.R_keep (IsS120.apart (show IsS120 w _ g331 t328 t349 t350 from by repeat (first | (with_reducible first | exact HI331.out | apply IsS120.alloc | apply IsS120.drewN | apply IsS120.drew | apply IsS120.set_1 | apply IsS120.set_2 | apply IsS120.far (p := ⟨gb326, _, none⟩) (hne := NB331_326.out) | apply IsS120.far (p := ⟨gb327, _, none⟩) (hne := NB331_327.out) | apply IsS120.far (p := ⟨gb346, _, none⟩) (hne := NB331_346.out) | apply IsS120.far (p := ⟨gb351, _, none⟩) (hne := NB331_351.out)) | exact HI331.out)) (rz HO354.out) (by decide)) hk (fun _ h => h.2)) (fun _ h => h.1))
 have n9_ := Aside0.mk (hb)
 have n10_ := Aside0.mk (hi)
 clear BK326
 clear BK327
 clear HO334
 clear HO337
 clear HO340
 clear HO343
 clear BK346
 clear BK351
 clear HO354
 clear HB
 clear HI331
 have BK326 := n0_
 have BK327 := n1_
 have HO334 := n2_
 have HO337 := n3_
 have HO340 := n4_
 have HO343 := n5_
 have BK346 := n6_
 have BK351 := n7_
 have HO354 := n8_
 have HB := n9_
 have HI331 := n10_
 clear n0_ n1_ n2_ n3_ n4_ n5_ n6_ n7_ n8_ n9_ n10_
 (try clear hb)
 (try clear hb2)
 (try clear hk)
 (try clear hi)
 refine hK.out _ _ ⟨(blk_cell BK346.out 0).trans rfl, (blk_cell BK346.out 1).trans rfl, (blk_cell BK346.out 2).trans rfl, (blk_cell BK346.out 3).trans rfl, (blk_cell BK351.out 0).trans rfl, (blk_cell BK351.out 1).trans rfl⟩ (fun hHeld => ?_)
 clear hK K
 refine norm_ (a' := ?_) ?_ ?_
 rotate_left
 ·show Act.put _ (some 19) _ = _
  simp only [Act.put, sz1, sz2, sz3, i64_w, i32_w]
  rfl
 refine one_ (i := 5) (N := none) (mk_ 6 2) rfl rfl (one_of HT_.out (by kernel_rfl)) (by decide) (fun K hK => ?_)
 have hs32 : w31.cell? ⟨gb326, 0, none⟩ = some (.slice none 0 0) := (blk_cell BK326.out 0).trans rfl
 have hfs32 := blk_frozen BK326.out 0
 have hns32_1 := NB327_326.out
 have hns32_2 := NB346_326.out
 have hns32_3 := NB351_326.out
 have hms32_1 := NB326_327.out
 have hms32_2 := NB326_346.out
 have hms32_3 := NB326_351.out
 have hs33 : w31.cell? ⟨gb326, 1, none⟩ = some (.slice none 0 0) := (blk_cell BK326.out 1).trans rfl
 have hfs33 := blk_frozen BK326.out 1
 have hns33_1 := NB327_326.out
 have hns33_2 := NB346_326.out
 have hns33_3 := NB351_326.out
 have hms33_1 := NB326_327.out
 have hms33_2 := NB326_346.out
 have hms33_3 := NB326_351.out
 have hs34 : w31.cell? ⟨gb326, 2, none⟩ = some (.slice none 0 0) := (blk_cell BK326.out 2).trans rfl
 have hfs34 := blk_frozen BK326.out 2
 have hns34_1 := NB327_326.out
 have hns34_2 := NB346_326.out
 have hns34_3 := NB351_326.out
 have hms34_1 := NB326_327.out
 have hms34_2 := NB326_346.out
 have hms34_3 := NB326_351.out
 have hs35 : w31.cell? ⟨gb326, 3, none⟩ = some (.slice none 0 0) := (blk_cell BK326.out 3).trans rfl
 have hfs35 := blk_frozen BK326.out 3
 have hns35_1 := NB327_326.out
 have hns35_2 := NB346_326.out
 have hns35_3 := NB351_326.out
 have hms35_1 := NB326_327.out
 have hms35_2 := NB326_346.out
 have hms35_3 := NB326_351.out
 refine skip_ (w1 := ?_) (by rfl) rfl ?_ ?_
 rotate_left
 ·go_simp
  rfl
 refine hK.out _ _ ⟨((cell_far (p := ⟨gb326, _, none⟩) NB346_326.out _).trans (((cell_far (p := ⟨gb326, _, none⟩) NB346_326.out _).trans (((cell_far (p := ⟨gb326, _, none⟩) NB346_326.out _).trans (((cell_far (p := ⟨gb326, _, none⟩) NB346_326.out _).trans (hHeld.1)))))))), ((cell_far (p := ⟨gb326, _, none⟩) NB346_326.out _).trans (((cell_far (p := ⟨gb326, _, none⟩) NB346_326.out _).trans (((cell_far (p := ⟨gb326, _, none⟩) NB346_326.out _).trans (((cell_far (p := ⟨gb326, _, none⟩) NB346_326.out _).trans (hHeld.2.1)))))))), ((cell_far (p := ⟨gb326, _, none⟩) NB346_326.out _).trans (((cell_far (p := ⟨gb326, _, none⟩) NB346_326.out _).trans (((cell_far (p := ⟨gb326, _, none⟩) NB346_326.out _).trans (((cell_far (p := ⟨gb326, _, none⟩) NB346_326.out _).trans (hHeld.2.2.1)))))))), ((cell_far (p := ⟨gb326, _, none⟩) NB346_326.out _).trans (((cell_far (p := ⟨gb326, _, none⟩) NB346_326.out _).trans (((cell_far (p := ⟨gb326, _, none⟩) NB346_326.out _).trans (((cell_far (p := ⟨gb326, _, none⟩) NB346_326.out _).trans (hHeld.2.2.2.1)))))))), ((cell_far (p := ⟨gb326, _, none⟩) NB351_326.out _).trans (((cell_far (p := ⟨gb326, _, none⟩) NB351_326.out _).trans (((cell_far (p := ⟨gb326, _, none⟩) NB351_326.out _).trans (((cell_far (p := ⟨gb326, _, none⟩) NB351_326.out _).trans (hHeld.2.2.2.2.1)))))))), ((cell_far (p := ⟨gb326, _, none⟩) NB351_326.out _).trans (((cell_far (p := ⟨gb326, _, none⟩) NB351_326.out _).trans (((cell_far (p := ⟨gb326, _, none⟩) NB351_326.out _).trans (((cell_far (p := ⟨gb326, _, none⟩) NB351_326.out _).trans (hHeld.2.2.2.2.2))))))))⟩ (fun hHeld => ?_)
 clear hK K
 refine one_ (i := 6) (N := none) (mk_ 7 1) rfl rfl (one_of HT_.out (by kernel_rfl)) (by decide) (fun K hK => ?_)
 have hs36 : w31.cell? ⟨gb327, 0, none⟩ = some (.int .i64 0) := (blk_cell BK327.out 0).trans rfl
 have hfs36 := blk_frozen BK327.out 0
 have hns36_0 := NB326_327.out
 have hns36_2 := NB346_327.out
 have hns36_3 := NB351_327.out
 have hms36_0 := NB327_326.out
 have hms36_2 := NB327_346.out
 have hms36_3 := NB327_351.out
 have hs37 : w31.cell? ⟨gb327, 1, none⟩ = some (.int .i64 0) := (blk_cell BK327.out 1).trans rfl
 have hfs37 := blk_frozen BK327.out 1
 have hns37_0 := NB326_327.out
 have hns37_2 := NB346_327.out
 have hns37_3 := NB351_327.out
 have hms37_0 := NB327_326.out
 have hms37_2 := NB327_346.out
 have hms37_3 := NB327_351.out
 refine skip_ (w1 := ?_) (by rfl) rfl ?_ ?_
 rotate_left
 ·go_simp
  rfl
 refine hK.out _ _ ⟨((cell_far (p := ⟨gb327, _, none⟩) NB346_327.out _).trans (((cell_far (p := ⟨gb327, _, none⟩) NB346_327.out _).trans (hHeld.1)))), ((cell_far (p := ⟨gb327, _, none⟩) NB346_327.out _).trans (((cell_far (p := ⟨gb327, _, none⟩) NB346_327.out _).trans (hHeld.2.1)))), ((cell_far (p := ⟨gb327, _, none⟩) NB346_327.out _).trans (((cell_far (p := ⟨gb327, _, none⟩) NB346_327.out _).trans (hHeld.2.2.1)))), ((cell_far (p := ⟨gb327, _, none⟩) NB346_327.out _).trans (((cell_far (p := ⟨gb327, _, none⟩) NB346_327.out _).trans (hHeld.2.2.2.1)))), ((cell_far (p := ⟨gb327, _, none⟩) NB351_327.out _).trans (((cell_far (p := ⟨gb327, _, none⟩) NB351_327.out _).trans (hHeld.2.2.2.2.1)))), ((cell_far (p := ⟨gb327, _, none⟩) NB351_327.out _).trans (((cell_far (p := ⟨gb327, _, none⟩) NB351_327.out _).trans (hHeld.2.2.2.2.2))))⟩ (fun hHeld => ?_)
 clear hK K
 refine pv 7 4 (mk_ 8 0) HT_ rfl rfl ?_
 refine done_ (done_of HT_.out (by kernel_rfl)) ?_
 try go_wp2
 refine bodyPost_ret (results_list (rs := [.cell 2 29, .cell 3 35, .tmp 4]) rfl (by simp) (.cell gb326 29 #[.slice Ao11 t332.length co11, .slice Ao16 t335.length co16, .slice Ao17 t338.length co17, .slice Ao18 t341.length co18] (0, 0) _ rfl (by refine kq ?_; refine blk_far ?_ NB326_327.out _; refine kq ?_; refine blk_far ?_ NB326_327.out _; refine kq ?_; refine blk_put (cs := #[.slice Ao11 t332.length co11, .slice Ao16 t335.length co16, .slice Ao17 t338.length co17, .slice none 0 0]) ?_ 3 _ rfl; refine kq ?_; refine blk_put (cs := #[.slice Ao11 t332.length co11, .slice Ao16 t335.length co16, .slice none 0 0, .slice none 0 0]) ?_ 2 _ rfl; refine kq ?_; refine blk_put (cs := #[.slice Ao11 t332.length co11, .slice none 0 0, .slice none 0 0, .slice none 0 0]) ?_ 1 _ rfl; refine kq ?_; refine blk_put (cs := #[.slice none 0 0, .slice none 0 0, .slice none 0 0, .slice none 0 0]) ?_ 0 _ rfl; refine kq ?_; exact BK326.out) Tryd.underlying29 rfl (by kernel_rfl) (.cell gb327 35 #[.int .i64 t347, .int .i64 t348] (0, 0) _ rfl (by refine kq ?_; refine blk_put (cs := #[.int .i64 t347, .int .i64 0]) ?_ 1 _ rfl; refine kq ?_; refine blk_put (cs := #[.int .i64 0, .int .i64 0]) ?_ 0 _ rfl; refine kq ?_; refine blk_far ?_ NB327_326.out _; refine kq ?_; refine blk_far ?_ NB327_326.out _; refine kq ?_; refine blk_far ?_ NB327_326.out _; refine kq ?_; refine blk_far ?_ NB327_326.out _; refine kq ?_; exact BK327.out) Tryd.underlying35 rfl (by kernel_rfl) (.tmp .nil)))) rfl ?_
 exact ⟨_, _, _, _, gz, by refine rq ?_; first | (with_reducible exact Kd.R_mono (Kd.R_far (p := ⟨gb327, 1, none⟩) (Kd.R_far (p := ⟨gb327, 0, none⟩) (Kd.R_far (p := ⟨gb326, 3, none⟩) (Kd.R_far (p := ⟨gb326, 2, none⟩) (Kd.R_far (p := ⟨gb326, 1, none⟩) (Kd.R_far (p := ⟨gb326, 0, none⟩) (Kd.R_types (Kd.R_types HO334.out BK326.out (by decide)) BK327.out (by decide)) (fun _ hk => hk.1.2) (.slice Ao11 t332.length co11)) (fun _ hk => hk.1.2) (.slice Ao16 t335.length co16)) (fun _ hk => hk.1.2) (.slice Ao17 t338.length co17)) (fun _ hk => hk.1.2) (.slice Ao18 t341.length co18)) (fun _ hk => hk.2) (.int .i64 t347)) (fun _ hk => hk.2) (.int .i64 t348)) (fun _ hk => trivial)) | (with_reducible exact Kd.R_mono (Kd.R_far (p := ⟨gb327, 1, none⟩) (Kd.R_drewN (Kd.R_far (p := ⟨gb327, 0, none⟩) (Kd.R_far (p := ⟨gb326, 3, none⟩) (Kd.R_far (p := ⟨gb326, 2, none⟩) (Kd.R_far (p := ⟨gb326, 1, none⟩) (Kd.R_far (p := ⟨gb326, 0, none⟩) (Kd.R_types (Kd.R_types HO334.out BK326.out (by decide)) BK327.out (by decide)) (fun _ hk => hk.1.2) (.slice Ao11 t332.length co11)) (fun _ hk => hk.1.2) (.slice Ao16 t335.length co16)) (fun _ hk => hk.1.2) (.slice Ao17 t338.length co17)) (fun _ hk => hk.1.2) (.slice Ao18 t341.length co18)) (fun _ hk => hk.2) (.int .i64 t347)) _) (fun _ hk => hk.2) (.int .i64 t348)) (fun _ hk => trivial)) | exact Kd.R_mono (Kd.R_far (p := ⟨gb327, 1, none⟩) (Kd.R_drewN (Kd.R_far (p := ⟨gb327, 0, none⟩) (Kd.R_far (p := ⟨gb326, 3, none⟩) (Kd.R_far (p := ⟨gb326, 2, none⟩) (Kd.R_far (p := ⟨gb326, 1, none⟩) (Kd.R_far (p := ⟨gb326, 0, none⟩) (Kd.R_types (Kd.R_types HO334.out BK326.out (by decide)) BK327.out (by decide)) (fun _ hk => hk.1.2) (.slice Ao11 t332.length co11)) (fun _ hk => hk.1.2) (.slice Ao16 t335.length co16)) (fun _ hk => hk.1.2) (.slice Ao17 t338.length co17)) (fun _ hk => hk.1.2) (.slice Ao18 t341.length co18)) (fun _ hk => hk.2) (.int .i64 t347)) _) (fun _ hk => hk.2) (.int .i64 t348)) (fun _ hk => trivial), by refine rq ?_; first | (with_reducible exact Kd.R_mono (Kd.R_far (p := ⟨gb327, 1, none⟩) (Kd.R_far (p := ⟨gb327, 0, none⟩) (Kd.R_far (p := ⟨gb326, 3, none⟩) (Kd.R_far (p := ⟨gb326, 2, none⟩) (Kd.R_far (p := ⟨gb326, 1, none⟩) (Kd.R_far (p := ⟨gb326, 0, none⟩) (Kd.R_types (Kd.R_types HO337.out BK326.out (by decide)) BK327.out (by decide)) (fun _ hk => hk.1.2) (.slice Ao11 t332.length co11)) (fun _ hk => hk.1.2) (.slice Ao16 t335.length co16)) (fun _ hk => hk.1.2) (.slice Ao17 t338.length co17)) (fun _ hk => hk.1.2) (.slice Ao18 t341.length co18)) (fun _ hk => hk.2) (.int .i64 t347)) (fun _ hk => hk.2) (.int .i64 t348)) (fun _ hk => trivial)) | (with_reducible exact Kd.R_mono (Kd.R_far (p := ⟨gb327, 1, none⟩) (Kd.R_drewN (Kd.R_far (p := ⟨gb327, 0, none⟩) (Kd.R_far (p := ⟨gb326, 3, none⟩) (Kd.R_far (p := ⟨gb326, 2, none⟩) (Kd.R_far (p := ⟨gb326, 1, none⟩) (Kd.R_far (p := ⟨gb326, 0, none⟩) (Kd.R_types (Kd.R_types HO337.out BK326.out (by decide)) BK327.out (by decide)) (fun _ hk => hk.1.2) (.slice Ao11 t332.length co11)) (fun _ hk => hk.1.2) (.slice Ao16 t335.length co16)) (fun _ hk => hk.1.2) (.slice Ao17 t338.length co17)) (fun _ hk => hk.1.2) (.slice Ao18 t341.length co18)) (fun _ hk => hk.2) (.int .i64 t347)) _) (fun _ hk => hk.2) (.int .i64 t348)) (fun _ hk => trivial)) | exact Kd.R_mono (Kd.R_far (p := ⟨gb327, 1, none⟩) (Kd.R_drewN (Kd.R_far (p := ⟨gb327, 0, none⟩) (Kd.R_far (p := ⟨gb326, 3, none⟩) (Kd.R_far (p := ⟨gb326, 2, none⟩) (Kd.R_far (p := ⟨gb326, 1, none⟩) (Kd.R_far (p := ⟨gb326, 0, none⟩) (Kd.R_types (Kd.R_types HO337.out BK326.out (by decide)) BK327.out (by decide)) (fun _ hk => hk.1.2) (.slice Ao11 t332.length co11)) (fun _ hk => hk.1.2) (.slice Ao16 t335.length co16)) (fun _ hk => hk.1.2) (.slice Ao17 t338.length co17)) (fun _ hk => hk.1.2) (.slice Ao18 t341.length co18)) (fun _ hk => hk.2) (.int .i64 t347)) _) (fun _ hk => hk.2) (.int .i64 t348)) (fun _ hk => trivial), by refine rq ?_; first | (with_reducible exact Kd.R_mono (Kd.R_far (p := ⟨gb327, 1, none⟩) (Kd.R_far (p := ⟨gb327, 0, none⟩) (Kd.R_far (p := ⟨gb326, 3, none⟩) (Kd.R_far (p := ⟨gb326, 2, none⟩) (Kd.R_far (p := ⟨gb326, 1, none⟩) (Kd.R_far (p := ⟨gb326, 0, none⟩) (Kd.R_types (Kd.R_types HO340.out BK326.out (by decide)) BK327.out (by decide)) (fun _ hk => hk.1.2) (.slice Ao11 t332.length co11)) (fun _ hk => hk.1.2) (.slice Ao16 t335.length co16)) (fun _ hk => hk.1.2) (.slice Ao17 t338.length co17)) (fun _ hk => hk.1.2) (.slice Ao18 t341.length co18)) (fun _ hk => hk.2) (.int .i64 t347)) (fun _ hk => hk.2) (.int .i64 t348)) (fun _ hk => trivial)) | (with_reducible exact Kd.R_mono (Kd.R_far (p := ⟨gb327, 1, none⟩) (Kd.R_drewN (Kd.R_far (p := ⟨gb327, 0, none⟩) (Kd.R_far (p := ⟨gb326, 3, none⟩) (Kd.R_far (p := ⟨gb326, 2, none⟩) (Kd.R_far (p := ⟨gb326, 1, none⟩) (Kd.R_far (p := ⟨gb326, 0, none⟩) (Kd.R_types (Kd.R_types HO340.out BK326.out (by decide)) BK327.out (by decide)) (fun _ hk => hk.1.2) (.slice Ao11 t332.length co11)) (fun _ hk => hk.1.2) (.slice Ao16 t335.length co16)) (fun _ hk => hk.1.2) (.slice Ao17 t338.length co17)) (fun _ hk => hk.1.2) (.slice Ao18 t341.length co18)) (fun _ hk => hk.2) (.int .i64 t347)) _) (fun _ hk => hk.2) (.int .i64 t348)) (fun _ hk => trivial)) | exact Kd.R_mono (Kd.R_far (p := ⟨gb327, 1, none⟩) (Kd.R_drewN (Kd.R_far (p := ⟨gb327, 0, none⟩) (Kd.R_far (p := ⟨gb326, 3, none⟩) (Kd.R_far (p := ⟨gb326, 2, none⟩) (Kd.R_far (p := ⟨gb326, 1, none⟩) (Kd.R_far (p := ⟨gb326, 0, none⟩) (Kd.R_types (Kd.R_types HO340.out BK326.out (by decide)) BK327.out (by decide)) (fun _ hk => hk.1.2) (.slice Ao11 t332.length co11)) (fun _ hk => hk.1.2) (.slice Ao16 t335.length co16)) (fun _ hk => hk.1.2) (.slice Ao17 t338.length co17)) (fun _ hk => hk.1.2) (.slice Ao18 t341.length co18)) (fun _ hk => hk.2) (.int .i64 t347)) _) (fun _ hk => hk.2) (.int .i64 t348)) (fun _ hk => trivial), by refine rq ?_; first | (with_reducible exact Kd.R_mono (Kd.R_far (p := ⟨gb327, 1, none⟩) (Kd.R_far (p := ⟨gb327, 0, none⟩) (Kd.R_far (p := ⟨gb326, 3, none⟩) (Kd.R_far (p := ⟨gb326, 2, none⟩) (Kd.R_far (p := ⟨gb326, 1, none⟩) (Kd.R_far (p := ⟨gb326, 0, none⟩) (Kd.R_mono (Kd.R_types HO343.out BK326.out (by decide)) (fun k_ hk => (⟨hk, hk.1.1⟩ : _ /\ k_ ≠ gb327))) (fun _ hk => hk.1.2) (.slice Ao11 t332.length co11)) (fun _ hk => hk.1.2) (.slice Ao16 t335.length co16)) (fun _ hk => hk.1.2) (.slice Ao17 t338.length co17)) (fun _ hk => hk.1.2) (.slice Ao18 t341.length co18)) (fun _ hk => hk.2) (.int .i64 t347)) (fun _ hk => hk.2) (.int .i64 t348)) (fun _ hk => trivial)) | (with_reducible exact Kd.R_mono (Kd.R_far (p := ⟨gb327, 1, none⟩) (Kd.R_drewN (Kd.R_far (p := ⟨gb327, 0, none⟩) (Kd.R_far (p := ⟨gb326, 3, none⟩) (Kd.R_far (p := ⟨gb326, 2, none⟩) (Kd.R_far (p := ⟨gb326, 1, none⟩) (Kd.R_far (p := ⟨gb326, 0, none⟩) (Kd.R_mono (Kd.R_types HO343.out BK326.out (by decide)) (fun k_ hk => (⟨hk, hk.1.1⟩ : _ /\ k_ ≠ gb327))) (fun _ hk => hk.1.2) (.slice Ao11 t332.length co11)) (fun _ hk => hk.1.2) (.slice Ao16 t335.length co16)) (fun _ hk => hk.1.2) (.slice Ao17 t338.length co17)) (fun _ hk => hk.1.2) (.slice Ao18 t341.length co18)) (fun _ hk => hk.2) (.int .i64 t347)) _) (fun _ hk => hk.2) (.int .i64 t348)) (fun _ hk => trivial)) | exact Kd.R_mono (Kd.R_far (p := ⟨gb327, 1, none⟩) (Kd.R_drewN (Kd.R_far (p := ⟨gb327, 0, none⟩) (Kd.R_far (p := ⟨gb326, 3, none⟩) (Kd.R_far (p := ⟨gb326, 2, none⟩) (Kd.R_far (p := ⟨gb326, 1, none⟩) (Kd.R_far (p := ⟨gb326, 0, none⟩) (Kd.R_mono (Kd.R_types HO343.out BK326.out (by decide)) (fun k_ hk => (⟨hk, hk.1.1⟩ : _ /\ k_ ≠ gb327))) (fun _ hk => hk.1.2) (.slice Ao11 t332.length co11)) (fun _ hk => hk.1.2) (.slice Ao16 t335.length co16)) (fun _ hk => hk.1.2) (.slice Ao17 t338.length co17)) (fun _ hk => hk.1.2) (.slice Ao18 t341.length co18)) (fun _ hk => hk.2) (.int .i64 t347)) _) (fun _ hk => hk.2) (.int .i64 t348)) (fun _ hk => trivial), by repeat (first | (with_reducible first | exact HB.out | apply below_alloc | apply pw_below_drewN | apply below_drew1 | refine below_set ?_ (IsS120.ge HI331.out) | refine below_set ?_ GE326.out | refine below_set ?_ GE327.out | refine below_set ?_ GE346.out | refine below_set ?_ GE351.out) | exact HB.out)⟩
def strconv_Itoa_49.f (a0 : Int) : Option (ByteArray) := if -9223372036854775808 <= a0 then (if a0 <= 9223372036854775807 then (some (⟨(Lib.itoa a0).toArray⟩ : ByteArray)) else (none)) else (none)
theorem strconv_Itoa_49.calls (a0 : Int) (r : ByteArray) (w : World) (h : strconv_Itoa_49.f a0 = some r) (hT_ : PW w) :
  Calls Tryd.prog 49 #[.int .i64 a0] w fun e w' => e = .returned (.string r) /\ Below w.heap.size w w' := by
 unfold strconv_Itoa_49.f at h
 split at h
 ·split at h
  ·rename_i h0 h1
   obtain rfl := Option.some.inj h
   exact (Tryd.strconv_Itoa a0 h0 h1 w hT_.tab).mono fun e w' ⟨h1, n, os, h2⟩ => ⟨h1, by rw [h2]; exact below_grow _ _ _⟩
  ·cases h
 ·cases h
def impl_Dec.f (a0 : Int) : Option (ByteArray) := (strconv_Itoa_49.f a0).bind fun t358 => (some t358)
set_option maxHeartbeats 80000000 in
set_option maxRecDepth 100000 in
theorem impl_Dec.calls (a0 : Int) (r : ByteArray) (w : World) (h : impl_Dec.f a0 = some r) (hT_ : PW w) :
  Calls Tryd.prog 18 #[.int .i64 a0] w fun e w' => e = .returned (.string r) /\ Below w.heap.size w w' := by
 have HB := Aside0.mk (Below.refl w.heap.size w)
 have H : ((strconv_Itoa_49.f a0).bind fun t358 => (some t358)) = some r := h
 clear h
 replace H := bi H
 obtain ⟨t358, A20, H⟩ := H
 try dsimp only at H
 have A2 := Aside0.mk A20
 clear A20
 obtain rfl := Option.some.inj H
 go_enter Tryd.func18, Tryd.ntmps18
 go_wp2_with (first | ((with_reducible refine gate_callee (f := 49) rfl ?_); refine goesL_ (some 4) rfl rfl Tryd.func49 (by kernel_rfl) rfl #[.int .i64 a0] rfl lz ?_; (with_reducible refine (strconv_Itoa_49.calls a0 t358 _ A2.out ?hT_).mono ?_); (case hT_ => exact PW.below hT_ (bz0 HB.out)); rintro e w3 ⟨rfl, hb⟩; refine ⟨_, rfl, ?_⟩; replace HB := Aside0.mk (below_step (bz0 HB.out) hb); (try clear hb); (try clear hi)))
 go_ret
 exact ⟨gz, (bz0 HB.out)⟩
end Go.Proofs.YtlhofeikcaejpaaDoor.PFnValues
