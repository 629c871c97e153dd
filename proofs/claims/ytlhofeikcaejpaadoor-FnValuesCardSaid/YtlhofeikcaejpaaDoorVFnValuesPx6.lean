/- PFnValuesx6, of the words and walks that the law FnValues needs; made by this session's program out of printed texts. -/

import Derived.Test.YtlhofeikcaejpaaDoorVFnValuesPx0
import Derived.Test.YtlhofeikcaejpaaDoorVFnValuesPx4
import Derived.Test.YtlhofeikcaejpaaDoorVFnValuesPx5
namespace Go.Proofs.YtlhofeikcaejpaaDoor.PFnValues
open Go.RowKit Go.Proofs.YtlhofeikcaejpaaDoorW.PrintWords Go.Proofs.YtlhofeikcaejpaaDoorW.PrintLast Go.Proofs.YtlhofeikcaejpaaDoorW.PrintMore
attribute [local go_sem] max2_int min2_int max_two min_two max_three min_three max_four min_four
set_option linter.unusedVariables false
set_option linter.unusedSimpArgs false
def impl_Heap_lookUp.l0 : Nat -> Int -> List (S41) -> List (S86) -> List (S47) -> List (S35) -> Int -> Int -> Option (Int × Int × Bool)
 | 0, _, _, _, _, _, _, _ => none
 | k + 1, x1, x276000, x276001, x276002, x276003, x277000, x277001 => if x1 ≥ 0 then (if 0 <= x1 then (if x1 < (x276000.length : Int) then (if ((rd_T41 x276000 x1).f0) = x277000 then (if ((rd_T41 x276000 x1).f1) = x277001 then (some ((rd_T41 x276000 x1).f2.f0, (rd_T41 x276000 x1).f2.f1, true)) else (impl_Heap_lookUp.l0 k ((rd_T41 x276000 x1).f3) x276000 x276001 x276002 x276003 x277000 x277001)) else (impl_Heap_lookUp.l0 k ((rd_T41 x276000 x1).f3) x276000 x276001 x276002 x276003 x277000 x277001)) else (none)) else (none)) else (some (0, 0, false))
def impl_Heap_lookUp.f (k : Nat) (l0_0 : List (S41)) (l0_1 : List (S86)) (l0_2 : List (S47)) (l0_3 : List (S35)) (a1 : Int) (a2_0 : Int) (a2_1 : Int) : Option (Int × Int × Bool) := impl_Heap_lookUp.l0 k a1 l0_0 l0_1 l0_2 l0_3 a2_0 a2_1
theorem impl_Heap_lookUp.mono_l : ∀ k, (∀ y0 y1 y2 y3 y4 y5 y6, LeO (impl_Heap_lookUp.l0 k y0 y1 y2 y3 y4 y5 y6) (impl_Heap_lookUp.l0 (k + 1) y0 y1 y2 y3 y4 y5 y6))
 | 0 => fun _ _ _ _ _ _ _ r h => by simp [impl_Heap_lookUp.l0] at h
 | k + 1 => by
  have ih0 := impl_Heap_lookUp.mono_l k
  ·intro y0 y1 y2 y3 y4 y5 y6
   unfold impl_Heap_lookUp.l0
   with_reducible repeat' first | exact ih0 _ _ _ _ _ _ _ | exact lrz _ | exact lnz _ | refine liz ?_ ?_ | refine lbz ?_ fun _ => ?_
theorem impl_Heap_lookUp.mono : ∀ a0 a1 a2 a3 a4 a5 a6 k, LeO (impl_Heap_lookUp.f k a0 a1 a2 a3 a4 a5 a6) (impl_Heap_lookUp.f (k + 1) a0 a1 a2 a3 a4 a5 a6) := by
 intro a0 a1 a2 a3 a4 a5 a6 k
 have ih0 := impl_Heap_lookUp.mono_l k
 unfold impl_Heap_lookUp.f
 with_reducible repeat' first | exact ih0 _ _ _ _ _ _ _ | exact lrz _ | exact lnz _ | refine liz ?_ ?_ | refine lbz ?_ fun _ => ?_
set_option maxHeartbeats 80000000 in
set_option maxRecDepth 100000 in
theorem impl_Heap_lookUp.calls (k : Nat) (A0_0 : Option Addr) (c0_0 : Nat) (l0_0 : List (S41)) (A0_1 : Option Addr) (c0_1 : Nat) (l0_1 : List (S86)) (A0_2 : Option Addr) (c0_2 : Nat) (l0_2 : List (S47)) (A0_3 : Option Addr) (c0_3 : Nat) (l0_3 : List (S35)) (a1 : Int) (a2_0 : Int) (a2_1 : Int) (r1 : Int) (r2 : Int) (r3 : Bool) (w : World) (hr0_0 : Kd.C k41 w A0_0 l0_0.length l0_0) (hc0_0 : l0_0.length <= c0_0) (hr0_1 : Kd.C k86 w A0_1 l0_1.length l0_1) (hc0_1 : l0_1.length <= c0_1) (hr0_2 : Kd.C k47 w A0_2 l0_2.length l0_2) (hc0_2 : l0_2.length <= c0_2) (hr0_3 : Kd.C k35 w A0_3 l0_3.length l0_3) (hc0_3 : l0_3.length <= c0_3) (gb275 : Nat) (hcap : w.heap[gb275]? = some (.cells #[.slice A0_0 l0_0.length c0_0, .slice A0_1 l0_1.length c0_1, .slice A0_2 l0_2.length c0_2, .slice A0_3 l0_3.length c0_3] 29 (0, 0))) (h : impl_Heap_lookUp.f k l0_0 l0_1 l0_2 l0_3 a1 a2_0 a2_1 = some (r1, r2, r3)) :
  Calls Tryd.prog 43 #[.pointer (some ⟨gb275, 0, none⟩), .int .i64 a1, .agg #[.int .i64 a2_0, .int .i64 a2_1]] w fun e w' => e = .returned (.tuple #[.agg #[.int .i64 r1, .int .i64 r2], .bool r3]) /\ Below w.heap.size w w' := by
 have hu29 := Tryd.underlying29
 have hu31 := Tryd.underlying31
 have hu35 := Tryd.underlying35
 have hu41 := Tryd.underlying41
 have HR0_0 := Aside0.mk hr0_0
 have HC0_0 := Aside0.mk hc0_0
 clear hr0_0 hc0_0
 have HR0_1 := Aside0.mk hr0_1
 have HC0_1 := Aside0.mk hc0_1
 clear hr0_1 hc0_1
 have HR0_2 := Aside0.mk hr0_2
 have HC0_2 := Aside0.mk hc0_2
 clear hr0_2 hc0_2
 have HR0_3 := Aside0.mk hr0_3
 have HC0_3 := Aside0.mk hc0_3
 clear hr0_3 hc0_3
 have HB := Aside0.mk (Below.refl w.heap.size w)
 have BK275 := Aside0.mk hcap
 clear hcap
 have H : (impl_Heap_lookUp.l0 k a1 l0_0 l0_1 l0_2 l0_3 a2_0 a2_1) = some (r1, r2, r3) := h
 clear h
 have H' := Aside0.mk H
 clear H
 go_enter Tryd.func43, Tryd.ntmps43
 go_wp2_with (first | ((with_reducible refine gate_dst (N := 5) rfl ?_); refine box_event ?hg (N := 5) ?hd (cs := #[.int .i64 a2_0, .int .i64 a2_1]) (t := 31) ?hr ?_; (case hd => rfl); (case hg => rfl); (case hr => exact vz); intro gb276 hg w5 hbox hb; have BK276 := Aside0.mk (hbox); have GW276 := Aside0.mk ((by rw [hg]; exact (below_size (bz0 HB.out)) : w.heap.size <= gb276)); have GE276 := GW276; replace HB := Aside0.mk (below_step (bz0 HB.out) hb); have NB275_276 := Aside0.mk ((by rw [hg]; exact Nat.ne_of_lt (blk_lt (kz BK275.out)) : gb275 ≠ gb276)); have NB276_275 := Aside0.mk ((by rw [hg]; exact Nat.ne_of_gt (blk_lt (kz BK275.out)) : gb276 ≠ gb275)); replace BK275 := Aside0.mk (blk_below (kz BK275.out) hb); clear hb hbox hg) | ((with_reducible refine gate_dst (N := 6) rfl ?_); refine box_event ?hg (N := 6) ?hd (cs := #[.int .i64 0, .int .i64 0]) (t := 35) ?hr ?_; (case hd => rfl); (case hg => rfl); (case hr => exact vz); intro gb277 hg w6 hbox hb; have BK277 := Aside0.mk (hbox); have GW277 := Aside0.mk ((by rw [hg]; exact (below_size (bz1 HB.out GE276.out)) : w.heap.size <= gb277)); have GE277 := GW277; replace HB := Aside0.mk (below_step (bz1 HB.out GE276.out) hb); have NB275_277 := Aside0.mk ((by rw [hg]; exact Nat.ne_of_lt (blk_lt (kz BK275.out)) : gb275 ≠ gb277)); have NB277_275 := Aside0.mk ((by rw [hg]; exact Nat.ne_of_gt (blk_lt (kz BK275.out)) : gb277 ≠ gb275)); replace BK275 := Aside0.mk (blk_below (kz BK275.out) hb); have NB276_277 := Aside0.mk ((by rw [hg]; exact Nat.ne_of_lt (blk_lt (kz BK276.out)) : gb276 ≠ gb277)); have NB277_276 := Aside0.mk ((by rw [hg]; exact Nat.ne_of_gt (blk_lt (kz BK276.out)) : gb277 ≠ gb276)); replace BK276 := Aside0.mk (blk_below (kz BK276.out) hb); clear hb hbox hg))
 (try simp only [Act.put, sz1, sz2, sz3])
 go_loopg [1] k (fun kq v1 w' => ∃ (x1_1 : Int) (x278000_1 : Int) (x278001_1 : Int), v1 = .int .i64 x1_1 /\ Aside0 (impl_Heap_lookUp.l0 kq x1_1 l0_0 l0_1 l0_2 l0_3 a2_0 a2_1 = some (r1, r2, r3)) /\ Aside0 (kq <= k) /\ Aside0 (w'.heap[gb275]? = some (.cells #[(.slice A0_0 l0_0.length c0_0), (.slice A0_1 l0_1.length c0_1), (.slice A0_2 l0_2.length c0_2), (.slice A0_3 l0_3.length c0_3)] 29 (0, 0))) /\ Aside0 (w'.heap[gb276]? = some (.cells #[.int .i64 a2_0, .int .i64 a2_1] 31 (0, 0))) /\ Aside0 (w'.heap[gb277]? = some (.cells #[.int .i64 x278000_1, .int .i64 x278001_1] 35 (0, 0))) /\ Aside0 (Below w.heap.size w w'))
 case atStart => exact ⟨(a1), (0), (0), ez, H', ⟨Nat.le_refl _⟩, ⟨by refine kq ?_; exact BK275.out⟩, ⟨by refine kq ?_; exact BK276.out⟩, ⟨by refine kq ?_; exact BK277.out⟩, ⟨(bz2 HB.out GE276.out GE277.out)⟩⟩
 case round =>
  clear H'
  try clear p2
  try clear c4
  obtain ⟨x1_1, x278000_1, x278001_1, rfl, HA, HK1, BK275, BK276, BK277, HB⟩ := hrel
  cases gk with
  | zero => exact absurd HA.out (by simp [impl_Heap_lookUp.l0])
  | succ k1 =>
   have H := HA.out
   clear HA
   simp only [impl_Heap_lookUp.l0] at H
   by_cases c7 : x1_1 ≥ 0
   ·rw [if_pos c7] at H
    have c7b0 : decide (0 <= x1_1) = true := decide_eq_true c7
    clear c7
    replace H := iz H
    obtain ⟨c8, H⟩ := H
    have c8b0 := decide_eq_true c8
    clear c8
    replace H := iz H
    obtain ⟨c9, H⟩ := H
    have c9b0 := decide_eq_true c9
    clear c9
    by_cases c10 : ((rd_T41 l0_0 x1_1).f0) = a2_0
    ·rw [if_pos c10] at H
     have c10b0 : (((rd_T41 l0_0 x1_1).f0) == a2_0) = true := beq_iff_eq.mpr c10
     have c10b1 : (((rd_T41 l0_0 x1_1).f0) != a2_0) = false := bne_eq_false_iff_eq.mpr c10
     clear c10
     by_cases c11 : ((rd_T41 l0_0 x1_1).f1) = a2_1
     ·rw [if_pos c11] at H
      have c11b0 : (((rd_T41 l0_0 x1_1).f1) == a2_1) = true := beq_iff_eq.mpr c11
      have c11b1 : (((rd_T41 l0_0 x1_1).f1) != a2_1) = false := bne_eq_false_iff_eq.mpr c11
      clear c11
      simp only [Option.some.injEq, Prod.mk.injEq] at H
      obtain ⟨rfl, rfl, rfl⟩ := H
      have hnb12 := NB275_276.out
      have hnc12 := NB276_275.out
      have hnb13 := NB275_277.out
      have hnc13 := NB277_275.out
      obtain ⟨hcz14_0, hcz14_1, hcz14_2, hcz14_3⟩ := cz4 BK275.out
      obtain ⟨hfz14_0, hfz14_1, hfz14_2, hfz14_3⟩ := fz4 BK275.out
      have p278 : 0 <= (x1_1 : Int) := oz
      have q278 : x1_1 < (l0_0.length : Int) := oz
      obtain ⟨ad278, e278, hx278_0, hx278_1, hx278_2, hx278_3, hx278_4⟩ := at_T41 HR0_0.out x1_1 p278 q278
      cases e278
      replace hx278_0 := hz HB.out hx278_0
      replace hx278_1 := hz HB.out hx278_1
      replace hx278_2 := hz HB.out hx278_2
      replace hx278_3 := hz HB.out hx278_3
      replace hx278_4 := hz HB.out hx278_4
      replace p278 := eq_true p278
      replace q278 := eq_true q278
      go_wp2_with (first | ((with_reducible refine gate_dst (N := 8) rfl ?_); refine box_event ?hg (N := 8) ?hd (cs := #[.int .i64 0, .int .i64 0, .int .i64 0, .int .i64 0, .int .i64 0]) (t := 41) ?hr ?_; (case hd => rfl); (case hg => rfl); (case hr => exact vz); intro gb279 hg w15 hbox hb; have BK279 := Aside0.mk (hbox); have GW279 := Aside0.mk ((by rw [hg]; exact (below_size (bz2 HB.out GE276.out GE277.out)) : w.heap.size <= gb279)); have GE279 := GW279; replace HB := Aside0.mk (below_step (bz2 HB.out GE276.out GE277.out) hb); have NB275_279 := Aside0.mk ((by rw [hg]; exact Nat.ne_of_lt (blk_lt (kz BK275.out)) : gb275 ≠ gb279)); have NB279_275 := Aside0.mk ((by rw [hg]; exact Nat.ne_of_gt (blk_lt (kz BK275.out)) : gb279 ≠ gb275)); replace BK275 := Aside0.mk (blk_below (kz BK275.out) hb); have NB276_279 := Aside0.mk ((by rw [hg]; exact Nat.ne_of_lt (blk_lt (kz BK276.out)) : gb276 ≠ gb279)); have NB279_276 := Aside0.mk ((by rw [hg]; exact Nat.ne_of_gt (blk_lt (kz BK276.out)) : gb279 ≠ gb276)); replace BK276 := Aside0.mk (blk_below (kz BK276.out) hb); have NB277_279 := Aside0.mk ((by rw [hg]; exact Nat.ne_of_lt (blk_lt (kz BK277.out)) : gb277 ≠ gb279)); have NB279_277 := Aside0.mk ((by rw [hg]; exact Nat.ne_of_gt (blk_lt (kz BK277.out)) : gb279 ≠ gb277)); replace BK277 := Aside0.mk (blk_below (kz BK277.out) hb); clear hb hbox hg; have hnb16 := NB279_275.out; have hnc16 := NB275_279.out; have hnb17 := NB279_276.out; have hnc17 := NB276_279.out; have hnb18 := NB279_277.out; have hnc18 := NB277_279.out; obtain ⟨hcz19_0, hcz19_1, hcz19_2, hcz19_3, hcz19_4⟩ := cz5 BK279.out; obtain ⟨hfz19_0, hfz19_1, hfz19_2, hfz19_3, hfz19_4⟩ := fz5 BK279.out; have hnb20 := NB276_277.out; have hnc20 := NB277_276.out; obtain ⟨hcz21_0, hcz21_1⟩ := cz2 BK276.out; obtain ⟨hfz21_0, hfz21_1⟩ := fz2 BK276.out; obtain ⟨hcz22_0, hcz22_1⟩ := cz2 BK277.out; obtain ⟨hfz22_0, hfz22_1⟩ := fz2 BK277.out))
      refine bodyPost_ret (results_ct rfl _ _ gb277 35 #[.int .i64 ((rd_T41 l0_0 x1_1).f2.f0), .int .i64 ((rd_T41 l0_0 x1_1).f2.f1)] (0, 0) _ rfl (by refine kq ?_; refine blk_put (cs := #[.int .i64 ((rd_T41 l0_0 x1_1).f2.f0), .int .i64 x278001_1]) ?_ 1 _ rfl; refine kq ?_; refine blk_put (cs := #[.int .i64 x278000_1, .int .i64 x278001_1]) ?_ 0 _ rfl; refine kq ?_; refine blk_far ?_ NB277_279.out _; refine kq ?_; refine blk_far ?_ NB277_279.out _; refine kq ?_; refine blk_far ?_ NB277_279.out _; refine kq ?_; refine blk_far ?_ NB277_279.out _; refine kq ?_; refine blk_far ?_ NB277_279.out _; refine kq ?_; exact BK277.out) Tryd.underlying35 rfl (by kernel_rfl)) rfl ?_
      exact ⟨gz, (bz3 HB.out GE276.out GE277.out GE279.out)⟩
     ·rw [if_neg c11] at H
      have c11b0 : (((rd_T41 l0_0 x1_1).f1) == a2_1) = false := beq_eq_false_iff_ne.mpr c11
      have c11b1 : (((rd_T41 l0_0 x1_1).f1) != a2_1) = true := bne_iff_ne.mpr c11
      have H' := Aside0.mk H
      clear H
      have hnb23 := NB275_276.out
      have hnc23 := NB276_275.out
      have hnb24 := NB275_277.out
      have hnc24 := NB277_275.out
      obtain ⟨hcz25_0, hcz25_1, hcz25_2, hcz25_3⟩ := cz4 BK275.out
      obtain ⟨hfz25_0, hfz25_1, hfz25_2, hfz25_3⟩ := fz4 BK275.out
      have p278 : 0 <= (x1_1 : Int) := oz
      have q278 : x1_1 < (l0_0.length : Int) := oz
      obtain ⟨ad278, e278, hx278_0, hx278_1, hx278_2, hx278_3, hx278_4⟩ := at_T41 HR0_0.out x1_1 p278 q278
      cases e278
      replace hx278_0 := hz HB.out hx278_0
      replace hx278_1 := hz HB.out hx278_1
      replace hx278_2 := hz HB.out hx278_2
      replace hx278_3 := hz HB.out hx278_3
      replace hx278_4 := hz HB.out hx278_4
      replace p278 := eq_true p278
      replace q278 := eq_true q278
      go_wp2_with (first | ((with_reducible refine gate_dst (N := 8) rfl ?_); refine box_event ?hg (N := 8) ?hd (cs := #[.int .i64 0, .int .i64 0, .int .i64 0, .int .i64 0, .int .i64 0]) (t := 41) ?hr ?_; (case hd => rfl); (case hg => rfl); (case hr => exact vz); intro gb279 hg w26 hbox hb; have BK279 := Aside0.mk (hbox); have GW279 := Aside0.mk ((by rw [hg]; exact (below_size (bz2 HB.out GE276.out GE277.out)) : w.heap.size <= gb279)); have GE279 := GW279; replace HB := Aside0.mk (below_step (bz2 HB.out GE276.out GE277.out) hb); have NB275_279 := Aside0.mk ((by rw [hg]; exact Nat.ne_of_lt (blk_lt (kz BK275.out)) : gb275 ≠ gb279)); have NB279_275 := Aside0.mk ((by rw [hg]; exact Nat.ne_of_gt (blk_lt (kz BK275.out)) : gb279 ≠ gb275)); replace BK275 := Aside0.mk (blk_below (kz BK275.out) hb); have NB276_279 := Aside0.mk ((by rw [hg]; exact Nat.ne_of_lt (blk_lt (kz BK276.out)) : gb276 ≠ gb279)); have NB279_276 := Aside0.mk ((by rw [hg]; exact Nat.ne_of_gt (blk_lt (kz BK276.out)) : gb279 ≠ gb276)); replace BK276 := Aside0.mk (blk_below (kz BK276.out) hb); have NB277_279 := Aside0.mk ((by rw [hg]; exact Nat.ne_of_lt (blk_lt (kz BK277.out)) : gb277 ≠ gb279)); have NB279_277 := Aside0.mk ((by rw [hg]; exact Nat.ne_of_gt (blk_lt (kz BK277.out)) : gb279 ≠ gb277)); replace BK277 := Aside0.mk (blk_below (kz BK277.out) hb); clear hb hbox hg; have hnb27 := NB279_275.out; have hnc27 := NB275_279.out; have hnb28 := NB279_276.out; have hnc28 := NB276_279.out; have hnb29 := NB279_277.out; have hnc29 := NB277_279.out; obtain ⟨hcz30_0, hcz30_1, hcz30_2, hcz30_3, hcz30_4⟩ := cz5 BK279.out; obtain ⟨hfz30_0, hfz30_1, hfz30_2, hfz30_3, hfz30_4⟩ := fz5 BK279.out; have hnb31 := NB276_277.out; have hnc31 := NB277_276.out; obtain ⟨hcz32_0, hcz32_1⟩ := cz2 BK276.out; obtain ⟨hfz32_0, hfz32_1⟩ := fz2 BK276.out; obtain ⟨hcz33_0, hcz33_1, hcz33_2, hcz33_3⟩ := cz4 BK275.out; obtain ⟨hfz33_0, hfz33_1, hfz33_2, hfz33_3⟩ := fz4 BK275.out; have p280 : 0 <= (x1_1 : Int) := oz; have q280 : x1_1 < (l0_0.length : Int) := oz; obtain ⟨ad280, e280, hx280_0, hx280_1, hx280_2, hx280_3, hx280_4⟩ := at_T41 HR0_0.out x1_1 p280 q280; obtain rfl : ad278 = ad280 := (by injection e280); have hn280_0 : ad278.block ≠ gb279 := Nat.ne_of_lt (Nat.lt_of_lt_of_le (by have := World.block_lt_of_cell? _ _ hx280_0; first | rwa [add_block] at this | exact this) GW279.out); have hn280_1 : ad278.block ≠ gb279 := Nat.ne_of_lt (Nat.lt_of_lt_of_le (by have := World.block_lt_of_cell? _ _ hx280_0; first | rwa [add_block] at this | exact this) GW279.out); have hn280_2 : ad278.block ≠ gb279 := Nat.ne_of_lt (Nat.lt_of_lt_of_le (by have := World.block_lt_of_cell? _ _ hx280_0; first | rwa [add_block] at this | exact this) GW279.out); have hn280_3 : ad278.block ≠ gb279 := Nat.ne_of_lt (Nat.lt_of_lt_of_le (by have := World.block_lt_of_cell? _ _ hx280_0; first | rwa [add_block] at this | exact this) GW279.out); have hn280_4 : ad278.block ≠ gb279 := Nat.ne_of_lt (Nat.lt_of_lt_of_le (by have := World.block_lt_of_cell? _ _ hx280_0; first | rwa [add_block] at this | exact this) GW279.out); replace hx280_0 := hz HB.out hx280_0; replace hx280_1 := hz HB.out hx280_1; replace hx280_2 := hz HB.out hx280_2; replace hx280_3 := hz HB.out hx280_3; replace hx280_4 := hz HB.out hx280_4; replace hx280_0 := (cell_far (p := ⟨gb279, 0, none⟩) (nz hn280_0) (.int .i64 ((rd_T41 l0_0 x1_1).f0))).trans hx280_0; replace hx280_1 := (cell_far (p := ⟨gb279, 0, none⟩) (nz hn280_0) (.int .i64 ((rd_T41 l0_0 x1_1).f0))).trans hx280_1; replace hx280_2 := (cell_far (p := ⟨gb279, 0, none⟩) (nz hn280_0) (.int .i64 ((rd_T41 l0_0 x1_1).f0))).trans hx280_2; replace hx280_3 := (cell_far (p := ⟨gb279, 0, none⟩) (nz hn280_0) (.int .i64 ((rd_T41 l0_0 x1_1).f0))).trans hx280_3; replace hx280_4 := (cell_far (p := ⟨gb279, 0, none⟩) (nz hn280_0) (.int .i64 ((rd_T41 l0_0 x1_1).f0))).trans hx280_4; replace hx280_0 := (cell_far (p := ⟨gb279, 1, none⟩) (nz hn280_1) (.int .i64 ((rd_T41 l0_0 x1_1).f1))).trans hx280_0; replace hx280_1 := (cell_far (p := ⟨gb279, 1, none⟩) (nz hn280_1) (.int .i64 ((rd_T41 l0_0 x1_1).f1))).trans hx280_1; replace hx280_2 := (cell_far (p := ⟨gb279, 1, none⟩) (nz hn280_1) (.int .i64 ((rd_T41 l0_0 x1_1).f1))).trans hx280_2; replace hx280_3 := (cell_far (p := ⟨gb279, 1, none⟩) (nz hn280_1) (.int .i64 ((rd_T41 l0_0 x1_1).f1))).trans hx280_3; replace hx280_4 := (cell_far (p := ⟨gb279, 1, none⟩) (nz hn280_1) (.int .i64 ((rd_T41 l0_0 x1_1).f1))).trans hx280_4; replace hx280_0 := (cell_far (p := ⟨gb279, 2, none⟩) (nz hn280_2) (.int .i64 ((rd_T41 l0_0 x1_1).f2.f0))).trans hx280_0; replace hx280_1 := (cell_far (p := ⟨gb279, 2, none⟩) (nz hn280_2) (.int .i64 ((rd_T41 l0_0 x1_1).f2.f0))).trans hx280_1; replace hx280_2 := (cell_far (p := ⟨gb279, 2, none⟩) (nz hn280_2) (.int .i64 ((rd_T41 l0_0 x1_1).f2.f0))).trans hx280_2; replace hx280_3 := (cell_far (p := ⟨gb279, 2, none⟩) (nz hn280_2) (.int .i64 ((rd_T41 l0_0 x1_1).f2.f0))).trans hx280_3; replace hx280_4 := (cell_far (p := ⟨gb279, 2, none⟩) (nz hn280_2) (.int .i64 ((rd_T41 l0_0 x1_1).f2.f0))).trans hx280_4; replace hx280_0 := (cell_far (p := ⟨gb279, 3, none⟩) (nz hn280_3) (.int .i64 ((rd_T41 l0_0 x1_1).f2.f1))).trans hx280_0; replace hx280_1 := (cell_far (p := ⟨gb279, 3, none⟩) (nz hn280_3) (.int .i64 ((rd_T41 l0_0 x1_1).f2.f1))).trans hx280_1; replace hx280_2 := (cell_far (p := ⟨gb279, 3, none⟩) (nz hn280_3) (.int .i64 ((rd_T41 l0_0 x1_1).f2.f1))).trans hx280_2; replace hx280_3 := (cell_far (p := ⟨gb279, 3, none⟩) (nz hn280_3) (.int .i64 ((rd_T41 l0_0 x1_1).f2.f1))).trans hx280_3; replace hx280_4 := (cell_far (p := ⟨gb279, 3, none⟩) (nz hn280_3) (.int .i64 ((rd_T41 l0_0 x1_1).f2.f1))).trans hx280_4; replace hx280_0 := (cell_far (p := ⟨gb279, 4, none⟩) (nz hn280_4) (.int .i64 ((rd_T41 l0_0 x1_1).f3))).trans hx280_0; replace hx280_1 := (cell_far (p := ⟨gb279, 4, none⟩) (nz hn280_4) (.int .i64 ((rd_T41 l0_0 x1_1).f3))).trans hx280_1; replace hx280_2 := (cell_far (p := ⟨gb279, 4, none⟩) (nz hn280_4) (.int .i64 ((rd_T41 l0_0 x1_1).f3))).trans hx280_2; replace hx280_3 := (cell_far (p := ⟨gb279, 4, none⟩) (nz hn280_4) (.int .i64 ((rd_T41 l0_0 x1_1).f3))).trans hx280_3; replace hx280_4 := (cell_far (p := ⟨gb279, 4, none⟩) (nz hn280_4) (.int .i64 ((rd_T41 l0_0 x1_1).f3))).trans hx280_4; clear hn280_0; clear hn280_1; clear hn280_2; clear hn280_3; clear hn280_4; replace p280 := eq_true p280; replace q280 := eq_true q280))
      go_roundg k1
      case measure => have := HK1.out; omega
      case rel => exact ⟨((rd_T41 l0_0 x1_1).f3), (x278000_1), (x278001_1), ez, H', ⟨by have := HK1.out; omega⟩, ⟨by refine kq ?_; refine blk_far ?_ NB275_279.out _; refine kq ?_; refine blk_far ?_ NB275_279.out _; refine kq ?_; refine blk_far ?_ NB275_279.out _; refine kq ?_; refine blk_far ?_ NB275_279.out _; refine kq ?_; refine blk_far ?_ NB275_279.out _; refine kq ?_; exact BK275.out⟩, ⟨by refine kq ?_; refine blk_far ?_ NB276_279.out _; refine kq ?_; refine blk_far ?_ NB276_279.out _; refine kq ?_; refine blk_far ?_ NB276_279.out _; refine kq ?_; refine blk_far ?_ NB276_279.out _; refine kq ?_; refine blk_far ?_ NB276_279.out _; refine kq ?_; exact BK276.out⟩, ⟨by refine kq ?_; refine blk_far ?_ NB277_279.out _; refine kq ?_; refine blk_far ?_ NB277_279.out _; refine kq ?_; refine blk_far ?_ NB277_279.out _; refine kq ?_; refine blk_far ?_ NB277_279.out _; refine kq ?_; refine blk_far ?_ NB277_279.out _; refine kq ?_; exact BK277.out⟩, ⟨(bz3 HB.out GE276.out GE277.out GE279.out)⟩⟩
    ·rw [if_neg c10] at H
     have c10b0 : (((rd_T41 l0_0 x1_1).f0) == a2_0) = false := beq_eq_false_iff_ne.mpr c10
     have c10b1 : (((rd_T41 l0_0 x1_1).f0) != a2_0) = true := bne_iff_ne.mpr c10
     have H' := Aside0.mk H
     clear H
     have hnb34 := NB275_276.out
     have hnc34 := NB276_275.out
     have hnb35 := NB275_277.out
     have hnc35 := NB277_275.out
     obtain ⟨hcz36_0, hcz36_1, hcz36_2, hcz36_3⟩ := cz4 BK275.out
     obtain ⟨hfz36_0, hfz36_1, hfz36_2, hfz36_3⟩ := fz4 BK275.out
     have p278 : 0 <= (x1_1 : Int) := oz
     have q278 : x1_1 < (l0_0.length : Int) := oz
     obtain ⟨ad278, e278, hx278_0, hx278_1, hx278_2, hx278_3, hx278_4⟩ := at_T41 HR0_0.out x1_1 p278 q278
     cases e278
     replace hx278_0 := hz HB.out hx278_0
     replace hx278_1 := hz HB.out hx278_1
     replace hx278_2 := hz HB.out hx278_2
     replace hx278_3 := hz HB.out hx278_3
     replace hx278_4 := hz HB.out hx278_4
     replace p278 := eq_true p278
     replace q278 := eq_true q278
     go_wp2_with (first | ((with_reducible refine gate_dst (N := 8) rfl ?_); refine box_event ?hg (N := 8) ?hd (cs := #[.int .i64 0, .int .i64 0, .int .i64 0, .int .i64 0, .int .i64 0]) (t := 41) ?hr ?_; (case hd => rfl); (case hg => rfl); (case hr => exact vz); intro gb279 hg w37 hbox hb; have BK279 := Aside0.mk (hbox); have GW279 := Aside0.mk ((by rw [hg]; exact (below_size (bz2 HB.out GE276.out GE277.out)) : w.heap.size <= gb279)); have GE279 := GW279; replace HB := Aside0.mk (below_step (bz2 HB.out GE276.out GE277.out) hb); have NB275_279 := Aside0.mk ((by rw [hg]; exact Nat.ne_of_lt (blk_lt (kz BK275.out)) : gb275 ≠ gb279)); have NB279_275 := Aside0.mk ((by rw [hg]; exact Nat.ne_of_gt (blk_lt (kz BK275.out)) : gb279 ≠ gb275)); replace BK275 := Aside0.mk (blk_below (kz BK275.out) hb); have NB276_279 := Aside0.mk ((by rw [hg]; exact Nat.ne_of_lt (blk_lt (kz BK276.out)) : gb276 ≠ gb279)); have NB279_276 := Aside0.mk ((by rw [hg]; exact Nat.ne_of_gt (blk_lt (kz BK276.out)) : gb279 ≠ gb276)); replace BK276 := Aside0.mk (blk_below (kz BK276.out) hb); have NB277_279 := Aside0.mk ((by rw [hg]; exact Nat.ne_of_lt (blk_lt (kz BK277.out)) : gb277 ≠ gb279)); have NB279_277 := Aside0.mk ((by rw [hg]; exact Nat.ne_of_gt (blk_lt (kz BK277.out)) : gb279 ≠ gb277)); replace BK277 := Aside0.mk (blk_below (kz BK277.out) hb); clear hb hbox hg; have hnb38 := NB279_275.out; have hnc38 := NB275_279.out; have hnb39 := NB279_276.out; have hnc39 := NB276_279.out; have hnb40 := NB279_277.out; have hnc40 := NB277_279.out; obtain ⟨hcz41_0, hcz41_1, hcz41_2, hcz41_3, hcz41_4⟩ := cz5 BK279.out; obtain ⟨hfz41_0, hfz41_1, hfz41_2, hfz41_3, hfz41_4⟩ := fz5 BK279.out; have hnb42 := NB276_277.out; have hnc42 := NB277_276.out; obtain ⟨hcz43_0, hcz43_1⟩ := cz2 BK276.out; obtain ⟨hfz43_0, hfz43_1⟩ := fz2 BK276.out; obtain ⟨hcz44_0, hcz44_1, hcz44_2, hcz44_3⟩ := cz4 BK275.out; obtain ⟨hfz44_0, hfz44_1, hfz44_2, hfz44_3⟩ := fz4 BK275.out; have p281 : 0 <= (x1_1 : Int) := oz; have q281 : x1_1 < (l0_0.length : Int) := oz; obtain ⟨ad281, e281, hx281_0, hx281_1, hx281_2, hx281_3, hx281_4⟩ := at_T41 HR0_0.out x1_1 p281 q281; obtain rfl : ad278 = ad281 := (by injection e281); have hn281_0 : ad278.block ≠ gb279 := Nat.ne_of_lt (Nat.lt_of_lt_of_le (by have := World.block_lt_of_cell? _ _ hx281_0; first | rwa [add_block] at this | exact this) GW279.out); have hn281_1 : ad278.block ≠ gb279 := Nat.ne_of_lt (Nat.lt_of_lt_of_le (by have := World.block_lt_of_cell? _ _ hx281_0; first | rwa [add_block] at this | exact this) GW279.out); have hn281_2 : ad278.block ≠ gb279 := Nat.ne_of_lt (Nat.lt_of_lt_of_le (by have := World.block_lt_of_cell? _ _ hx281_0; first | rwa [add_block] at this | exact this) GW279.out); have hn281_3 : ad278.block ≠ gb279 := Nat.ne_of_lt (Nat.lt_of_lt_of_le (by have := World.block_lt_of_cell? _ _ hx281_0; first | rwa [add_block] at this | exact this) GW279.out); have hn281_4 : ad278.block ≠ gb279 := Nat.ne_of_lt (Nat.lt_of_lt_of_le (by have := World.block_lt_of_cell? _ _ hx281_0; first | rwa [add_block] at this | exact this) GW279.out); replace hx281_0 := hz HB.out hx281_0; replace hx281_1 := hz HB.out hx281_1; replace hx281_2 := hz HB.out hx281_2; replace hx281_3 := hz HB.out hx281_3; replace hx281_4 := hz HB.out hx281_4; replace hx281_0 := (cell_far (p := ⟨gb279, 0, none⟩) (nz hn281_0) (.int .i64 ((rd_T41 l0_0 x1_1).f0))).trans hx281_0; replace hx281_1 := (cell_far (p := ⟨gb279, 0, none⟩) (nz hn281_0) (.int .i64 ((rd_T41 l0_0 x1_1).f0))).trans hx281_1; replace hx281_2 := (cell_far (p := ⟨gb279, 0, none⟩) (nz hn281_0) (.int .i64 ((rd_T41 l0_0 x1_1).f0))).trans hx281_2; replace hx281_3 := (cell_far (p := ⟨gb279, 0, none⟩) (nz hn281_0) (.int .i64 ((rd_T41 l0_0 x1_1).f0))).trans hx281_3; replace hx281_4 := (cell_far (p := ⟨gb279, 0, none⟩) (nz hn281_0) (.int .i64 ((rd_T41 l0_0 x1_1).f0))).trans hx281_4; replace hx281_0 := (cell_far (p := ⟨gb279, 1, none⟩) (nz hn281_1) (.int .i64 ((rd_T41 l0_0 x1_1).f1))).trans hx281_0; replace hx281_1 := (cell_far (p := ⟨gb279, 1, none⟩) (nz hn281_1) (.int .i64 ((rd_T41 l0_0 x1_1).f1))).trans hx281_1; replace hx281_2 := (cell_far (p := ⟨gb279, 1, none⟩) (nz hn281_1) (.int .i64 ((rd_T41 l0_0 x1_1).f1))).trans hx281_2; replace hx281_3 := (cell_far (p := ⟨gb279, 1, none⟩) (nz hn281_1) (.int .i64 ((rd_T41 l0_0 x1_1).f1))).trans hx281_3; replace hx281_4 := (cell_far (p := ⟨gb279, 1, none⟩) (nz hn281_1) (.int .i64 ((rd_T41 l0_0 x1_1).f1))).trans hx281_4; replace hx281_0 := (cell_far (p := ⟨gb279, 2, none⟩) (nz hn281_2) (.int .i64 ((rd_T41 l0_0 x1_1).f2.f0))).trans hx281_0; replace hx281_1 := (cell_far (p := ⟨gb279, 2, none⟩) (nz hn281_2) (.int .i64 ((rd_T41 l0_0 x1_1).f2.f0))).trans hx281_1; replace hx281_2 := (cell_far (p := ⟨gb279, 2, none⟩) (nz hn281_2) (.int .i64 ((rd_T41 l0_0 x1_1).f2.f0))).trans hx281_2; replace hx281_3 := (cell_far (p := ⟨gb279, 2, none⟩) (nz hn281_2) (.int .i64 ((rd_T41 l0_0 x1_1).f2.f0))).trans hx281_3; replace hx281_4 := (cell_far (p := ⟨gb279, 2, none⟩) (nz hn281_2) (.int .i64 ((rd_T41 l0_0 x1_1).f2.f0))).trans hx281_4; replace hx281_0 := (cell_far (p := ⟨gb279, 3, none⟩) (nz hn281_3) (.int .i64 ((rd_T41 l0_0 x1_1).f2.f1))).trans hx281_0; replace hx281_1 := (cell_far (p := ⟨gb279, 3, none⟩) (nz hn281_3) (.int .i64 ((rd_T41 l0_0 x1_1).f2.f1))).trans hx281_1; replace hx281_2 := (cell_far (p := ⟨gb279, 3, none⟩) (nz hn281_3) (.int .i64 ((rd_T41 l0_0 x1_1).f2.f1))).trans hx281_2; replace hx281_3 := (cell_far (p := ⟨gb279, 3, none⟩) (nz hn281_3) (.int .i64 ((rd_T41 l0_0 x1_1).f2.f1))).trans hx281_3; replace hx281_4 := (cell_far (p := ⟨gb279, 3, none⟩) (nz hn281_3) (.int .i64 ((rd_T41 l0_0 x1_1).f2.f1))).trans hx281_4; replace hx281_0 := (cell_far (p := ⟨gb279, 4, none⟩) (nz hn281_4) (.int .i64 ((rd_T41 l0_0 x1_1).f3))).trans hx281_0; replace hx281_1 := (cell_far (p := ⟨gb279, 4, none⟩) (nz hn281_4) (.int .i64 ((rd_T41 l0_0 x1_1).f3))).trans hx281_1; replace hx281_2 := (cell_far (p := ⟨gb279, 4, none⟩) (nz hn281_4) (.int .i64 ((rd_T41 l0_0 x1_1).f3))).trans hx281_2; replace hx281_3 := (cell_far (p := ⟨gb279, 4, none⟩) (nz hn281_4) (.int .i64 ((rd_T41 l0_0 x1_1).f3))).trans hx281_3; replace hx281_4 := (cell_far (p := ⟨gb279, 4, none⟩) (nz hn281_4) (.int .i64 ((rd_T41 l0_0 x1_1).f3))).trans hx281_4; clear hn281_0; clear hn281_1; clear hn281_2; clear hn281_3; clear hn281_4; replace p281 := eq_true p281; replace q281 := eq_true q281))
     go_roundg k1
     case measure => have := HK1.out; omega
     case rel => exact ⟨((rd_T41 l0_0 x1_1).f3), (x278000_1), (x278001_1), ez, H', ⟨by have := HK1.out; omega⟩, ⟨by refine kq ?_; refine blk_far ?_ NB275_279.out _; refine kq ?_; refine blk_far ?_ NB275_279.out _; refine kq ?_; refine blk_far ?_ NB275_279.out _; refine kq ?_; refine blk_far ?_ NB275_279.out _; refine kq ?_; refine blk_far ?_ NB275_279.out _; refine kq ?_; exact BK275.out⟩, ⟨by refine kq ?_; refine blk_far ?_ NB276_279.out _; refine kq ?_; refine blk_far ?_ NB276_279.out _; refine kq ?_; refine blk_far ?_ NB276_279.out _; refine kq ?_; refine blk_far ?_ NB276_279.out _; refine kq ?_; refine blk_far ?_ NB276_279.out _; refine kq ?_; exact BK276.out⟩, ⟨by refine kq ?_; refine blk_far ?_ NB277_279.out _; refine kq ?_; refine blk_far ?_ NB277_279.out _; refine kq ?_; refine blk_far ?_ NB277_279.out _; refine kq ?_; refine blk_far ?_ NB277_279.out _; refine kq ?_; refine blk_far ?_ NB277_279.out _; refine kq ?_; exact BK277.out⟩, ⟨(bz3 HB.out GE276.out GE277.out GE279.out)⟩⟩
   ·rw [if_neg c7] at H
    have c7b0 : decide (0 <= x1_1) = false := decide_eq_false c7
    clear c7
    simp only [Option.some.injEq, Prod.mk.injEq] at H
    obtain ⟨rfl, rfl, rfl⟩ := H
    have hnb45 := NB277_275.out
    have hnc45 := NB275_277.out
    have hnb46 := NB277_276.out
    have hnc46 := NB276_277.out
    obtain ⟨hcz47_0, hcz47_1⟩ := cz2 BK277.out
    obtain ⟨hfz47_0, hfz47_1⟩ := fz2 BK277.out
    go_wp2
    refine bodyPost_ret (results_ct rfl _ _ gb277 35 #[.int .i64 0, .int .i64 0] (0, 0) _ rfl (by refine kq ?_; refine blk_put (cs := #[.int .i64 0, .int .i64 x278001_1]) ?_ 1 _ rfl; refine kq ?_; refine blk_put (cs := #[.int .i64 x278000_1, .int .i64 x278001_1]) ?_ 0 _ rfl; refine kq ?_; exact BK277.out) Tryd.underlying35 rfl (by kernel_rfl)) rfl ?_
    exact ⟨gz, (bz2 HB.out GE276.out GE277.out)⟩
def impl_LookUp.f (k : Nat) (l0_0 : List (S41)) (l0_1 : List (S86)) (l0_2 : List (S47)) (l0_3 : List (S35)) (a1 : Int) (a2_0 : Int) (a2_1 : Int) : Option (Int × Int × Bool) := (impl_HeapOk.f k l0_0 l0_1 l0_2 l0_3).bind fun t285 => (if t285 = true then ((impl_in.f a1 (-1) (wrap64 ((l0_0.length : Int) - 1))).bind fun t286 => (if t286 = true then ((impl_Heap_lookUp.f k l0_0 l0_1 l0_2 l0_3 a1 a2_0 a2_1).bind fun bt287 => (some (bt287.1, bt287.2.1, bt287.2.2))) else (some (0, 0, false)))) else (some (0, 0, false)))
theorem impl_LookUp.mono : ∀ a0 a1 a2 a3 a4 a5 a6 k, LeO (impl_LookUp.f k a0 a1 a2 a3 a4 a5 a6) (impl_LookUp.f (k + 1) a0 a1 a2 a3 a4 a5 a6) := by
 intro a0 a1 a2 a3 a4 a5 a6 k
 unfold impl_LookUp.f
 with_reducible repeat' first | exact impl_HeapOk.mono _ _ _ _ _ | exact impl_Heap_lookUp.mono _ _ _ _ _ _ _ _ | exact lrz _ | exact lnz _ | refine liz ?_ ?_ | refine lbz ?_ fun _ => ?_
set_option maxHeartbeats 80000000 in
set_option maxRecDepth 100000 in
theorem impl_LookUp.calls (k : Nat) (A0_0 : Option Addr) (c0_0 : Nat) (l0_0 : List (S41)) (A0_1 : Option Addr) (c0_1 : Nat) (l0_1 : List (S86)) (A0_2 : Option Addr) (c0_2 : Nat) (l0_2 : List (S47)) (A0_3 : Option Addr) (c0_3 : Nat) (l0_3 : List (S35)) (a1 : Int) (a2_0 : Int) (a2_1 : Int) (r1 : Int) (r2 : Int) (r3 : Bool) (w : World) (hr0_0 : Kd.C k41 w A0_0 l0_0.length l0_0) (hc0_0 : l0_0.length <= c0_0) (hr0_1 : Kd.C k86 w A0_1 l0_1.length l0_1) (hc0_1 : l0_1.length <= c0_1) (hr0_2 : Kd.C k47 w A0_2 l0_2.length l0_2) (hc0_2 : l0_2.length <= c0_2) (hr0_3 : Kd.C k35 w A0_3 l0_3.length l0_3) (hc0_3 : l0_3.length <= c0_3) (h : impl_LookUp.f k l0_0 l0_1 l0_2 l0_3 a1 a2_0 a2_1 = some (r1, r2, r3)) :
  Calls Tryd.prog 11 #[.agg #[.slice A0_0 l0_0.length c0_0, .slice A0_1 l0_1.length c0_1, .slice A0_2 l0_2.length c0_2, .slice A0_3 l0_3.length c0_3], .int .i64 a1, .agg #[.int .i64 a2_0, .int .i64 a2_1]] w fun e w' => e = .returned (.tuple #[.agg #[.int .i64 r1, .int .i64 r2], .bool r3]) /\ Below w.heap.size w w' := by
 have hu29 := Tryd.underlying29
 have hu31 := Tryd.underlying31
 have hu35 := Tryd.underlying35
 have HR0_0 := Aside0.mk hr0_0
 have HC0_0 := Aside0.mk hc0_0
 clear hr0_0 hc0_0
 have HR0_1 := Aside0.mk hr0_1
 have HC0_1 := Aside0.mk hc0_1
 clear hr0_1 hc0_1
 have HR0_2 := Aside0.mk hr0_2
 have HC0_2 := Aside0.mk hc0_2
 clear hr0_2 hc0_2
 have HR0_3 := Aside0.mk hr0_3
 have HC0_3 := Aside0.mk hc0_3
 clear hr0_3 hc0_3
 have HB := Aside0.mk (Below.refl w.heap.size w)
 have H : ((impl_HeapOk.f k l0_0 l0_1 l0_2 l0_3).bind fun t285 => (if t285 = true then ((impl_in.f a1 (-1) (wrap64 ((l0_0.length : Int) - 1))).bind fun t286 => (if t286 = true then ((impl_Heap_lookUp.f k l0_0 l0_1 l0_2 l0_3 a1 a2_0 a2_1).bind fun bt287 => (some (bt287.1, bt287.2.1, bt287.2.2))) else (some (0, 0, false)))) else (some (0, 0, false)))) = some (r1, r2, r3) := h
 clear h
 replace H := bi H
 obtain ⟨t285, A40, H⟩ := H
 try dsimp only at H
 have A4 := Aside0.mk A40
 clear A40
 by_cases c5 : t285 = true
 ·subst c5
  have H1 := hp H
  clear H
  have H := H1
  clear H1
  replace H := bi H
  obtain ⟨t286, A60, H⟩ := H
  try dsimp only at H
  have A6 := Aside0.mk A60
  clear A60
  by_cases c7 : t286 = true
  ·subst c7
   have H1 := hp H
   clear H
   have H := H1
   clear H1
   replace H := bi H
   obtain ⟨⟨t287, t288, t289⟩, A80, H⟩ := H
   try dsimp only at H
   have A8 := Aside0.mk A80
   clear A80
   simp only [Option.some.injEq, Prod.mk.injEq] at H
   obtain ⟨rfl, rfl, rfl⟩ := H
   go_enter Tryd.func11, Tryd.ntmps11
   go_wp2_with (first | ((with_reducible refine gate_dst (N := 3) rfl ?_); (try (refine gate_guard (by rfl) ?_; dsimp only)); refine box_event ?hg (N := 3) ?hd (cs := #[.slice A0_0 l0_0.length c0_0, .slice A0_1 l0_1.length c0_1, .slice A0_2 l0_2.length c0_2, .slice A0_3 l0_3.length c0_3]) (t := 29) ?hr ?_; (case hd => rfl); (case hg => rfl); (case hr => exact vz); intro gb282 hg w9 hbox hb; have BK282 := Aside0.mk (hbox); have GW282 := Aside0.mk ((by rw [hg]; exact (below_size (bz0 HB.out)) : w.heap.size <= gb282)); have GE282 := GW282; replace HB := Aside0.mk (below_step (bz0 HB.out) hb); clear hb hbox hg) | ((with_reducible refine gate_dst (N := 5) rfl ?_); (try (refine gate_guard (by rfl) ?_; dsimp only)); refine box_event ?hg (N := 5) ?hd (cs := #[.int .i64 a2_0, .int .i64 a2_1]) (t := 31) ?hr ?_; (case hd => rfl); (case hg => rfl); (case hr => exact vz); intro gb283 hg w10 hbox hb; have BK283 := Aside0.mk (hbox); have GW283 := Aside0.mk ((by rw [hg]; exact (below_size (bz1 HB.out GE282.out)) : w.heap.size <= gb283)); have GE283 := GW283; replace HB := Aside0.mk (below_step (bz1 HB.out GE282.out) hb); have NB282_283 := Aside0.mk ((by rw [hg]; exact Nat.ne_of_lt (blk_lt (kz BK282.out)) : gb282 ≠ gb283)); have NB283_282 := Aside0.mk ((by rw [hg]; exact Nat.ne_of_gt (blk_lt (kz BK282.out)) : gb283 ≠ gb282)); replace BK282 := Aside0.mk (blk_below (kz BK282.out) hb); clear hb hbox hg) | ((with_reducible refine gate_dst (N := 6) rfl ?_); (try (refine gate_guard (by rfl) ?_; dsimp only)); refine box_event ?hg (N := 6) ?hd (cs := #[.int .i64 0, .int .i64 0]) (t := 35) ?hr ?_; (case hd => rfl); (case hg => rfl); (case hr => exact vz); intro gb284 hg w11 hbox hb; have BK284 := Aside0.mk (hbox); have GW284 := Aside0.mk ((by rw [hg]; exact (below_size (bz2 HB.out GE282.out GE283.out)) : w.heap.size <= gb284)); have GE284 := GW284; replace HB := Aside0.mk (below_step (bz2 HB.out GE282.out GE283.out) hb); have NB282_284 := Aside0.mk ((by rw [hg]; exact Nat.ne_of_lt (blk_lt (kz BK282.out)) : gb282 ≠ gb284)); have NB284_282 := Aside0.mk ((by rw [hg]; exact Nat.ne_of_gt (blk_lt (kz BK282.out)) : gb284 ≠ gb282)); replace BK282 := Aside0.mk (blk_below (kz BK282.out) hb); have NB283_284 := Aside0.mk ((by rw [hg]; exact Nat.ne_of_lt (blk_lt (kz BK283.out)) : gb283 ≠ gb284)); have NB284_283 := Aside0.mk ((by rw [hg]; exact Nat.ne_of_gt (blk_lt (kz BK283.out)) : gb284 ≠ gb283)); replace BK283 := Aside0.mk (blk_below (kz BK283.out) hb); clear hb hbox hg; have hnb12 := NB282_283.out; have hnc12 := NB283_282.out; have hnb13 := NB282_284.out; have hnc13 := NB284_282.out; obtain ⟨hcz14_0, hcz14_1, hcz14_2, hcz14_3⟩ := cz4 BK282.out; obtain ⟨hfz14_0, hfz14_1, hfz14_2, hfz14_3⟩ := fz4 BK282.out) | ((with_reducible refine gate_callee (f := 41) rfl ?_); refine goesL_ (some 9) rfl rfl Tryd.func41 (by kernel_rfl) rfl #[.agg #[.slice A0_0 l0_0.length c0_0, .slice A0_1 l0_1.length c0_1, .slice A0_2 l0_2.length c0_2, .slice A0_3 l0_3.length c0_3]] rfl lz ?_; (with_reducible refine (impl_HeapOk.calls k _ _ l0_0 _ _ l0_1 _ _ l0_2 _ _ l0_3 true _ ?side1 ?side2 ?side3 ?side4 ?side5 ?side6 ?side7 ?side8 A4.out).mono ?_); (case side1 => exact cz (Kd.C_below HR0_0.out HB.out)); (case side2 => exact HC0_0.out); (case side3 => exact cz (Kd.C_below HR0_1.out HB.out)); (case side4 => exact HC0_1.out); (case side5 => exact cz (Kd.C_below HR0_2.out HB.out)); (case side6 => exact HC0_2.out); (case side7 => exact cz (Kd.C_below HR0_3.out HB.out)); (case side8 => exact HC0_3.out); rintro e w15 ⟨rfl, hb⟩; refine ⟨_, rfl, ?_⟩; replace BK282 := Aside0.mk (blk_below (kz BK282.out) hb); replace BK283 := Aside0.mk (blk_below (kz BK283.out) hb); replace BK284 := Aside0.mk (blk_below (kz BK284.out) hb); replace HB := Aside0.mk (below_step (bz3 HB.out GE282.out GE283.out GE284.out) hb); (try clear hb); obtain ⟨hcz16_0, hcz16_1, hcz16_2, hcz16_3⟩ := cz4 BK282.out; obtain ⟨hfz16_0, hfz16_1, hfz16_2, hfz16_3⟩ := fz4 BK282.out) | (go_at_call 42; (with_reducible refine (impl_in.calls a1 (-1) (wrap64 ((l0_0.length : Int) - 1)) true _ A6.out).mono ?_); rintro e w' ⟨rfl, ⟨nd, rfl⟩⟩; have hnb17 := NB283_284.out; have hnc17 := NB284_283.out; obtain ⟨hcz18_0, hcz18_1⟩ := cz2 BK283.out; obtain ⟨hfz18_0, hfz18_1⟩ := fz2 BK283.out) | ((with_reducible refine gate_callee (f := 43) rfl ?_); refine goesL_ (some 23) rfl rfl Tryd.func43 (by kernel_rfl) rfl #[.pointer (some ⟨gb282, 0, none⟩), .int .i64 a1, .agg #[.int .i64 a2_0, .int .i64 a2_1]] rfl lz ?_; (with_reducible refine (impl_Heap_lookUp.calls k A0_0 c0_0 l0_0 A0_1 c0_1 l0_1 A0_2 c0_2 l0_2 A0_3 c0_3 l0_3 a1 a2_0 a2_1 t287 t288 t289 _ ?side1 ?side2 ?side3 ?side4 ?side5 ?side6 ?side7 ?side8 gb282 ?capside A8.out).mono ?_); (case capside => refine kq ?_; exact BK282.out); (case side1 => exact cz (Kd.C_below HR0_0.out HB.out)); (case side2 => exact HC0_0.out); (case side3 => exact cz (Kd.C_below HR0_1.out HB.out)); (case side4 => exact HC0_1.out); (case side5 => exact cz (Kd.C_below HR0_2.out HB.out)); (case side6 => exact HC0_2.out); (case side7 => exact cz (Kd.C_below HR0_3.out HB.out)); (case side8 => exact HC0_3.out); rintro e w19 ⟨rfl, hb⟩; refine ⟨_, rfl, ?_⟩; replace BK282 := Aside0.mk (blk_below (kz BK282.out) hb); replace BK283 := Aside0.mk (blk_below (kz BK283.out) hb); replace BK284 := Aside0.mk (blk_below (kz BK284.out) hb); replace HB := Aside0.mk (below_step (bz3 HB.out GE282.out GE283.out GE284.out) hb); (try clear hb); obtain ⟨hcz20_0, hcz20_1⟩ := cz2 BK284.out; obtain ⟨hfz20_0, hfz20_1⟩ := fz2 BK284.out))
   refine bodyPost_ret (results_ct rfl _ _ gb284 35 #[.int .i64 t287, .int .i64 t288] (0, 0) _ rfl (by refine kq ?_; refine blk_put (cs := #[.int .i64 t287, .int .i64 0]) ?_ 1 _ rfl; refine kq ?_; refine blk_put (cs := #[.int .i64 0, .int .i64 0]) ?_ 0 _ rfl; refine kq ?_; exact BK284.out) Tryd.underlying35 rfl (by kernel_rfl)) rfl ?_
   exact ⟨gz, (bz3 HB.out GE282.out GE283.out GE284.out)⟩
  ·replace c7 := Bool.eq_false_iff.mpr c7
   subst c7
   have H1 := hq H
   clear H
   have H := H1
   clear H1
   simp only [Option.some.injEq, Prod.mk.injEq] at H
   obtain ⟨rfl, rfl, rfl⟩ := H
   go_enter Tryd.func11, Tryd.ntmps11
   go_wp2_with (first | ((with_reducible refine gate_dst (N := 3) rfl ?_); (try (refine gate_guard (by rfl) ?_; dsimp only)); refine box_event ?hg (N := 3) ?hd (cs := #[.slice A0_0 l0_0.length c0_0, .slice A0_1 l0_1.length c0_1, .slice A0_2 l0_2.length c0_2, .slice A0_3 l0_3.length c0_3]) (t := 29) ?hr ?_; (case hd => rfl); (case hg => rfl); (case hr => exact vz); intro gb282 hg w21 hbox hb; have BK282 := Aside0.mk (hbox); have GW282 := Aside0.mk ((by rw [hg]; exact (below_size (bz0 HB.out)) : w.heap.size <= gb282)); have GE282 := GW282; replace HB := Aside0.mk (below_step (bz0 HB.out) hb); clear hb hbox hg) | ((with_reducible refine gate_dst (N := 5) rfl ?_); (try (refine gate_guard (by rfl) ?_; dsimp only)); refine box_event ?hg (N := 5) ?hd (cs := #[.int .i64 a2_0, .int .i64 a2_1]) (t := 31) ?hr ?_; (case hd => rfl); (case hg => rfl); (case hr => exact vz); intro gb283 hg w22 hbox hb; have BK283 := Aside0.mk (hbox); have GW283 := Aside0.mk ((by rw [hg]; exact (below_size (bz1 HB.out GE282.out)) : w.heap.size <= gb283)); have GE283 := GW283; replace HB := Aside0.mk (below_step (bz1 HB.out GE282.out) hb); have NB282_283 := Aside0.mk ((by rw [hg]; exact Nat.ne_of_lt (blk_lt (kz BK282.out)) : gb282 ≠ gb283)); have NB283_282 := Aside0.mk ((by rw [hg]; exact Nat.ne_of_gt (blk_lt (kz BK282.out)) : gb283 ≠ gb282)); replace BK282 := Aside0.mk (blk_below (kz BK282.out) hb); clear hb hbox hg) | ((with_reducible refine gate_dst (N := 6) rfl ?_); (try (refine gate_guard (by rfl) ?_; dsimp only)); refine box_event ?hg (N := 6) ?hd (cs := #[.int .i64 0, .int .i64 0]) (t := 35) ?hr ?_; (case hd => rfl); (case hg => rfl); (case hr => exact vz); intro gb284 hg w23 hbox hb; have BK284 := Aside0.mk (hbox); have GW284 := Aside0.mk ((by rw [hg]; exact (below_size (bz2 HB.out GE282.out GE283.out)) : w.heap.size <= gb284)); have GE284 := GW284; replace HB := Aside0.mk (below_step (bz2 HB.out GE282.out GE283.out) hb); have NB282_284 := Aside0.mk ((by rw [hg]; exact Nat.ne_of_lt (blk_lt (kz BK282.out)) : gb282 ≠ gb284)); have NB284_282 := Aside0.mk ((by rw [hg]; exact Nat.ne_of_gt (blk_lt (kz BK282.out)) : gb284 ≠ gb282)); replace BK282 := Aside0.mk (blk_below (kz BK282.out) hb); have NB283_284 := Aside0.mk ((by rw [hg]; exact Nat.ne_of_lt (blk_lt (kz BK283.out)) : gb283 ≠ gb284)); have NB284_283 := Aside0.mk ((by rw [hg]; exact Nat.ne_of_gt (blk_lt (kz BK283.out)) : gb284 ≠ gb283)); replace BK283 := Aside0.mk (blk_below (kz BK283.out) hb); clear hb hbox hg; have hnb24 := NB282_283.out; have hnc24 := NB283_282.out; have hnb25 := NB282_284.out; have hnc25 := NB284_282.out; obtain ⟨hcz26_0, hcz26_1, hcz26_2, hcz26_3⟩ := cz4 BK282.out; obtain ⟨hfz26_0, hfz26_1, hfz26_2, hfz26_3⟩ := fz4 BK282.out) | ((with_reducible refine gate_callee (f := 41) rfl ?_); refine goesL_ (some 9) rfl rfl Tryd.func41 (by kernel_rfl) rfl #[.agg #[.slice A0_0 l0_0.length c0_0, .slice A0_1 l0_1.length c0_1, .slice A0_2 l0_2.length c0_2, .slice A0_3 l0_3.length c0_3]] rfl lz ?_; (with_reducible refine (impl_HeapOk.calls k _ _ l0_0 _ _ l0_1 _ _ l0_2 _ _ l0_3 true _ ?side1 ?side2 ?side3 ?side4 ?side5 ?side6 ?side7 ?side8 A4.out).mono ?_); (case side1 => exact cz (Kd.C_below HR0_0.out HB.out)); (case side2 => exact HC0_0.out); (case side3 => exact cz (Kd.C_below HR0_1.out HB.out)); (case side4 => exact HC0_1.out); (case side5 => exact cz (Kd.C_below HR0_2.out HB.out)); (case side6 => exact HC0_2.out); (case side7 => exact cz (Kd.C_below HR0_3.out HB.out)); (case side8 => exact HC0_3.out); rintro e w27 ⟨rfl, hb⟩; refine ⟨_, rfl, ?_⟩; replace BK282 := Aside0.mk (blk_below (kz BK282.out) hb); replace BK283 := Aside0.mk (blk_below (kz BK283.out) hb); replace BK284 := Aside0.mk (blk_below (kz BK284.out) hb); replace HB := Aside0.mk (below_step (bz3 HB.out GE282.out GE283.out GE284.out) hb); (try clear hb); obtain ⟨hcz28_0, hcz28_1, hcz28_2, hcz28_3⟩ := cz4 BK282.out; obtain ⟨hfz28_0, hfz28_1, hfz28_2, hfz28_3⟩ := fz4 BK282.out) | (go_at_call 42; (with_reducible refine (impl_in.calls a1 (-1) (wrap64 ((l0_0.length : Int) - 1)) false _ A6.out).mono ?_); rintro e w' ⟨rfl, ⟨nd, rfl⟩⟩; have hnb29 := NB284_283.out; have hnc29 := NB283_284.out; obtain ⟨hcz30_0, hcz30_1⟩ := cz2 BK284.out; obtain ⟨hfz30_0, hfz30_1⟩ := fz2 BK284.out))
   refine bodyPost_ret (results_ct rfl _ _ gb284 35 #[.int .i64 0, .int .i64 0] (0, 0) _ rfl (by refine kq ?_; refine blk_put (cs := #[.int .i64 0, .int .i64 0]) ?_ 1 _ rfl; refine kq ?_; refine blk_put (cs := #[.int .i64 0, .int .i64 0]) ?_ 0 _ rfl; refine kq ?_; exact BK284.out) Tryd.underlying35 rfl (by kernel_rfl)) rfl ?_
   exact ⟨gz, (bz3 HB.out GE282.out GE283.out GE284.out)⟩
 ·replace c5 := Bool.eq_false_iff.mpr c5
  subst c5
  have H1 := hq H
  clear H
  have H := H1
  clear H1
  simp only [Option.some.injEq, Prod.mk.injEq] at H
  obtain ⟨rfl, rfl, rfl⟩ := H
  go_enter Tryd.func11, Tryd.ntmps11
  go_wp2_with (first | ((with_reducible refine gate_dst (N := 3) rfl ?_); (try (refine gate_guard (by rfl) ?_; dsimp only)); refine box_event ?hg (N := 3) ?hd (cs := #[.slice A0_0 l0_0.length c0_0, .slice A0_1 l0_1.length c0_1, .slice A0_2 l0_2.length c0_2, .slice A0_3 l0_3.length c0_3]) (t := 29) ?hr ?_; (case hd => rfl); (case hg => rfl); (case hr => exact vz); intro gb282 hg w31 hbox hb; have BK282 := Aside0.mk (hbox); have GW282 := Aside0.mk ((by rw [hg]; exact (below_size (bz0 HB.out)) : w.heap.size <= gb282)); have GE282 := GW282; replace HB := Aside0.mk (below_step (bz0 HB.out) hb); clear hb hbox hg) | ((with_reducible refine gate_dst (N := 5) rfl ?_); (try (refine gate_guard (by rfl) ?_; dsimp only)); refine box_event ?hg (N := 5) ?hd (cs := #[.int .i64 a2_0, .int .i64 a2_1]) (t := 31) ?hr ?_; (case hd => rfl); (case hg => rfl); (case hr => exact vz); intro gb283 hg w32 hbox hb; have BK283 := Aside0.mk (hbox); have GW283 := Aside0.mk ((by rw [hg]; exact (below_size (bz1 HB.out GE282.out)) : w.heap.size <= gb283)); have GE283 := GW283; replace HB := Aside0.mk (below_step (bz1 HB.out GE282.out) hb); have NB282_283 := Aside0.mk ((by rw [hg]; exact Nat.ne_of_lt (blk_lt (kz BK282.out)) : gb282 ≠ gb283)); have NB283_282 := Aside0.mk ((by rw [hg]; exact Nat.ne_of_gt (blk_lt (kz BK282.out)) : gb283 ≠ gb282)); replace BK282 := Aside0.mk (blk_below (kz BK282.out) hb); clear hb hbox hg) | ((with_reducible refine gate_dst (N := 6) rfl ?_); (try (refine gate_guard (by rfl) ?_; dsimp only)); refine box_event ?hg (N := 6) ?hd (cs := #[.int .i64 0, .int .i64 0]) (t := 35) ?hr ?_; (case hd => rfl); (case hg => rfl); (case hr => exact vz); intro gb284 hg w33 hbox hb; have BK284 := Aside0.mk (hbox); have GW284 := Aside0.mk ((by rw [hg]; exact (below_size (bz2 HB.out GE282.out GE283.out)) : w.heap.size <= gb284)); have GE284 := GW284; replace HB := Aside0.mk (below_step (bz2 HB.out GE282.out GE283.out) hb); have NB282_284 := Aside0.mk ((by rw [hg]; exact Nat.ne_of_lt (blk_lt (kz BK282.out)) : gb282 ≠ gb284)); have NB284_282 := Aside0.mk ((by rw [hg]; exact Nat.ne_of_gt (blk_lt (kz BK282.out)) : gb284 ≠ gb282)); replace BK282 := Aside0.mk (blk_below (kz BK282.out) hb); have NB283_284 := Aside0.mk ((by rw [hg]; exact Nat.ne_of_lt (blk_lt (kz BK283.out)) : gb283 ≠ gb284)); have NB284_283 := Aside0.mk ((by rw [hg]; exact Nat.ne_of_gt (blk_lt (kz BK283.out)) : gb284 ≠ gb283)); replace BK283 := Aside0.mk (blk_below (kz BK283.out) hb); clear hb hbox hg; have hnb34 := NB282_283.out; have hnc34 := NB283_282.out; have hnb35 := NB282_284.out; have hnc35 := NB284_282.out; obtain ⟨hcz36_0, hcz36_1, hcz36_2, hcz36_3⟩ := cz4 BK282.out; obtain ⟨hfz36_0, hfz36_1, hfz36_2, hfz36_3⟩ := fz4 BK282.out) | ((with_reducible refine gate_callee (f := 41) rfl ?_); refine goesL_ (some 9) rfl rfl Tryd.func41 (by kernel_rfl) rfl #[.agg #[.slice A0_0 l0_0.length c0_0, .slice A0_1 l0_1.length c0_1, .slice A0_2 l0_2.length c0_2, .slice A0_3 l0_3.length c0_3]] rfl lz ?_; (with_reducible refine (impl_HeapOk.calls k _ _ l0_0 _ _ l0_1 _ _ l0_2 _ _ l0_3 false _ ?side1 ?side2 ?side3 ?side4 ?side5 ?side6 ?side7 ?side8 A4.out).mono ?_); (case side1 => exact cz (Kd.C_below HR0_0.out HB.out)); (case side2 => exact HC0_0.out); (case side3 => exact cz (Kd.C_below HR0_1.out HB.out)); (case side4 => exact HC0_1.out); (case side5 => exact cz (Kd.C_below HR0_2.out HB.out)); (case side6 => exact HC0_2.out); (case side7 => exact cz (Kd.C_below HR0_3.out HB.out)); (case side8 => exact HC0_3.out); rintro e w37 ⟨rfl, hb⟩; refine ⟨_, rfl, ?_⟩; replace BK282 := Aside0.mk (blk_below (kz BK282.out) hb); replace BK283 := Aside0.mk (blk_below (kz BK283.out) hb); replace BK284 := Aside0.mk (blk_below (kz BK284.out) hb); replace HB := Aside0.mk (below_step (bz3 HB.out GE282.out GE283.out GE284.out) hb); (try clear hb); have hnb38 := NB284_283.out; have hnc38 := NB283_284.out; obtain ⟨hcz39_0, hcz39_1⟩ := cz2 BK284.out; obtain ⟨hfz39_0, hfz39_1⟩ := fz2 BK284.out))
  refine bodyPost_ret (results_ct rfl _ _ gb284 35 #[.int .i64 0, .int .i64 0] (0, 0) _ rfl (by refine kq ?_; refine blk_put (cs := #[.int .i64 0, .int .i64 0]) ?_ 1 _ rfl; refine kq ?_; refine blk_put (cs := #[.int .i64 0, .int .i64 0]) ?_ 0 _ rfl; refine kq ?_; exact BK284.out) Tryd.underlying35 rfl (by kernel_rfl)) rfl ?_
  exact ⟨gz, (bz3 HB.out GE282.out GE283.out GE284.out)⟩
def spec_l1In.f (a0 : Int) (a1 : Int) (a2 : Int) : Option (Bool) := if a0 ≥ a1 then (some (decide (a0 <= a2))) else (some false)
set_option maxHeartbeats 80000000 in
set_option maxRecDepth 100000 in
theorem spec_l1In.calls (a0 : Int) (a1 : Int) (a2 : Int) (r : Bool) (w : World) (h : spec_l1In.f a0 a1 a2 = some r) :
  Calls Tryd.prog 44 #[.int .i64 a0, .int .i64 a1, .int .i64 a2] w fun e w' => e = .returned (.bool r) /\ Drawn0 w w' := by
 have H : (if a0 ≥ a1 then (some (decide (a0 <= a2))) else (some false)) = some r := h
 clear h
 by_cases c4 : a0 ≥ a1
 ·rw [if_pos c4] at H
  have c4b0 : decide (a1 <= a0) = true := decide_eq_true c4
  clear c4
  obtain rfl := Option.some.inj H
  go_enter Tryd.func44, Tryd.ntmps44
  go_wp2
  go_ret
  exact ⟨e2z, dz⟩
 ·rw [if_neg c4] at H
  have c4b0 : decide (a1 <= a0) = false := decide_eq_false c4
  clear c4
  obtain rfl := Option.some.inj H
  go_enter Tryd.func44, Tryd.ntmps44
  go_wp2
  go_ret
  exact ⟨e2z, dz⟩
def spec_ValOk.j0 : Nat -> Int -> Bool -> List (S41) -> List (S86) -> List (S47) -> List (S35) -> Int -> Int -> Option (Bool)
 | 0, _, _, _, _, _, _, _, _ => none
 | k + 1, x6, x26, x291000, x291001, x291002, x291003, x292000, x292001 => if x26 = true then ((spec_l1In.f x292001 0 (wrap64 ((x291002.length : Int) - 1))).bind fun t294 => (some t294)) else (if x6 = 5 then ((spec_l1In.f x292001 0 (wrap64 ((x291003.length : Int) - 1))).bind fun t295 => (some t295)) else (some false))
def spec_ValOk.f (k : Nat) (l0_0 : List (S41)) (l0_1 : List (S86)) (l0_2 : List (S47)) (l0_3 : List (S35)) (a1_0 : Int) (a1_1 : Int) : Option (Bool) := if a1_0 = 0 then ((spec_l1In.f a1_1 0 65535).bind fun t292 => (some t292)) else (if a1_0 = 1 then ((spec_l1In.f a1_1 0 (wrap64 ((l0_1.length : Int) - 1))).bind fun t293 => (some t293)) else (if a1_0 = 2 then (some (a1_1 == 0)) else (if a1_0 = 3 then (spec_ValOk.j0 k a1_0 (a1_0 == 3) l0_0 l0_1 l0_2 l0_3 a1_0 a1_1) else (spec_ValOk.j0 k a1_0 (a1_0 == 4) l0_0 l0_1 l0_2 l0_3 a1_0 a1_1))))
theorem spec_ValOk.mono_l : ∀ k, (∀ y0 y1 y2 y3 y4 y5 y6 y7, LeO (spec_ValOk.j0 k y0 y1 y2 y3 y4 y5 y6 y7) (spec_ValOk.j0 (k + 1) y0 y1 y2 y3 y4 y5 y6 y7))
 | 0 => fun _ _ _ _ _ _ _ _ r h => by simp [spec_ValOk.j0] at h
 | k + 1 => by
  have ih0 := spec_ValOk.mono_l k
  ·intro y0 y1 y2 y3 y4 y5 y6 y7
   unfold spec_ValOk.j0
   with_reducible repeat' first | exact ih0 _ _ _ _ _ _ _ _ | exact lrz _ | exact lnz _ | refine liz ?_ ?_ | refine lbz ?_ fun _ => ?_
theorem spec_ValOk.mono : ∀ a0 a1 a2 a3 a4 a5 k, LeO (spec_ValOk.f k a0 a1 a2 a3 a4 a5) (spec_ValOk.f (k + 1) a0 a1 a2 a3 a4 a5) := by
 intro a0 a1 a2 a3 a4 a5 k
 have ih0 := spec_ValOk.mono_l k
 unfold spec_ValOk.f
 with_reducible repeat' first | exact ih0 _ _ _ _ _ _ _ _ | exact lrz _ | exact lnz _ | refine liz ?_ ?_ | refine lbz ?_ fun _ => ?_
set_option maxHeartbeats 80000000 in
set_option maxRecDepth 100000 in
theorem spec_ValOk.calls (k : Nat) (A0_0 : Option Addr) (c0_0 : Nat) (l0_0 : List (S41)) (A0_1 : Option Addr) (c0_1 : Nat) (l0_1 : List (S86)) (A0_2 : Option Addr) (c0_2 : Nat) (l0_2 : List (S47)) (A0_3 : Option Addr) (c0_3 : Nat) (l0_3 : List (S35)) (a1_0 : Int) (a1_1 : Int) (r : Bool) (w : World) (hr0_0 : Kd.C k41 w A0_0 l0_0.length l0_0) (hc0_0 : l0_0.length <= c0_0) (hr0_1 : Kd.C k86 w A0_1 l0_1.length l0_1) (hc0_1 : l0_1.length <= c0_1) (hr0_2 : Kd.C k47 w A0_2 l0_2.length l0_2) (hc0_2 : l0_2.length <= c0_2) (hr0_3 : Kd.C k35 w A0_3 l0_3.length l0_3) (hc0_3 : l0_3.length <= c0_3) (h : spec_ValOk.f k l0_0 l0_1 l0_2 l0_3 a1_0 a1_1 = some r) :
  Calls Tryd.prog 17 #[.agg #[.slice A0_0 l0_0.length c0_0, .slice A0_1 l0_1.length c0_1, .slice A0_2 l0_2.length c0_2, .slice A0_3 l0_3.length c0_3], .agg #[.int .i64 a1_0, .int .i64 a1_1]] w fun e w' => e = .returned (.bool r) /\ Below w.heap.size w w' := by
 have hu29 := Tryd.underlying29
 have hu35 := Tryd.underlying35
 have HR0_0 := Aside0.mk hr0_0
 have HC0_0 := Aside0.mk hc0_0
 clear hr0_0 hc0_0
 have HR0_1 := Aside0.mk hr0_1
 have HC0_1 := Aside0.mk hc0_1
 clear hr0_1 hc0_1
 have HR0_2 := Aside0.mk hr0_2
 have HC0_2 := Aside0.mk hc0_2
 clear hr0_2 hc0_2
 have HR0_3 := Aside0.mk hr0_3
 have HC0_3 := Aside0.mk hc0_3
 clear hr0_3 hc0_3
 have HB := Aside0.mk (Below.refl w.heap.size w)
 have H : (if a1_0 = 0 then ((spec_l1In.f a1_1 0 65535).bind fun t292 => (some t292)) else (if a1_0 = 1 then ((spec_l1In.f a1_1 0 (wrap64 ((l0_1.length : Int) - 1))).bind fun t293 => (some t293)) else (if a1_0 = 2 then (some (a1_1 == 0)) else (if a1_0 = 3 then (spec_ValOk.j0 k a1_0 (a1_0 == 3) l0_0 l0_1 l0_2 l0_3 a1_0 a1_1) else (spec_ValOk.j0 k a1_0 (a1_0 == 4) l0_0 l0_1 l0_2 l0_3 a1_0 a1_1))))) = some r := h
 clear h
 by_cases c3 : a1_0 = 0
 ·rw [if_pos c3] at H
  have c3b0 : (a1_0 == 0) = true := beq_iff_eq.mpr c3
  have c3b1 : (a1_0 != 0) = false := bne_eq_false_iff_eq.mpr c3
  clear c3
  replace H := bi H
  obtain ⟨t292, A40, H⟩ := H
  try dsimp only at H
  have A4 := Aside0.mk A40
  clear A40
  obtain rfl := Option.some.inj H
  go_enter Tryd.func17, Tryd.ntmps17
  go_wp2_with (first | ((with_reducible refine gate_dst (N := 2) rfl ?_); refine box_event ?hg (N := 2) ?hd (cs := #[.slice A0_0 l0_0.length c0_0, .slice A0_1 l0_1.length c0_1, .slice A0_2 l0_2.length c0_2, .slice A0_3 l0_3.length c0_3]) (t := 29) ?hr ?_; (case hd => rfl); (case hg => rfl); (case hr => exact vz); intro gb290 hg w5 hbox hb; have BK290 := Aside0.mk (hbox); have GW290 := Aside0.mk ((by rw [hg]; exact (below_size (bz0 HB.out)) : w.heap.size <= gb290)); have GE290 := GW290; replace HB := Aside0.mk (below_step (bz0 HB.out) hb); clear hb hbox hg) | ((with_reducible refine gate_dst (N := 3) rfl ?_); refine box_event ?hg (N := 3) ?hd (cs := #[.int .i64 a1_0, .int .i64 a1_1]) (t := 35) ?hr ?_; (case hd => rfl); (case hg => rfl); (case hr => exact vz); intro gb291 hg w6 hbox hb; have BK291 := Aside0.mk (hbox); have GW291 := Aside0.mk ((by rw [hg]; exact (below_size (bz1 HB.out GE290.out)) : w.heap.size <= gb291)); have GE291 := GW291; replace HB := Aside0.mk (below_step (bz1 HB.out GE290.out) hb); have NB290_291 := Aside0.mk ((by rw [hg]; exact Nat.ne_of_lt (blk_lt (kz BK290.out)) : gb290 ≠ gb291)); have NB291_290 := Aside0.mk ((by rw [hg]; exact Nat.ne_of_gt (blk_lt (kz BK290.out)) : gb291 ≠ gb290)); replace BK290 := Aside0.mk (blk_below (kz BK290.out) hb); clear hb hbox hg; have hnb7 := NB291_290.out; have hnc7 := NB290_291.out; obtain ⟨hcz8_0, hcz8_1⟩ := cz2 BK291.out; obtain ⟨hfz8_0, hfz8_1⟩ := fz2 BK291.out) | ((with_reducible refine gate_callee (f := 44) rfl ?_); refine goesL_ (some 11) rfl rfl Tryd.func44 (by kernel_rfl) rfl #[.int .i64 a1_1, .int .i64 0, .int .i64 65535] rfl lz ?_; (with_reducible refine (spec_l1In.calls a1_1 0 65535 t292 _ A4.out).mono ?_); rintro e w' ⟨rfl, ⟨nd, rfl⟩⟩; refine ⟨_, rfl, ?_⟩))
  go_ret
  exact ⟨gz, (bz2 HB.out GE290.out GE291.out)⟩
 ·rw [if_neg c3] at H
  have c3b0 : (a1_0 == 0) = false := beq_eq_false_iff_ne.mpr c3
  have c3b1 : (a1_0 != 0) = true := bne_iff_ne.mpr c3
  by_cases c9 : a1_0 = 1
  ·rw [if_pos c9] at H
   have c9b0 : (a1_0 == 1) = true := beq_iff_eq.mpr c9
   have c9b1 : (a1_0 != 1) = false := bne_eq_false_iff_eq.mpr c9
   clear c9
   replace H := bi H
   obtain ⟨t293, A100, H⟩ := H
   try dsimp only at H
   have A10 := Aside0.mk A100
   clear A100
   obtain rfl := Option.some.inj H
   go_enter Tryd.func17, Tryd.ntmps17
   go_wp2_with (first | ((with_reducible refine gate_dst (N := 2) rfl ?_); refine box_event ?hg (N := 2) ?hd (cs := #[.slice A0_0 l0_0.length c0_0, .slice A0_1 l0_1.length c0_1, .slice A0_2 l0_2.length c0_2, .slice A0_3 l0_3.length c0_3]) (t := 29) ?hr ?_; (case hd => rfl); (case hg => rfl); (case hr => exact vz); intro gb290 hg w11 hbox hb; have BK290 := Aside0.mk (hbox); have GW290 := Aside0.mk ((by rw [hg]; exact (below_size (bz0 HB.out)) : w.heap.size <= gb290)); have GE290 := GW290; replace HB := Aside0.mk (below_step (bz0 HB.out) hb); clear hb hbox hg) | ((with_reducible refine gate_dst (N := 3) rfl ?_); refine box_event ?hg (N := 3) ?hd (cs := #[.int .i64 a1_0, .int .i64 a1_1]) (t := 35) ?hr ?_; (case hd => rfl); (case hg => rfl); (case hr => exact vz); intro gb291 hg w12 hbox hb; have BK291 := Aside0.mk (hbox); have GW291 := Aside0.mk ((by rw [hg]; exact (below_size (bz1 HB.out GE290.out)) : w.heap.size <= gb291)); have GE291 := GW291; replace HB := Aside0.mk (below_step (bz1 HB.out GE290.out) hb); have NB290_291 := Aside0.mk ((by rw [hg]; exact Nat.ne_of_lt (blk_lt (kz BK290.out)) : gb290 ≠ gb291)); have NB291_290 := Aside0.mk ((by rw [hg]; exact Nat.ne_of_gt (blk_lt (kz BK290.out)) : gb291 ≠ gb290)); replace BK290 := Aside0.mk (blk_below (kz BK290.out) hb); clear hb hbox hg; have hnb13 := NB291_290.out; have hnc13 := NB290_291.out; obtain ⟨hcz14_0, hcz14_1⟩ := cz2 BK291.out; obtain ⟨hfz14_0, hfz14_1⟩ := fz2 BK291.out; obtain ⟨hcz15_0, hcz15_1, hcz15_2, hcz15_3⟩ := cz4 BK290.out; obtain ⟨hfz15_0, hfz15_1, hfz15_2, hfz15_3⟩ := fz4 BK290.out) | ((with_reducible refine gate_callee (f := 44) rfl ?_); refine goesL_ (some 20) rfl rfl Tryd.func44 (by kernel_rfl) rfl #[.int .i64 a1_1, .int .i64 0, .int .i64 (wrap64 ((l0_1.length : Int) - 1))] rfl lz ?_; (with_reducible refine (spec_l1In.calls a1_1 0 (wrap64 ((l0_1.length : Int) - 1)) t293 _ A10.out).mono ?_); rintro e w' ⟨rfl, ⟨nd, rfl⟩⟩; refine ⟨_, rfl, ?_⟩))
   go_ret
   exact ⟨gz, (bz2 HB.out GE290.out GE291.out)⟩
  ·rw [if_neg c9] at H
   have c9b0 : (a1_0 == 1) = false := beq_eq_false_iff_ne.mpr c9
   have c9b1 : (a1_0 != 1) = true := bne_iff_ne.mpr c9
   by_cases c16 : a1_0 = 2
   ·rw [if_pos c16] at H
    have c16b0 : (a1_0 == 2) = true := beq_iff_eq.mpr c16
    have c16b1 : (a1_0 != 2) = false := bne_eq_false_iff_eq.mpr c16
    clear c16
    obtain rfl := Option.some.inj H
    go_enter Tryd.func17, Tryd.ntmps17
    go_wp2_with (first | ((with_reducible refine gate_dst (N := 2) rfl ?_); refine box_event ?hg (N := 2) ?hd (cs := #[.slice A0_0 l0_0.length c0_0, .slice A0_1 l0_1.length c0_1, .slice A0_2 l0_2.length c0_2, .slice A0_3 l0_3.length c0_3]) (t := 29) ?hr ?_; (case hd => rfl); (case hg => rfl); (case hr => exact vz); intro gb290 hg w17 hbox hb; have BK290 := Aside0.mk (hbox); have GW290 := Aside0.mk ((by rw [hg]; exact (below_size (bz0 HB.out)) : w.heap.size <= gb290)); have GE290 := GW290; replace HB := Aside0.mk (below_step (bz0 HB.out) hb); clear hb hbox hg) | ((with_reducible refine gate_dst (N := 3) rfl ?_); refine box_event ?hg (N := 3) ?hd (cs := #[.int .i64 a1_0, .int .i64 a1_1]) (t := 35) ?hr ?_; (case hd => rfl); (case hg => rfl); (case hr => exact vz); intro gb291 hg w18 hbox hb; have BK291 := Aside0.mk (hbox); have GW291 := Aside0.mk ((by rw [hg]; exact (below_size (bz1 HB.out GE290.out)) : w.heap.size <= gb291)); have GE291 := GW291; replace HB := Aside0.mk (below_step (bz1 HB.out GE290.out) hb); have NB290_291 := Aside0.mk ((by rw [hg]; exact Nat.ne_of_lt (blk_lt (kz BK290.out)) : gb290 ≠ gb291)); have NB291_290 := Aside0.mk ((by rw [hg]; exact Nat.ne_of_gt (blk_lt (kz BK290.out)) : gb291 ≠ gb290)); replace BK290 := Aside0.mk (blk_below (kz BK290.out) hb); clear hb hbox hg; have hnb19 := NB291_290.out; have hnc19 := NB290_291.out; obtain ⟨hcz20_0, hcz20_1⟩ := cz2 BK291.out; obtain ⟨hfz20_0, hfz20_1⟩ := fz2 BK291.out))
    go_ret
    exact ⟨gz, (bz2 HB.out GE290.out GE291.out)⟩
   ·rw [if_neg c16] at H
    have c16b0 : (a1_0 == 2) = false := beq_eq_false_iff_ne.mpr c16
    have c16b1 : (a1_0 != 2) = true := bne_iff_ne.mpr c16
    have HC21 := Aside0.mk H
    clear H
    go_enter Tryd.func17, Tryd.ntmps17
    go_upto_if 26 with (first | ((with_reducible refine gate_dst (N := 2) rfl ?_); refine box_event ?hg (N := 2) ?hd (cs := #[.slice A0_0 l0_0.length c0_0, .slice A0_1 l0_1.length c0_1, .slice A0_2 l0_2.length c0_2, .slice A0_3 l0_3.length c0_3]) (t := 29) ?hr ?_; (case hd => rfl); (case hg => rfl); (case hr => exact vz); intro gb290 hg w22 hbox hb; have BK290 := Aside0.mk (hbox); have GW290 := Aside0.mk ((by rw [hg]; exact (below_size (bz0 HB.out)) : w.heap.size <= gb290)); have GE290 := GW290; replace HB := Aside0.mk (below_step (bz0 HB.out) hb); clear hb hbox hg) | ((with_reducible refine gate_dst (N := 3) rfl ?_); refine box_event ?hg (N := 3) ?hd (cs := #[.int .i64 a1_0, .int .i64 a1_1]) (t := 35) ?hr ?_; (case hd => rfl); (case hg => rfl); (case hr => exact vz); intro gb291 hg w23 hbox hb; have BK291 := Aside0.mk (hbox); have GW291 := Aside0.mk ((by rw [hg]; exact (below_size (bz1 HB.out GE290.out)) : w.heap.size <= gb291)); have GE291 := GW291; replace HB := Aside0.mk (below_step (bz1 HB.out GE290.out) hb); have NB290_291 := Aside0.mk ((by rw [hg]; exact Nat.ne_of_lt (blk_lt (kz BK290.out)) : gb290 ≠ gb291)); have NB291_290 := Aside0.mk ((by rw [hg]; exact Nat.ne_of_gt (blk_lt (kz BK290.out)) : gb291 ≠ gb290)); replace BK290 := Aside0.mk (blk_below (kz BK290.out) hb); clear hb hbox hg; have hnb24 := NB291_290.out; have hnc24 := NB290_291.out; obtain ⟨hcz25_0, hcz25_1⟩ := cz2 BK291.out; obtain ⟨hfz25_0, hfz25_1⟩ := fz2 BK291.out))
    (try simp only [Act.put, sz1, sz2, sz3])
    go_cut [26] (fun v26 wc => ∃ (kq : Nat) (x26_20 : Bool), v26 = .bool x26_20 /\ Aside0 (spec_ValOk.j0 kq a1_0 x26_20 l0_0 l0_1 l0_2 l0_3 a1_0 a1_1 = some r) /\ Aside0 (kq <= k) /\ Aside0 (wc.heap[gb290]? = some (.cells #[(.slice A0_0 l0_0.length c0_0), (.slice A0_1 l0_1.length c0_1), (.slice A0_2 l0_2.length c0_2), (.slice A0_3 l0_3.length c0_3)] 29 (0, 0))) /\ Aside0 (wc.heap[gb291]? = some (.cells #[.int .i64 a1_0, .int .i64 a1_1] 35 (0, 0))) /\ Aside0 (Below w.heap.size w wc))
    case first =>
     have H := HC21.out
     clear HC21
     by_cases c26 : a1_0 = 3
     ·rw [if_pos c26] at H
      have c26b0 : (a1_0 == 3) = true := beq_iff_eq.mpr c26
      have c26b1 : (a1_0 != 3) = false := bne_eq_false_iff_eq.mpr c26
      clear c26
      (first | rw [c26b0] | (simp only [i64_w, i32_w]; rw [c26b0]) | skip)
      have H' := Aside0.mk H
      clear H
      go_wp2
      go_meet
      case rel => exact ⟨_, ((a1_0 == 3)), ez, H', ⟨by first | omega | exact Nat.le_refl _⟩, ⟨by refine kq ?_; exact BK290.out⟩, ⟨by refine kq ?_; exact BK291.out⟩, ⟨(bz2 HB.out GE290.out GE291.out)⟩⟩
     ·rw [if_neg c26] at H
      have c26b0 : (a1_0 == 3) = false := beq_eq_false_iff_ne.mpr c26
      have c26b1 : (a1_0 != 3) = true := bne_iff_ne.mpr c26
      (first | rw [c26b0] | (simp only [i64_w, i32_w]; rw [c26b0]) | skip)
      have H' := Aside0.mk H
      clear H
      go_wp2
      go_meet
      case rel => exact ⟨_, ((a1_0 == 4)), ez, H', ⟨by first | omega | exact Nat.le_refl _⟩, ⟨by refine kq ?_; exact BK290.out⟩, ⟨by refine kq ?_; exact BK291.out⟩, ⟨(bz2 HB.out GE290.out GE291.out)⟩⟩
    case rest =>
     clear HC21
     try clear c1
     try clear c2
     try clear p2
     try clear c3
     try clear c3b0
     try clear c3b1
     try clear c4
     try clear p6
     try clear c7
     try clear c9
     try clear c9b0
     try clear c9b1
     try clear c13
     try clear c16
     try clear c16b0
     try clear c16b1
     try clear c17
     try clear c19
     try clear c24
     try clear c26
     try clear c26b0
     try clear c26b1
     try clear hcz14_0 hcz14_1
     try clear hcz15_0 hcz15_1 hcz15_2 hcz15_3
     try clear hcz20_0 hcz20_1
     try clear hcz25_0 hcz25_1
     try clear hcz8_0 hcz8_1
     try clear hfz14_0 hfz14_1
     try clear hfz15_0 hfz15_1 hfz15_2 hfz15_3
     try clear hfz20_0 hfz20_1
     try clear hfz25_0 hfz25_1
     try clear hfz8_0 hfz8_1
     obtain ⟨kq, x26_20, rfl, HA, HJ20, BK290, BK291, HB⟩ := hcut
     cases kq with
     | zero => exact absurd HA.out (by simp [spec_ValOk.j0])
     | succ kj20 =>
      have H := HA.out
      clear HA
      simp only [spec_ValOk.j0] at H
      by_cases c27 : x26_20 = true
      ·subst c27
       have H1 := hp H
       clear H
       have H := H1
       clear H1
       replace H := bi H
       obtain ⟨t294, A280, H⟩ := H
       try dsimp only at H
       have A28 := Aside0.mk A280
       clear A280
       obtain rfl := Option.some.inj H
       have hnb29 := NB291_290.out
       have hnc29 := NB290_291.out
       obtain ⟨hcz30_0, hcz30_1⟩ := cz2 BK291.out
       obtain ⟨hfz30_0, hfz30_1⟩ := fz2 BK291.out
       obtain ⟨hcz31_0, hcz31_1, hcz31_2, hcz31_3⟩ := cz4 BK290.out
       obtain ⟨hfz31_0, hfz31_1, hfz31_2, hfz31_3⟩ := fz4 BK290.out
       go_wp2_with (first | ((with_reducible refine gate_callee (f := 44) rfl ?_); refine goesL_ (some 35) rfl rfl Tryd.func44 (by kernel_rfl) rfl #[.int .i64 a1_1, .int .i64 0, .int .i64 (wrap64 ((l0_2.length : Int) - 1))] rfl lz ?_; (with_reducible refine (spec_l1In.calls a1_1 0 (wrap64 ((l0_2.length : Int) - 1)) t294 _ A28.out).mono ?_); rintro e w' ⟨rfl, ⟨nd, rfl⟩⟩; refine ⟨_, rfl, ?_⟩))
       go_ret
       exact ⟨gz, (bz2 HB.out GE290.out GE291.out)⟩
      ·replace c27 := Bool.eq_false_iff.mpr c27
       subst c27
       have H1 := hq H
       clear H
       have H := H1
       clear H1
       by_cases c32 : a1_0 = 5
       ·rw [if_pos c32] at H
        have c32b0 : (a1_0 == 5) = true := beq_iff_eq.mpr c32
        have c32b1 : (a1_0 != 5) = false := bne_eq_false_iff_eq.mpr c32
        clear c32
        replace H := bi H
        obtain ⟨t295, A330, H⟩ := H
        try dsimp only at H
        have A33 := Aside0.mk A330
        clear A330
        obtain rfl := Option.some.inj H
        have hnb34 := NB291_290.out
        have hnc34 := NB290_291.out
        obtain ⟨hcz35_0, hcz35_1⟩ := cz2 BK291.out
        obtain ⟨hfz35_0, hfz35_1⟩ := fz2 BK291.out
        obtain ⟨hcz36_0, hcz36_1, hcz36_2, hcz36_3⟩ := cz4 BK290.out
        obtain ⟨hfz36_0, hfz36_1, hfz36_2, hfz36_3⟩ := fz4 BK290.out
        go_wp2_with (first | ((with_reducible refine gate_callee (f := 44) rfl ?_); refine goesL_ (some 44) rfl rfl Tryd.func44 (by kernel_rfl) rfl #[.int .i64 a1_1, .int .i64 0, .int .i64 (wrap64 ((l0_3.length : Int) - 1))] rfl lz ?_; (with_reducible refine (spec_l1In.calls a1_1 0 (wrap64 ((l0_3.length : Int) - 1)) t295 _ A33.out).mono ?_); rintro e w' ⟨rfl, ⟨nd, rfl⟩⟩; refine ⟨_, rfl, ?_⟩))
        go_ret
        exact ⟨gz, (bz2 HB.out GE290.out GE291.out)⟩
       ·rw [if_neg c32] at H
        have c32b0 : (a1_0 == 5) = false := beq_eq_false_iff_ne.mpr c32
        have c32b1 : (a1_0 != 5) = true := bne_iff_ne.mpr c32
        obtain rfl := Option.some.inj H
        go_wp2
        go_ret
        exact ⟨gz, (bz2 HB.out GE290.out GE291.out)⟩
end Go.Proofs.YtlhofeikcaejpaaDoor.PFnValues
