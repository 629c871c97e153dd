/- PFnExactLookUpx6, of the words and walks that the law FnExactLookUp needs; made by this session's program out of printed texts. -/

import Derived.Test.YtlhofeikcaejpaaVELookUpPx0
import Derived.Test.YtlhofeikcaejpaaVELookUpPx4
import Derived.Test.YtlhofeikcaejpaaVELookUpPx5
namespace Go.Proofs.Ytlhofeikcaejpaa.PFnExactLookUp
open Go.RowKit Go.Proofs.YtlhofeikcaejpaaW.PrintWords Go.Proofs.YtlhofeikcaejpaaW.PrintLast Go.Proofs.YtlhofeikcaejpaaW.PrintMore
attribute [local go_sem] max2_int min2_int max_two min_two max_three min_three max_four min_four
set_option linter.unusedVariables false
set_option linter.unusedSimpArgs false
def impl_Heap_lookUp.l0 : Nat -> Int -> List (S97) -> List (S100) -> List (S102) -> List (S49) -> Int -> Int -> Option (Int × Int × Bool)
 | 0, _, _, _, _, _, _, _ => none
 | k + 1, x1, x229000, x229001, x229002, x229003, x230000, x230001 => if x1 ≥ 0 then (if 0 <= x1 then (if x1 < (x229000.length : Int) then (if ((rd_T97 x229000 x1).f0) = x230000 then (if ((rd_T97 x229000 x1).f1) = x230001 then (some ((rd_T97 x229000 x1).f2.f0, (rd_T97 x229000 x1).f2.f1, true)) else (impl_Heap_lookUp.l0 k ((rd_T97 x229000 x1).f3) x229000 x229001 x229002 x229003 x230000 x230001)) else (impl_Heap_lookUp.l0 k ((rd_T97 x229000 x1).f3) x229000 x229001 x229002 x229003 x230000 x230001)) else (none)) else (none)) else (some (0, 0, false))
def impl_Heap_lookUp.f (k : Nat) (l0_0 : List (S97)) (l0_1 : List (S100)) (l0_2 : List (S102)) (l0_3 : List (S49)) (a1 : Int) (a2_0 : Int) (a2_1 : Int) : Option (Int × Int × Bool) := impl_Heap_lookUp.l0 k a1 l0_0 l0_1 l0_2 l0_3 a2_0 a2_1
theorem impl_Heap_lookUp.mono_l : ∀ k, (∀ y0 y1 y2 y3 y4 y5 y6, LeO (impl_Heap_lookUp.l0 k y0 y1 y2 y3 y4 y5 y6) (impl_Heap_lookUp.l0 (k + 1) y0 y1 y2 y3 y4 y5 y6))
 | 0 => fun _ _ _ _ _ _ _ r h => by simp [impl_Heap_lookUp.l0] at h
 | k + 1 => by
  have ih0 := impl_Heap_lookUp.mono_l k
  ·intro y0 y1 y2 y3 y4 y5 y6
   unfold impl_Heap_lookUp.l0
   with_reducible repeat' first | exact ih0 _ _ _ _ _ _ _ | exact lrz _ | exact lnz _ | refine liz ?_ ?_ | refine lbz ?_ fun _ => ?_
theorem impl_Heap_lookUp.mono : ∀ a0 a1 a2 a3 a4 a5 a6 k, LeO (impl_Heap_lookUp.f k a0 a1 a2 a3 a4 a5 a6) (impl_Heap_lookUp.f (k + 1) a0 a1 a2 a3 a4 a5 a6) := by
 intro a0 a1 a2 a3 a4 a5 a6 k
 have ih0 := impl_Heap_lookUp.mono_l k
 unfold impl_Heap_lookUp.f
 with_reducible repeat' first | exact ih0 _ _ _ _ _ _ _ | exact lrz _ | exact lnz _ | refine liz ?_ ?_ | refine lbz ?_ fun _ => ?_
set_option maxHeartbeats 8000000 in
set_option maxRecDepth 100000 in
theorem impl_Heap_lookUp.calls (k : Nat) (A0_0 : Option Addr) (c0_0 : Nat) (l0_0 : List (S97)) (A0_1 : Option Addr) (c0_1 : Nat) (l0_1 : List (S100)) (A0_2 : Option Addr) (c0_2 : Nat) (l0_2 : List (S102)) (A0_3 : Option Addr) (c0_3 : Nat) (l0_3 : List (S49)) (a1 : Int) (a2_0 : Int) (a2_1 : Int) (r1 : Int) (r2 : Int) (r3 : Bool) (w : World) (hr0_0 : Kd.C k97 w A0_0 l0_0.length l0_0) (hc0_0 : l0_0.length <= c0_0) (hr0_1 : Kd.C k100 w A0_1 l0_1.length l0_1) (hc0_1 : l0_1.length <= c0_1) (hr0_2 : Kd.C k102 w A0_2 l0_2.length l0_2) (hc0_2 : l0_2.length <= c0_2) (hr0_3 : Kd.C k49 w A0_3 l0_3.length l0_3) (hc0_3 : l0_3.length <= c0_3) (gb228 : Nat) (hcap : w.heap[gb228]? = some (.cells #[.slice A0_0 l0_0.length c0_0, .slice A0_1 l0_1.length c0_1, .slice A0_2 l0_2.length c0_2, .slice A0_3 l0_3.length c0_3] 57 (0, 0))) (h : impl_Heap_lookUp.f k l0_0 l0_1 l0_2 l0_3 a1 a2_0 a2_1 = some (r1, r2, r3)) :
  Calls Try.prog 45 #[.pointer (some ⟨gb228, 0, none⟩), .int .i64 a1, .agg #[.int .i64 a2_0, .int .i64 a2_1]] w fun e w' => e = .returned (.tuple #[.agg #[.int .i64 r1, .int .i64 r2], .bool r3]) /\ Below w.heap.size w w' := by
 have hu57 := Try.underlying57
 have hu59 := Try.underlying59
 have hu49 := Try.underlying49
 have hu97 := Try.underlying97
 have HR0_0 := Aside0.mk hr0_0
 have HC0_0 := Aside0.mk hc0_0
 clear hr0_0 hc0_0
 have HR0_1 := Aside0.mk hr0_1
 have HC0_1 := Aside0.mk hc0_1
 clear hr0_1 hc0_1
 have HR0_2 := Aside0.mk hr0_2
 have HC0_2 := Aside0.mk hc0_2
 clear hr0_2 hc0_2
 have HR0_3 := Aside0.mk hr0_3
 have HC0_3 := Aside0.mk hc0_3
 clear hr0_3 hc0_3
 have HB := Aside0.mk (Below.refl w.heap.size w)
 have BK228 := Aside0.mk hcap
 clear hcap
 have H : (impl_Heap_lookUp.l0 k a1 l0_0 l0_1 l0_2 l0_3 a2_0 a2_1) = some (r1, r2, r3) := h
 clear h
 have H' := Aside0.mk H
 clear H
 go_enter Try.func45, Try.ntmps45
 go_wp2_with (first | ((with_reducible refine gate_dst (N := 5) rfl ?_); refine box_event ?hg (N := 5) ?hd (cs := #[.int .i64 a2_0, .int .i64 a2_1]) (t := 59) ?hr ?_; (case hd => rfl); (case hg => rfl); (case hr => exact vz); intro gb229 hg w5 hbox hb; have BK229 := Aside0.mk (hbox); have GW229 := Aside0.mk ((by rw [hg]; exact (below_size (bz0 HB.out)) : w.heap.size <= gb229)); have GE229 := Aside0.mk ((by rw [hg]; exact (below_size (bz0 HB.out)) : w.heap.size <= gb229)); replace HB := Aside0.mk (below_step (bz0 HB.out) hb); have NB228_229 := Aside0.mk ((by rw [hg]; exact Nat.ne_of_lt (blk_lt (g := gb228) (o := .cells #[.slice A0_0 l0_0.length c0_0, .slice A0_1 l0_1.length c0_1, .slice A0_2 l0_2.length c0_2, .slice A0_3 l0_3.length c0_3] 57 (0, 0)) (kz BK228.out)) : gb228 ≠ gb229)); have NB229_228 := Aside0.mk ((by rw [hg]; exact Nat.ne_of_gt (blk_lt (g := gb228) (o := .cells #[.slice A0_0 l0_0.length c0_0, .slice A0_1 l0_1.length c0_1, .slice A0_2 l0_2.length c0_2, .slice A0_3 l0_3.length c0_3] 57 (0, 0)) (kz BK228.out)) : gb229 ≠ gb228)); replace BK228 := Aside0.mk (blk_below (kz BK228.out) hb); clear hb hbox hg) | ((with_reducible refine gate_dst (N := 6) rfl ?_); refine box_event ?hg (N := 6) ?hd (cs := #[.int .i64 0, .int .i64 0]) (t := 49) ?hr ?_; (case hd => rfl); (case hg => rfl); (case hr => exact vz); intro gb230 hg w6 hbox hb; have BK230 := Aside0.mk (hbox); have GW230 := Aside0.mk ((by rw [hg]; exact (below_size (bz1 HB.out GE229.out)) : w.heap.size <= gb230)); have GE230 := Aside0.mk ((by rw [hg]; exact (below_size (bz1 HB.out GE229.out)) : w.heap.size <= gb230)); replace HB := Aside0.mk (below_step (bz1 HB.out GE229.out) hb); have NB228_230 := Aside0.mk ((by rw [hg]; exact Nat.ne_of_lt (blk_lt (g := gb228) (o := .cells #[.slice A0_0 l0_0.length c0_0, .slice A0_1 l0_1.length c0_1, .slice A0_2 l0_2.length c0_2, .slice A0_3 l0_3.length c0_3] 57 (0, 0)) (kz BK228.out)) : gb228 ≠ gb230)); have NB230_228 := Aside0.mk ((by rw [hg]; exact Nat.ne_of_gt (blk_lt (g := gb228) (o := .cells #[.slice A0_0 l0_0.length c0_0, .slice A0_1 l0_1.length c0_1, .slice A0_2 l0_2.length c0_2, .slice A0_3 l0_3.length c0_3] 57 (0, 0)) (kz BK228.out)) : gb230 ≠ gb228)); replace BK228 := Aside0.mk (blk_below (kz BK228.out) hb); have NB229_230 := Aside0.mk ((by rw [hg]; exact Nat.ne_of_lt (blk_lt (g := gb229) (o := .cells #[.int .i64 a2_0, .int .i64 a2_1] 59 (0, 0)) (kz BK229.out)) : gb229 ≠ gb230)); have NB230_229 := Aside0.mk ((by rw [hg]; exact Nat.ne_of_gt (blk_lt (g := gb229) (o := .cells #[.int .i64 a2_0, .int .i64 a2_1] 59 (0, 0)) (kz BK229.out)) : gb230 ≠ gb229)); replace BK229 := Aside0.mk (blk_below (kz BK229.out) hb); clear hb hbox hg))
 (try simp only [Act.put, sz1, sz2, sz3])
 go_loopg [1] k (fun kq v1 w' => ∃ (x1_1 : Int) (x231000_1 : Int) (x231001_1 : Int), v1 = .int .i64 x1_1 /\ Aside0 (impl_Heap_lookUp.l0 kq x1_1 l0_0 l0_1 l0_2 l0_3 a2_0 a2_1 = some (r1, r2, r3)) /\ Aside0 (kq <= k) /\ Aside0 (w'.heap[gb228]? = some (.cells #[(.slice A0_0 l0_0.length c0_0), (.slice A0_1 l0_1.length c0_1), (.slice A0_2 l0_2.length c0_2), (.slice A0_3 l0_3.length c0_3)] 57 (0, 0))) /\ Aside0 (w'.heap[gb229]? = some (.cells #[.int .i64 a2_0, .int .i64 a2_1] 59 (0, 0))) /\ Aside0 (w'.heap[gb230]? = some (.cells #[.int .i64 x231000_1, .int .i64 x231001_1] 49 (0, 0))) /\ Aside0 (Below w.heap.size w w'))
 case atStart => exact ⟨(a1), (0), (0), ez, H', ⟨Nat.le_refl _⟩, ⟨by refine kq ?_; exact BK228.out⟩, ⟨by refine kq ?_; exact BK229.out⟩, ⟨by refine kq ?_; exact BK230.out⟩, ⟨(bz2 HB.out GE229.out GE230.out)⟩⟩
 case round =>
  clear H'
  try clear p2
  try clear c4
  obtain ⟨x1_1, x231000_1, x231001_1, rfl, HA, HK1, BK228, BK229, BK230, HB⟩ := hrel
  cases gk with
  | zero => exact absurd HA.out (by simp [impl_Heap_lookUp.l0])
  | succ k1 =>
   have H := HA.out
   clear HA
   simp only [impl_Heap_lookUp.l0] at H
   by_cases c7 : x1_1 ≥ 0
   ·rw [if_pos c7] at H
    have c7b0 : decide (0 <= x1_1) = true := decide_eq_true c7
    clear c7
    replace H := iz H
    obtain ⟨c8, H⟩ := H
    have c8b0 := decide_eq_true c8
    clear c8
    replace H := iz H
    obtain ⟨c9, H⟩ := H
    have c9b0 := decide_eq_true c9
    clear c9
    by_cases c10 : ((rd_T97 l0_0 x1_1).f0) = a2_0
    ·rw [if_pos c10] at H
     have c10b0 : (((rd_T97 l0_0 x1_1).f0) == a2_0) = true := beq_iff_eq.mpr c10
     have c10b1 : (((rd_T97 l0_0 x1_1).f0) != a2_0) = false := bne_eq_false_iff_eq.mpr c10
     clear c10
     by_cases c11 : ((rd_T97 l0_0 x1_1).f1) = a2_1
     ·rw [if_pos c11] at H
      have c11b0 : (((rd_T97 l0_0 x1_1).f1) == a2_1) = true := beq_iff_eq.mpr c11
      have c11b1 : (((rd_T97 l0_0 x1_1).f1) != a2_1) = false := bne_eq_false_iff_eq.mpr c11
      clear c11
      simp only [Option.some.injEq, Prod.mk.injEq] at H
      obtain ⟨rfl, rfl, rfl⟩ := H
      have hnb12 := NB228_229.out
      have hnc12 := NB229_228.out
      have hnb13 := NB228_230.out
      have hnc13 := NB230_228.out
      obtain ⟨hcz14_0, hcz14_1, hcz14_2, hcz14_3⟩ := cz4 BK228.out
      obtain ⟨hfz14_0, hfz14_1, hfz14_2, hfz14_3⟩ := fz4 BK228.out
      have p231 : 0 <= (x1_1 : Int) := oz
      have q231 : x1_1 < (l0_0.length : Int) := oz
      obtain ⟨ad231, e231, hx231_0, hx231_1, hx231_2, hx231_3, hx231_4⟩ := at_T97 HR0_0.out x1_1 p231 q231
      cases e231
      replace hx231_0 := hz HB.out hx231_0
      replace hx231_1 := hz HB.out hx231_1
      replace hx231_2 := hz HB.out hx231_2
      replace hx231_3 := hz HB.out hx231_3
      replace hx231_4 := hz HB.out hx231_4
      replace p231 := eq_true p231
      replace q231 := eq_true q231
      go_wp2_with (first | ((with_reducible refine gate_dst (N := 8) rfl ?_); refine box_event ?hg (N := 8) ?hd (cs := #[.int .i64 0, .int .i64 0, .int .i64 0, .int .i64 0, .int .i64 0]) (t := 97) ?hr ?_; (case hd => rfl); (case hg => rfl); (case hr => exact vz); intro gb232 hg w15 hbox hb; have BK232 := Aside0.mk (hbox); have GW232 := Aside0.mk ((by rw [hg]; exact (below_size (bz2 HB.out GE229.out GE230.out)) : w.heap.size <= gb232)); have GE232 := Aside0.mk ((by rw [hg]; exact (below_size (bz2 HB.out GE229.out GE230.out)) : w.heap.size <= gb232)); replace HB := Aside0.mk (below_step (bz2 HB.out GE229.out GE230.out) hb); have NB228_232 := Aside0.mk ((by rw [hg]; exact Nat.ne_of_lt (blk_lt (g := gb228) (o := .cells #[.slice (some ad231) l0_0.length c0_0, .slice A0_1 l0_1.length c0_1, .slice A0_2 l0_2.length c0_2, .slice A0_3 l0_3.length c0_3] 57 (0, 0)) (kz BK228.out)) : gb228 ≠ gb232)); have NB232_228 := Aside0.mk ((by rw [hg]; exact Nat.ne_of_gt (blk_lt (g := gb228) (o := .cells #[.slice (some ad231) l0_0.length c0_0, .slice A0_1 l0_1.length c0_1, .slice A0_2 l0_2.length c0_2, .slice A0_3 l0_3.length c0_3] 57 (0, 0)) (kz BK228.out)) : gb232 ≠ gb228)); replace BK228 := Aside0.mk (blk_below (kz BK228.out) hb); have NB229_232 := Aside0.mk ((by rw [hg]; exact Nat.ne_of_lt (blk_lt (g := gb229) (o := .cells #[.int .i64 a2_0, .int .i64 a2_1] 59 (0, 0)) (kz BK229.out)) : gb229 ≠ gb232)); have NB232_229 := Aside0.mk ((by rw [hg]; exact Nat.ne_of_gt (blk_lt (g := gb229) (o := .cells #[.int .i64 a2_0, .int .i64 a2_1] 59 (0, 0)) (kz BK229.out)) : gb232 ≠ gb229)); replace BK229 := Aside0.mk (blk_below (kz BK229.out) hb); have NB230_232 := Aside0.mk ((by rw [hg]; exact Nat.ne_of_lt (blk_lt (g := gb230) (o := .cells #[.int .i64 x231000_1, .int .i64 x231001_1] 49 (0, 0)) (kz BK230.out)) : gb230 ≠ gb232)); have NB232_230 := Aside0.mk ((by rw [hg]; exact Nat.ne_of_gt (blk_lt (g := gb230) (o := .cells #[.int .i64 x231000_1, .int .i64 x231001_1] 49 (0, 0)) (kz BK230.out)) : gb232 ≠ gb230)); replace BK230 := Aside0.mk (blk_below (kz BK230.out) hb); clear hb hbox hg; have hnb16 := NB232_228.out; have hnc16 := NB228_232.out; have hnb17 := NB232_229.out; have hnc17 := NB229_232.out; have hnb18 := NB232_230.out; have hnc18 := NB230_232.out; obtain ⟨hcz19_0, hcz19_1, hcz19_2, hcz19_3, hcz19_4⟩ := cz5 BK232.out; obtain ⟨hfz19_0, hfz19_1, hfz19_2, hfz19_3, hfz19_4⟩ := fz5 BK232.out; have hnb20 := NB229_230.out; have hnc20 := NB230_229.out; obtain ⟨hcz21_0, hcz21_1⟩ := cz2 BK229.out; obtain ⟨hfz21_0, hfz21_1⟩ := fz2 BK229.out; obtain ⟨hcz22_0, hcz22_1⟩ := cz2 BK230.out; obtain ⟨hfz22_0, hfz22_1⟩ := fz2 BK230.out))
      refine bodyPost_ret (results_ct rfl _ _ gb230 49 #[.int .i64 ((rd_T97 l0_0 x1_1).f2.f0), .int .i64 ((rd_T97 l0_0 x1_1).f2.f1)] (0, 0) _ rfl (by refine kq ?_; refine blk_put (cs := #[.int .i64 ((rd_T97 l0_0 x1_1).f2.f0), .int .i64 x231001_1]) ?_ 1 _ rfl; refine kq ?_; refine blk_put (cs := #[.int .i64 x231000_1, .int .i64 x231001_1]) ?_ 0 _ rfl; refine kq ?_; refine blk_far ?_ NB230_232.out _; refine kq ?_; refine blk_far ?_ NB230_232.out _; refine kq ?_; refine blk_far ?_ NB230_232.out _; refine kq ?_; refine blk_far ?_ NB230_232.out _; refine kq ?_; refine blk_far ?_ NB230_232.out _; refine kq ?_; exact BK230.out) Try.underlying49 rfl (by kernel_rfl)) rfl ?_
      exact ⟨gz, (bz3 HB.out GE229.out GE230.out GE232.out)⟩
     ·rw [if_neg c11] at H
      have c11b0 : (((rd_T97 l0_0 x1_1).f1) == a2_1) = false := beq_eq_false_iff_ne.mpr c11
      have c11b1 : (((rd_T97 l0_0 x1_1).f1) != a2_1) = true := bne_iff_ne.mpr c11
      have H' := Aside0.mk H
      clear H
      have hnb23 := NB228_229.out
      have hnc23 := NB229_228.out
      have hnb24 := NB228_230.out
      have hnc24 := NB230_228.out
      obtain ⟨hcz25_0, hcz25_1, hcz25_2, hcz25_3⟩ := cz4 BK228.out
      obtain ⟨hfz25_0, hfz25_1, hfz25_2, hfz25_3⟩ := fz4 BK228.out
      have p231 : 0 <= (x1_1 : Int) := oz
      have q231 : x1_1 < (l0_0.length : Int) := oz
      obtain ⟨ad231, e231, hx231_0, hx231_1, hx231_2, hx231_3, hx231_4⟩ := at_T97 HR0_0.out x1_1 p231 q231
      cases e231
      replace hx231_0 := hz HB.out hx231_0
      replace hx231_1 := hz HB.out hx231_1
      replace hx231_2 := hz HB.out hx231_2
      replace hx231_3 := hz HB.out hx231_3
      replace hx231_4 := hz HB.out hx231_4
      replace p231 := eq_true p231
      replace q231 := eq_true q231
      go_wp2_with (first | ((with_reducible refine gate_dst (N := 8) rfl ?_); refine box_event ?hg (N := 8) ?hd (cs := #[.int .i64 0, .int .i64 0, .int .i64 0, .int .i64 0, .int .i64 0]) (t := 97) ?hr ?_; (case hd => rfl); (case hg => rfl); (case hr => exact vz); intro gb232 hg w26 hbox hb; have BK232 := Aside0.mk (hbox); have GW232 := Aside0.mk ((by rw [hg]; exact (below_size (bz2 HB.out GE229.out GE230.out)) : w.heap.size <= gb232)); have GE232 := Aside0.mk ((by rw [hg]; exact (below_size (bz2 HB.out GE229.out GE230.out)) : w.heap.size <= gb232)); replace HB := Aside0.mk (below_step (bz2 HB.out GE229.out GE230.out) hb); have NB228_232 := Aside0.mk ((by rw [hg]; exact Nat.ne_of_lt (blk_lt (g := gb228) (o := .cells #[.slice (some ad231) l0_0.length c0_0, .slice A0_1 l0_1.length c0_1, .slice A0_2 l0_2.length c0_2, .slice A0_3 l0_3.length c0_3] 57 (0, 0)) (kz BK228.out)) : gb228 ≠ gb232)); have NB232_228 := Aside0.mk ((by rw [hg]; exact Nat.ne_of_gt (blk_lt (g := gb228) (o := .cells #[.slice (some ad231) l0_0.length c0_0, .slice A0_1 l0_1.length c0_1, .slice A0_2 l0_2.length c0_2, .slice A0_3 l0_3.length c0_3] 57 (0, 0)) (kz BK228.out)) : gb232 ≠ gb228)); replace BK228 := Aside0.mk (blk_below (kz BK228.out) hb); have NB229_232 := Aside0.mk ((by rw [hg]; exact Nat.ne_of_lt (blk_lt (g := gb229) (o := .cells #[.int .i64 a2_0, .int .i64 a2_1] 59 (0, 0)) (kz BK229.out)) : gb229 ≠ gb232)); have NB232_229 := Aside0.mk ((by rw [hg]; exact Nat.ne_of_gt (blk_lt (g := gb229) (o := .cells #[.int .i64 a2_0, .int .i64 a2_1] 59 (0, 0)) (kz BK229.out)) : gb232 ≠ gb229)); replace BK229 := Aside0.mk (blk_below (kz BK229.out) hb); have NB230_232 := Aside0.mk ((by rw [hg]; exact Nat.ne_of_lt (blk_lt (g := gb230) (o := .cells #[.int .i64 x231000_1, .int .i64 x231001_1] 49 (0, 0)) (kz BK230.out)) : gb230 ≠ gb232)); have NB232_230 := Aside0.mk ((by rw [hg]; exact Nat.ne_of_gt (blk_lt (g := gb230) (o := .cells #[.int .i64 x231000_1, .int .i64 x231001_1] 49 (0, 0)) (kz BK230.out)) : gb232 ≠ gb230)); replace BK230 := Aside0.mk (blk_below (kz BK230.out) hb); clear hb hbox hg; have hnb27 := NB232_228.out; have hnc27 := NB228_232.out; have hnb28 := NB232_229.out; have hnc28 := NB229_232.out; have hnb29 := NB232_230.out; have hnc29 := NB230_232.out; obtain ⟨hcz30_0, hcz30_1, hcz30_2, hcz30_3, hcz30_4⟩ := cz5 BK232.out; obtain ⟨hfz30_0, hfz30_1, hfz30_2, hfz30_3, hfz30_4⟩ := fz5 BK232.out; have hnb31 := NB229_230.out; have hnc31 := NB230_229.out; obtain ⟨hcz32_0, hcz32_1⟩ := cz2 BK229.out; obtain ⟨hfz32_0, hfz32_1⟩ := fz2 BK229.out; obtain ⟨hcz33_0, hcz33_1, hcz33_2, hcz33_3⟩ := cz4 BK228.out; obtain ⟨hfz33_0, hfz33_1, hfz33_2, hfz33_3⟩ := fz4 BK228.out; have p233 : 0 <= (x1_1 : Int) := oz; have q233 : x1_1 < (l0_0.length : Int) := oz; obtain ⟨ad233, e233, hx233_0, hx233_1, hx233_2, hx233_3, hx233_4⟩ := at_T97 HR0_0.out x1_1 p233 q233; obtain rfl : ad231 = ad233 := (by injection e233); have hn233_0 : ad231.block ≠ gb232 := Nat.ne_of_lt (Nat.lt_of_lt_of_le (by have := World.block_lt_of_cell? _ _ hx233_0; first | rwa [add_block] at this | exact this) GW232.out); have hn233_1 : ad231.block ≠ gb232 := Nat.ne_of_lt (Nat.lt_of_lt_of_le (by have := World.block_lt_of_cell? _ _ hx233_0; first | rwa [add_block] at this | exact this) GW232.out); have hn233_2 : ad231.block ≠ gb232 := Nat.ne_of_lt (Nat.lt_of_lt_of_le (by have := World.block_lt_of_cell? _ _ hx233_0; first | rwa [add_block] at this | exact this) GW232.out); have hn233_3 : ad231.block ≠ gb232 := Nat.ne_of_lt (Nat.lt_of_lt_of_le (by have := World.block_lt_of_cell? _ _ hx233_0; first | rwa [add_block] at this | exact this) GW232.out); have hn233_4 : ad231.block ≠ gb232 := Nat.ne_of_lt (Nat.lt_of_lt_of_le (by have := World.block_lt_of_cell? _ _ hx233_0; first | rwa [add_block] at this | exact this) GW232.out); replace hx233_0 := hz HB.out hx233_0; replace hx233_1 := hz HB.out hx233_1; replace hx233_2 := hz HB.out hx233_2; replace hx233_3 := hz HB.out hx233_3; replace hx233_4 := hz HB.out hx233_4; replace hx233_0 := (cell_far (p := ⟨gb232, 0, none⟩) (nz hn233_0) (.int .i64 ((rd_T97 l0_0 x1_1).f0))).trans hx233_0; replace hx233_1 := (cell_far (p := ⟨gb232, 0, none⟩) (nz hn233_0) (.int .i64 ((rd_T97 l0_0 x1_1).f0))).trans hx233_1; replace hx233_2 := (cell_far (p := ⟨gb232, 0, none⟩) (nz hn233_0) (.int .i64 ((rd_T97 l0_0 x1_1).f0))).trans hx233_2; replace hx233_3 := (cell_far (p := ⟨gb232, 0, none⟩) (nz hn233_0) (.int .i64 ((rd_T97 l0_0 x1_1).f0))).trans hx233_3; replace hx233_4 := (cell_far (p := ⟨gb232, 0, none⟩) (nz hn233_0) (.int .i64 ((rd_T97 l0_0 x1_1).f0))).trans hx233_4; replace hx233_0 := (cell_far (p := ⟨gb232, 1, none⟩) (nz hn233_1) (.int .i64 ((rd_T97 l0_0 x1_1).f1))).trans hx233_0; replace hx233_1 := (cell_far (p := ⟨gb232, 1, none⟩) (nz hn233_1) (.int .i64 ((rd_T97 l0_0 x1_1).f1))).trans hx233_1; replace hx233_2 := (cell_far (p := ⟨gb232, 1, none⟩) (nz hn233_1) (.int .i64 ((rd_T97 l0_0 x1_1).f1))).trans hx233_2; replace hx233_3 := (cell_far (p := ⟨gb232, 1, none⟩) (nz hn233_1) (.int .i64 ((rd_T97 l0_0 x1_1).f1))).trans hx233_3; replace hx233_4 := (cell_far (p := ⟨gb232, 1, none⟩) (nz hn233_1) (.int .i64 ((rd_T97 l0_0 x1_1).f1))).trans hx233_4; replace hx233_0 := (cell_far (p := ⟨gb232, 2, none⟩) (nz hn233_2) (.int .i64 ((rd_T97 l0_0 x1_1).f2.f0))).trans hx233_0; replace hx233_1 := (cell_far (p := ⟨gb232, 2, none⟩) (nz hn233_2) (.int .i64 ((rd_T97 l0_0 x1_1).f2.f0))).trans hx233_1; replace hx233_2 := (cell_far (p := ⟨gb232, 2, none⟩) (nz hn233_2) (.int .i64 ((rd_T97 l0_0 x1_1).f2.f0))).trans hx233_2; replace hx233_3 := (cell_far (p := ⟨gb232, 2, none⟩) (nz hn233_2) (.int .i64 ((rd_T97 l0_0 x1_1).f2.f0))).trans hx233_3; replace hx233_4 := (cell_far (p := ⟨gb232, 2, none⟩) (nz hn233_2) (.int .i64 ((rd_T97 l0_0 x1_1).f2.f0))).trans hx233_4; replace hx233_0 := (cell_far (p := ⟨gb232, 3, none⟩) (nz hn233_3) (.int .i64 ((rd_T97 l0_0 x1_1).f2.f1))).trans hx233_0; replace hx233_1 := (cell_far (p := ⟨gb232, 3, none⟩) (nz hn233_3) (.int .i64 ((rd_T97 l0_0 x1_1).f2.f1))).trans hx233_1; replace hx233_2 := (cell_far (p := ⟨gb232, 3, none⟩) (nz hn233_3) (.int .i64 ((rd_T97 l0_0 x1_1).f2.f1))).trans hx233_2; replace hx233_3 := (cell_far (p := ⟨gb232, 3, none⟩) (nz hn233_3) (.int .i64 ((rd_T97 l0_0 x1_1).f2.f1))).trans hx233_3; replace hx233_4 := (cell_far (p := ⟨gb232, 3, none⟩) (nz hn233_3) (.int .i64 ((rd_T97 l0_0 x1_1).f2.f1))).trans hx233_4; replace hx233_0 := (cell_far (p := ⟨gb232, 4, none⟩) (nz hn233_4) (.int .i64 ((rd_T97 l0_0 x1_1).f3))).trans hx233_0; replace hx233_1 := (cell_far (p := ⟨gb232, 4, none⟩) (nz hn233_4) (.int .i64 ((rd_T97 l0_0 x1_1).f3))).trans hx233_1; replace hx233_2 := (cell_far (p := ⟨gb232, 4, none⟩) (nz hn233_4) (.int .i64 ((rd_T97 l0_0 x1_1).f3))).trans hx233_2; replace hx233_3 := (cell_far (p := ⟨gb232, 4, none⟩) (nz hn233_4) (.int .i64 ((rd_T97 l0_0 x1_1).f3))).trans hx233_3; replace hx233_4 := (cell_far (p := ⟨gb232, 4, none⟩) (nz hn233_4) (.int .i64 ((rd_T97 l0_0 x1_1).f3))).trans hx233_4; clear hn233_0; clear hn233_1; clear hn233_2; clear hn233_3; clear hn233_4; replace p233 := eq_true p233; replace q233 := eq_true q233))
      go_roundg k1
      case measure => have := HK1.out; omega
      case rel => exact ⟨((rd_T97 l0_0 x1_1).f3), (x231000_1), (x231001_1), ez, H', ⟨by have := HK1.out; omega⟩, ⟨by refine kq ?_; refine blk_far ?_ NB228_232.out _; refine kq ?_; refine blk_far ?_ NB228_232.out _; refine kq ?_; refine blk_far ?_ NB228_232.out _; refine kq ?_; refine blk_far ?_ NB228_232.out _; refine kq ?_; refine blk_far ?_ NB228_232.out _; refine kq ?_; exact BK228.out⟩, ⟨by refine kq ?_; refine blk_far ?_ NB229_232.out _; refine kq ?_; refine blk_far ?_ NB229_232.out _; refine kq ?_; refine blk_far ?_ NB229_232.out _; refine kq ?_; refine blk_far ?_ NB229_232.out _; refine kq ?_; refine blk_far ?_ NB229_232.out _; refine kq ?_; exact BK229.out⟩, ⟨by refine kq ?_; refine blk_far ?_ NB230_232.out _; refine kq ?_; refine blk_far ?_ NB230_232.out _; refine kq ?_; refine blk_far ?_ NB230_232.out _; refine kq ?_; refine blk_far ?_ NB230_232.out _; refine kq ?_; refine blk_far ?_ NB230_232.out _; refine kq ?_; exact BK230.out⟩, ⟨(bz3 HB.out GE229.out GE230.out GE232.out)⟩⟩
    ·rw [if_neg c10] at H
     have c10b0 : (((rd_T97 l0_0 x1_1).f0) == a2_0) = false := beq_eq_false_iff_ne.mpr c10
     have c10b1 : (((rd_T97 l0_0 x1_1).f0) != a2_0) = true := bne_iff_ne.mpr c10
     have H' := Aside0.mk H
     clear H
     have hnb34 := NB228_229.out
     have hnc34 := NB229_228.out
     have hnb35 := NB228_230.out
     have hnc35 := NB230_228.out
     obtain ⟨hcz36_0, hcz36_1, hcz36_2, hcz36_3⟩ := cz4 BK228.out
     obtain ⟨hfz36_0, hfz36_1, hfz36_2, hfz36_3⟩ := fz4 BK228.out
     have p231 : 0 <= (x1_1 : Int) := oz
     have q231 : x1_1 < (l0_0.length : Int) := oz
     obtain ⟨ad231, e231, hx231_0, hx231_1, hx231_2, hx231_3, hx231_4⟩ := at_T97 HR0_0.out x1_1 p231 q231
     cases e231
     replace hx231_0 := hz HB.out hx231_0
     replace hx231_1 := hz HB.out hx231_1
     replace hx231_2 := hz HB.out hx231_2
     replace hx231_3 := hz HB.out hx231_3
     replace hx231_4 := hz HB.out hx231_4
     replace p231 := eq_true p231
     replace q231 := eq_true q231
     go_wp2_with (first | ((with_reducible refine gate_dst (N := 8) rfl ?_); refine box_event ?hg (N := 8) ?hd (cs := #[.int .i64 0, .int .i64 0, .int .i64 0, .int .i64 0, .int .i64 0]) (t := 97) ?hr ?_; (case hd => rfl); (case hg => rfl); (case hr => exact vz); intro gb232 hg w37 hbox hb; have BK232 := Aside0.mk (hbox); have GW232 := Aside0.mk ((by rw [hg]; exact (below_size (bz2 HB.out GE229.out GE230.out)) : w.heap.size <= gb232)); have GE232 := Aside0.mk ((by rw [hg]; exact (below_size (bz2 HB.out GE229.out GE230.out)) : w.heap.size <= gb232)); replace HB := Aside0.mk (below_step (bz2 HB.out GE229.out GE230.out) hb); have NB228_232 := Aside0.mk ((by rw [hg]; exact Nat.ne_of_lt (blk_lt (g := gb228) (o := .cells #[.slice (some ad231) l0_0.length c0_0, .slice A0_1 l0_1.length c0_1, .slice A0_2 l0_2.length c0_2, .slice A0_3 l0_3.length c0_3] 57 (0, 0)) (kz BK228.out)) : gb228 ≠ gb232)); have NB232_228 := Aside0.mk ((by rw [hg]; exact Nat.ne_of_gt (blk_lt (g := gb228) (o := .cells #[.slice (some ad231) l0_0.length c0_0, .slice A0_1 l0_1.length c0_1, .slice A0_2 l0_2.length c0_2, .slice A0_3 l0_3.length c0_3] 57 (0, 0)) (kz BK228.out)) : gb232 ≠ gb228)); replace BK228 := Aside0.mk (blk_below (kz BK228.out) hb); have NB229_232 := Aside0.mk ((by rw [hg]; exact Nat.ne_of_lt (blk_lt (g := gb229) (o := .cells #[.int .i64 a2_0, .int .i64 a2_1] 59 (0, 0)) (kz BK229.out)) : gb229 ≠ gb232)); have NB232_229 := Aside0.mk ((by rw [hg]; exact Nat.ne_of_gt (blk_lt (g := gb229) (o := .cells #[.int .i64 a2_0, .int .i64 a2_1] 59 (0, 0)) (kz BK229.out)) : gb232 ≠ gb229)); replace BK229 := Aside0.mk (blk_below (kz BK229.out) hb); have NB230_232 := Aside0.mk ((by rw [hg]; exact Nat.ne_of_lt (blk_lt (g := gb230) (o := .cells #[.int .i64 x231000_1, .int .i64 x231001_1] 49 (0, 0)) (kz BK230.out)) : gb230 ≠ gb232)); have NB232_230 := Aside0.mk ((by rw [hg]; exact Nat.ne_of_gt (blk_lt (g := gb230) (o := .cells #[.int .i64 x231000_1, .int .i64 x231001_1] 49 (0, 0)) (kz BK230.out)) : gb232 ≠ gb230)); replace BK230 := Aside0.mk (blk_below (kz BK230.out) hb); clear hb hbox hg; have hnb38 := NB232_228.out; have hnc38 := NB228_232.out; have hnb39 := NB232_229.out; have hnc39 := NB229_232.out; have hnb40 := NB232_230.out; have hnc40 := NB230_232.out; obtain ⟨hcz41_0, hcz41_1, hcz41_2, hcz41_3, hcz41_4⟩ := cz5 BK232.out; obtain ⟨hfz41_0, hfz41_1, hfz41_2, hfz41_3, hfz41_4⟩ := fz5 BK232.out; have hnb42 := NB229_230.out; have hnc42 := NB230_229.out; obtain ⟨hcz43_0, hcz43_1⟩ := cz2 BK229.out; obtain ⟨hfz43_0, hfz43_1⟩ := fz2 BK229.out; obtain ⟨hcz44_0, hcz44_1, hcz44_2, hcz44_3⟩ := cz4 BK228.out; obtain ⟨hfz44_0, hfz44_1, hfz44_2, hfz44_3⟩ := fz4 BK228.out; have p234 : 0 <= (x1_1 : Int) := oz; have q234 : x1_1 < (l0_0.length : Int) := oz; obtain ⟨ad234, e234, hx234_0, hx234_1, hx234_2, hx234_3, hx234_4⟩ := at_T97 HR0_0.out x1_1 p234 q234; obtain rfl : ad231 = ad234 := (by injection e234); have hn234_0 : ad231.block ≠ gb232 := Nat.ne_of_lt (Nat.lt_of_lt_of_le (by have := World.block_lt_of_cell? _ _ hx234_0; first | rwa [add_block] at this | exact this) GW232.out); have hn234_1 : ad231.block ≠ gb232 := Nat.ne_of_lt (Nat.lt_of_lt_of_le (by have := World.block_lt_of_cell? _ _ hx234_0; first | rwa [add_block] at this | exact this) GW232.out); have hn234_2 : ad231.block ≠ gb232 := Nat.ne_of_lt (Nat.lt_of_lt_of_le (by have := World.block_lt_of_cell? _ _ hx234_0; first | rwa [add_block] at this | exact this) GW232.out); have hn234_3 : ad231.block ≠ gb232 := Nat.ne_of_lt (Nat.lt_of_lt_of_le (by have := World.block_lt_of_cell? _ _ hx234_0; first | rwa [add_block] at this | exact this) GW232.out); have hn234_4 : ad231.block ≠ gb232 := Nat.ne_of_lt (Nat.lt_of_lt_of_le (by have := World.block_lt_of_cell? _ _ hx234_0; first | rwa [add_block] at this | exact this) GW232.out); replace hx234_0 := hz HB.out hx234_0; replace hx234_1 := hz HB.out hx234_1; replace hx234_2 := hz HB.out hx234_2; replace hx234_3 := hz HB.out hx234_3; replace hx234_4 := hz HB.out hx234_4; replace hx234_0 := (cell_far (p := ⟨gb232, 0, none⟩) (nz hn234_0) (.int .i64 ((rd_T97 l0_0 x1_1).f0))).trans hx234_0; replace hx234_1 := (cell_far (p := ⟨gb232, 0, none⟩) (nz hn234_0) (.int .i64 ((rd_T97 l0_0 x1_1).f0))).trans hx234_1; replace hx234_2 := (cell_far (p := ⟨gb232, 0, none⟩) (nz hn234_0) (.int .i64 ((rd_T97 l0_0 x1_1).f0))).trans hx234_2; replace hx234_3 := (cell_far (p := ⟨gb232, 0, none⟩) (nz hn234_0) (.int .i64 ((rd_T97 l0_0 x1_1).f0))).trans hx234_3; replace hx234_4 := (cell_far (p := ⟨gb232, 0, none⟩) (nz hn234_0) (.int .i64 ((rd_T97 l0_0 x1_1).f0))).trans hx234_4; replace hx234_0 := (cell_far (p := ⟨gb232, 1, none⟩) (nz hn234_1) (.int .i64 ((rd_T97 l0_0 x1_1).f1))).trans hx234_0; replace hx234_1 := (cell_far (p := ⟨gb232, 1, none⟩) (nz hn234_1) (.int .i64 ((rd_T97 l0_0 x1_1).f1))).trans hx234_1; replace hx234_2 := (cell_far (p := ⟨gb232, 1, none⟩) (nz hn234_1) (.int .i64 ((rd_T97 l0_0 x1_1).f1))).trans hx234_2; replace hx234_3 := (cell_far (p := ⟨gb232, 1, none⟩) (nz hn234_1) (.int .i64 ((rd_T97 l0_0 x1_1).f1))).trans hx234_3; replace hx234_4 := (cell_far (p := ⟨gb232, 1, none⟩) (nz hn234_1) (.int .i64 ((rd_T97 l0_0 x1_1).f1))).trans hx234_4; replace hx234_0 := (cell_far (p := ⟨gb232, 2, none⟩) (nz hn234_2) (.int .i64 ((rd_T97 l0_0 x1_1).f2.f0))).trans hx234_0; replace hx234_1 := (cell_far (p := ⟨gb232, 2, none⟩) (nz hn234_2) (.int .i64 ((rd_T97 l0_0 x1_1).f2.f0))).trans hx234_1; replace hx234_2 := (cell_far (p := ⟨gb232, 2, none⟩) (nz hn234_2) (.int .i64 ((rd_T97 l0_0 x1_1).f2.f0))).trans hx234_2; replace hx234_3 := (cell_far (p := ⟨gb232, 2, none⟩) (nz hn234_2) (.int .i64 ((rd_T97 l0_0 x1_1).f2.f0))).trans hx234_3; replace hx234_4 := (cell_far (p := ⟨gb232, 2, none⟩) (nz hn234_2) (.int .i64 ((rd_T97 l0_0 x1_1).f2.f0))).trans hx234_4; replace hx234_0 := (cell_far (p := ⟨gb232, 3, none⟩) (nz hn234_3) (.int .i64 ((rd_T97 l0_0 x1_1).f2.f1))).trans hx234_0; replace hx234_1 := (cell_far (p := ⟨gb232, 3, none⟩) (nz hn234_3) (.int .i64 ((rd_T97 l0_0 x1_1).f2.f1))).trans hx234_1; replace hx234_2 := (cell_far (p := ⟨gb232, 3, none⟩) (nz hn234_3) (.int .i64 ((rd_T97 l0_0 x1_1).f2.f1))).trans hx234_2; replace hx234_3 := (cell_far (p := ⟨gb232, 3, none⟩) (nz hn234_3) (.int .i64 ((rd_T97 l0_0 x1_1).f2.f1))).trans hx234_3; replace hx234_4 := (cell_far (p := ⟨gb232, 3, none⟩) (nz hn234_3) (.int .i64 ((rd_T97 l0_0 x1_1).f2.f1))).trans hx234_4; replace hx234_0 := (cell_far (p := ⟨gb232, 4, none⟩) (nz hn234_4) (.int .i64 ((rd_T97 l0_0 x1_1).f3))).trans hx234_0; replace hx234_1 := (cell_far (p := ⟨gb232, 4, none⟩) (nz hn234_4) (.int .i64 ((rd_T97 l0_0 x1_1).f3))).trans hx234_1; replace hx234_2 := (cell_far (p := ⟨gb232, 4, none⟩) (nz hn234_4) (.int .i64 ((rd_T97 l0_0 x1_1).f3))).trans hx234_2; replace hx234_3 := (cell_far (p := ⟨gb232, 4, none⟩) (nz hn234_4) (.int .i64 ((rd_T97 l0_0 x1_1).f3))).trans hx234_3; replace hx234_4 := (cell_far (p := ⟨gb232, 4, none⟩) (nz hn234_4) (.int .i64 ((rd_T97 l0_0 x1_1).f3))).trans hx234_4; clear hn234_0; clear hn234_1; clear hn234_2; clear hn234_3; clear hn234_4; replace p234 := eq_true p234; replace q234 := eq_true q234))
     go_roundg k1
     case measure => have := HK1.out; omega
     case rel => exact ⟨((rd_T97 l0_0 x1_1).f3), (x231000_1), (x231001_1), ez, H', ⟨by have := HK1.out; omega⟩, ⟨by refine kq ?_; refine blk_far ?_ NB228_232.out _; refine kq ?_; refine blk_far ?_ NB228_232.out _; refine kq ?_; refine blk_far ?_ NB228_232.out _; refine kq ?_; refine blk_far ?_ NB228_232.out _; refine kq ?_; refine blk_far ?_ NB228_232.out _; refine kq ?_; exact BK228.out⟩, ⟨by refine kq ?_; refine blk_far ?_ NB229_232.out _; refine kq ?_; refine blk_far ?_ NB229_232.out _; refine kq ?_; refine blk_far ?_ NB229_232.out _; refine kq ?_; refine blk_far ?_ NB229_232.out _; refine kq ?_; refine blk_far ?_ NB229_232.out _; refine kq ?_; exact BK229.out⟩, ⟨by refine kq ?_; refine blk_far ?_ NB230_232.out _; refine kq ?_; refine blk_far ?_ NB230_232.out _; refine kq ?_; refine blk_far ?_ NB230_232.out _; refine kq ?_; refine blk_far ?_ NB230_232.out _; refine kq ?_; refine blk_far ?_ NB230_232.out _; refine kq ?_; exact BK230.out⟩, ⟨(bz3 HB.out GE229.out GE230.out GE232.out)⟩⟩
   ·rw [if_neg c7] at H
    have c7b0 : decide (0 <= x1_1) = false := decide_eq_false c7
    clear c7
    simp only [Option.some.injEq, Prod.mk.injEq] at H
    obtain ⟨rfl, rfl, rfl⟩ := H
    have hnb45 := NB230_228.out
    have hnc45 := NB228_230.out
    have hnb46 := NB230_229.out
    have hnc46 := NB229_230.out
    obtain ⟨hcz47_0, hcz47_1⟩ := cz2 BK230.out
    obtain ⟨hfz47_0, hfz47_1⟩ := fz2 BK230.out
    go_wp2
    refine bodyPost_ret (results_ct rfl _ _ gb230 49 #[.int .i64 0, .int .i64 0] (0, 0) _ rfl (by refine kq ?_; refine blk_put (cs := #[.int .i64 0, .int .i64 x231001_1]) ?_ 1 _ rfl; refine kq ?_; refine blk_put (cs := #[.int .i64 x231000_1, .int .i64 x231001_1]) ?_ 0 _ rfl; refine kq ?_; exact BK230.out) Try.underlying49 rfl (by kernel_rfl)) rfl ?_
    exact ⟨gz, (bz2 HB.out GE229.out GE230.out)⟩
def impl_LookUp.f (k : Nat) (l0_0 : List (S97)) (l0_1 : List (S100)) (l0_2 : List (S102)) (l0_3 : List (S49)) (a1 : Int) (a2_0 : Int) (a2_1 : Int) : Option (Int × Int × Bool) := (impl_HeapOk.f k l0_0 l0_1 l0_2 l0_3).bind fun t238 => (if t238 = true then ((impl_in.f a1 (-1) (wrap64 ((l0_0.length : Int) - 1))).bind fun t239 => (if t239 = true then ((impl_Heap_lookUp.f k l0_0 l0_1 l0_2 l0_3 a1 a2_0 a2_1).bind fun bt240 => (some (bt240.1, bt240.2.1, bt240.2.2))) else (some (0, 0, false)))) else (some (0, 0, false)))
theorem impl_LookUp.mono : ∀ a0 a1 a2 a3 a4 a5 a6 k, LeO (impl_LookUp.f k a0 a1 a2 a3 a4 a5 a6) (impl_LookUp.f (k + 1) a0 a1 a2 a3 a4 a5 a6) := by
 intro a0 a1 a2 a3 a4 a5 a6 k
 unfold impl_LookUp.f
 with_reducible repeat' first | exact impl_HeapOk.mono _ _ _ _ _ | exact impl_Heap_lookUp.mono _ _ _ _ _ _ _ _ | exact lrz _ | exact lnz _ | refine liz ?_ ?_ | refine lbz ?_ fun _ => ?_
set_option maxHeartbeats 8000000 in
set_option maxRecDepth 100000 in
theorem impl_LookUp.calls (k : Nat) (A0_0 : Option Addr) (c0_0 : Nat) (l0_0 : List (S97)) (A0_1 : Option Addr) (c0_1 : Nat) (l0_1 : List (S100)) (A0_2 : Option Addr) (c0_2 : Nat) (l0_2 : List (S102)) (A0_3 : Option Addr) (c0_3 : Nat) (l0_3 : List (S49)) (a1 : Int) (a2_0 : Int) (a2_1 : Int) (r1 : Int) (r2 : Int) (r3 : Bool) (w : World) (hr0_0 : Kd.C k97 w A0_0 l0_0.length l0_0) (hc0_0 : l0_0.length <= c0_0) (hr0_1 : Kd.C k100 w A0_1 l0_1.length l0_1) (hc0_1 : l0_1.length <= c0_1) (hr0_2 : Kd.C k102 w A0_2 l0_2.length l0_2) (hc0_2 : l0_2.length <= c0_2) (hr0_3 : Kd.C k49 w A0_3 l0_3.length l0_3) (hc0_3 : l0_3.length <= c0_3) (h : impl_LookUp.f k l0_0 l0_1 l0_2 l0_3 a1 a2_0 a2_1 = some (r1, r2, r3)) :
  Calls Try.prog 22 #[.agg #[.slice A0_0 l0_0.length c0_0, .slice A0_1 l0_1.length c0_1, .slice A0_2 l0_2.length c0_2, .slice A0_3 l0_3.length c0_3], .int .i64 a1, .agg #[.int .i64 a2_0, .int .i64 a2_1]] w fun e w' => e = .returned (.tuple #[.agg #[.int .i64 r1, .int .i64 r2], .bool r3]) /\ Below w.heap.size w w' := by
 have hu57 := Try.underlying57
 have hu59 := Try.underlying59
 have hu49 := Try.underlying49
 have HR0_0 := Aside0.mk hr0_0
 have HC0_0 := Aside0.mk hc0_0
 clear hr0_0 hc0_0
 have HR0_1 := Aside0.mk hr0_1
 have HC0_1 := Aside0.mk hc0_1
 clear hr0_1 hc0_1
 have HR0_2 := Aside0.mk hr0_2
 have HC0_2 := Aside0.mk hc0_2
 clear hr0_2 hc0_2
 have HR0_3 := Aside0.mk hr0_3
 have HC0_3 := Aside0.mk hc0_3
 clear hr0_3 hc0_3
 have HB := Aside0.mk (Below.refl w.heap.size w)
 have H : ((impl_HeapOk.f k l0_0 l0_1 l0_2 l0_3).bind fun t238 => (if t238 = true then ((impl_in.f a1 (-1) (wrap64 ((l0_0.length : Int) - 1))).bind fun t239 => (if t239 = true then ((impl_Heap_lookUp.f k l0_0 l0_1 l0_2 l0_3 a1 a2_0 a2_1).bind fun bt240 => (some (bt240.1, bt240.2.1, bt240.2.2))) else (some (0, 0, false)))) else (some (0, 0, false)))) = some (r1, r2, r3) := h
 clear h
 replace H := bi H
 obtain ⟨t238, A40, H⟩ := H
 try dsimp only at H
 have A4 := Aside0.mk A40
 clear A40
 by_cases c5 : t238 = true
 ·subst c5
  have H1 := hp H
  clear H
  have H := H1
  clear H1
  replace H := bi H
  obtain ⟨t239, A60, H⟩ := H
  try dsimp only at H
  have A6 := Aside0.mk A60
  clear A60
  by_cases c7 : t239 = true
  ·subst c7
   have H1 := hp H
   clear H
   have H := H1
   clear H1
   replace H := bi H
   obtain ⟨⟨t240, t241, t242⟩, A80, H⟩ := H
   try dsimp only at H
   have A8 := Aside0.mk A80
   clear A80
   simp only [Option.some.injEq, Prod.mk.injEq] at H
   obtain ⟨rfl, rfl, rfl⟩ := H
   go_enter Try.func22, Try.ntmps22
   go_wp2_with (first | ((with_reducible refine gate_dst (N := 3) rfl ?_); (try (refine gate_guard (by rfl) ?_; dsimp only)); refine box_event ?hg (N := 3) ?hd (cs := #[.slice A0_0 l0_0.length c0_0, .slice A0_1 l0_1.length c0_1, .slice A0_2 l0_2.length c0_2, .slice A0_3 l0_3.length c0_3]) (t := 57) ?hr ?_; (case hd => rfl); (case hg => rfl); (case hr => exact vz); intro gb235 hg w9 hbox hb; have BK235 := Aside0.mk (hbox); have GW235 := Aside0.mk ((by rw [hg]; exact (below_size (bz0 HB.out)) : w.heap.size <= gb235)); have GE235 := Aside0.mk ((by rw [hg]; exact (below_size (bz0 HB.out)) : w.heap.size <= gb235)); replace HB := Aside0.mk (below_step (bz0 HB.out) hb); clear hb hbox hg) | ((with_reducible refine gate_dst (N := 5) rfl ?_); (try (refine gate_guard (by rfl) ?_; dsimp only)); refine box_event ?hg (N := 5) ?hd (cs := #[.int .i64 a2_0, .int .i64 a2_1]) (t := 59) ?hr ?_; (case hd => rfl); (case hg => rfl); (case hr => exact vz); intro gb236 hg w10 hbox hb; have BK236 := Aside0.mk (hbox); have GW236 := Aside0.mk ((by rw [hg]; exact (below_size (bz1 HB.out GE235.out)) : w.heap.size <= gb236)); have GE236 := Aside0.mk ((by rw [hg]; exact (below_size (bz1 HB.out GE235.out)) : w.heap.size <= gb236)); replace HB := Aside0.mk (below_step (bz1 HB.out GE235.out) hb); have NB235_236 := Aside0.mk ((by rw [hg]; exact Nat.ne_of_lt (blk_lt (g := gb235) (o := .cells #[.slice A0_0 l0_0.length c0_0, .slice A0_1 l0_1.length c0_1, .slice A0_2 l0_2.length c0_2, .slice A0_3 l0_3.length c0_3] 57 (0, 0)) (kz BK235.out)) : gb235 ≠ gb236)); have NB236_235 := Aside0.mk ((by rw [hg]; exact Nat.ne_of_gt (blk_lt (g := gb235) (o := .cells #[.slice A0_0 l0_0.length c0_0, .slice A0_1 l0_1.length c0_1, .slice A0_2 l0_2.length c0_2, .slice A0_3 l0_3.length c0_3] 57 (0, 0)) (kz BK235.out)) : gb236 ≠ gb235)); replace BK235 := Aside0.mk (blk_below (kz BK235.out) hb); clear hb hbox hg) | ((with_reducible refine gate_dst (N := 6) rfl ?_); (try (refine gate_guard (by rfl) ?_; dsimp only)); refine box_event ?hg (N := 6) ?hd (cs := #[.int .i64 0, .int .i64 0]) (t := 49) ?hr ?_; (case hd => rfl); (case hg => rfl); (case hr => exact vz); intro gb237 hg w11 hbox hb; have BK237 := Aside0.mk (hbox); have GW237 := Aside0.mk ((by rw [hg]; exact (below_size (bz2 HB.out GE235.out GE236.out)) : w.heap.size <= gb237)); have GE237 := Aside0.mk ((by rw [hg]; exact (below_size (bz2 HB.out GE235.out GE236.out)) : w.heap.size <= gb237)); replace HB := Aside0.mk (below_step (bz2 HB.out GE235.out GE236.out) hb); have NB235_237 := Aside0.mk ((by rw [hg]; exact Nat.ne_of_lt (blk_lt (g := gb235) (o := .cells #[.slice A0_0 l0_0.length c0_0, .slice A0_1 l0_1.length c0_1, .slice A0_2 l0_2.length c0_2, .slice A0_3 l0_3.length c0_3] 57 (0, 0)) (kz BK235.out)) : gb235 ≠ gb237)); have NB237_235 := Aside0.mk ((by rw [hg]; exact Nat.ne_of_gt (blk_lt (g := gb235) (o := .cells #[.slice A0_0 l0_0.length c0_0, .slice A0_1 l0_1.length c0_1, .slice A0_2 l0_2.length c0_2, .slice A0_3 l0_3.length c0_3] 57 (0, 0)) (kz BK235.out)) : gb237 ≠ gb235)); replace BK235 := Aside0.mk (blk_below (kz BK235.out) hb); have NB236_237 := Aside0.mk ((by rw [hg]; exact Nat.ne_of_lt (blk_lt (g := gb236) (o := .cells #[.int .i64 a2_0, .int .i64 a2_1] 59 (0, 0)) (kz BK236.out)) : gb236 ≠ gb237)); have NB237_236 := Aside0.mk ((by rw [hg]; exact Nat.ne_of_gt (blk_lt (g := gb236) (o := .cells #[.int .i64 a2_0, .int .i64 a2_1] 59 (0, 0)) (kz BK236.out)) : gb237 ≠ gb236)); replace BK236 := Aside0.mk (blk_below (kz BK236.out) hb); clear hb hbox hg; have hnb12 := NB235_236.out; have hnc12 := NB236_235.out; have hnb13 := NB235_237.out; have hnc13 := NB237_235.out; obtain ⟨hcz14_0, hcz14_1, hcz14_2, hcz14_3⟩ := cz4 BK235.out; obtain ⟨hfz14_0, hfz14_1, hfz14_2, hfz14_3⟩ := fz4 BK235.out) | ((with_reducible refine gate_callee (f := 43) rfl ?_); refine goesL_ (some 9) rfl rfl Try.func43 (by kernel_rfl) rfl #[.agg #[.slice A0_0 l0_0.length c0_0, .slice A0_1 l0_1.length c0_1, .slice A0_2 l0_2.length c0_2, .slice A0_3 l0_3.length c0_3]] rfl lz ?_; (with_reducible refine (impl_HeapOk.calls k _ _ l0_0 _ _ l0_1 _ _ l0_2 _ _ l0_3 true _ ?side1 ?side2 ?side3 ?side4 ?side5 ?side6 ?side7 ?side8 A4.out).mono ?_); (case side1 => exact cz (Kd.C_below HR0_0.out HB.out)); (case side2 => exact HC0_0.out); (case side3 => exact cz (Kd.C_below HR0_1.out HB.out)); (case side4 => exact HC0_1.out); (case side5 => exact cz (Kd.C_below HR0_2.out HB.out)); (case side6 => exact HC0_2.out); (case side7 => exact cz (Kd.C_below HR0_3.out HB.out)); (case side8 => exact HC0_3.out); rintro e w15 ⟨rfl, hb⟩; refine ⟨_, rfl, ?_⟩; replace BK235 := Aside0.mk (blk_below (kz BK235.out) hb); replace BK236 := Aside0.mk (blk_below (kz BK236.out) hb); replace BK237 := Aside0.mk (blk_below (kz BK237.out) hb); replace HB := Aside0.mk (below_step (bz3 HB.out GE235.out GE236.out GE237.out) hb); (try clear hb); obtain ⟨hcz16_0, hcz16_1, hcz16_2, hcz16_3⟩ := cz4 BK235.out; obtain ⟨hfz16_0, hfz16_1, hfz16_2, hfz16_3⟩ := fz4 BK235.out) | (go_at_call 44; (with_reducible refine (impl_in.calls a1 (-1) (wrap64 ((l0_0.length : Int) - 1)) true _ A6.out).mono ?_); rintro e w' ⟨rfl, ⟨nd, rfl⟩⟩; have hnb17 := NB236_237.out; have hnc17 := NB237_236.out; obtain ⟨hcz18_0, hcz18_1⟩ := cz2 BK236.out; obtain ⟨hfz18_0, hfz18_1⟩ := fz2 BK236.out) | ((with_reducible refine gate_callee (f := 45) rfl ?_); refine goesL_ (some 23) rfl rfl Try.func45 (by kernel_rfl) rfl #[.pointer (some ⟨gb235, 0, none⟩), .int .i64 a1, .agg #[.int .i64 a2_0, .int .i64 a2_1]] rfl lz ?_; (with_reducible refine (impl_Heap_lookUp.calls k A0_0 c0_0 l0_0 A0_1 c0_1 l0_1 A0_2 c0_2 l0_2 A0_3 c0_3 l0_3 a1 a2_0 a2_1 t240 t241 t242 _ ?side1 ?side2 ?side3 ?side4 ?side5 ?side6 ?side7 ?side8 gb235 ?capside A8.out).mono ?_); (case capside => refine kq ?_; exact BK235.out); (case side1 => exact cz (Kd.C_below HR0_0.out HB.out)); (case side2 => exact HC0_0.out); (case side3 => exact cz (Kd.C_below HR0_1.out HB.out)); (case side4 => exact HC0_1.out); (case side5 => exact cz (Kd.C_below HR0_2.out HB.out)); (case side6 => exact HC0_2.out); (case side7 => exact cz (Kd.C_below HR0_3.out HB.out)); (case side8 => exact HC0_3.out); rintro e w19 ⟨rfl, hb⟩; refine ⟨_, rfl, ?_⟩; replace BK235 := Aside0.mk (blk_below (kz BK235.out) hb); replace BK236 := Aside0.mk (blk_below (kz BK236.out) hb); replace BK237 := Aside0.mk (blk_below (kz BK237.out) hb); replace HB := Aside0.mk (below_step (bz3 HB.out GE235.out GE236.out GE237.out) hb); (try clear hb); obtain ⟨hcz20_0, hcz20_1⟩ := cz2 BK237.out; obtain ⟨hfz20_0, hfz20_1⟩ := fz2 BK237.out))
   refine bodyPost_ret (results_ct rfl _ _ gb237 49 #[.int .i64 t240, .int .i64 t241] (0, 0) _ rfl (by refine kq ?_; refine blk_put (cs := #[.int .i64 t240, .int .i64 0]) ?_ 1 _ rfl; refine kq ?_; refine blk_put (cs := #[.int .i64 0, .int .i64 0]) ?_ 0 _ rfl; refine kq ?_; exact BK237.out) Try.underlying49 rfl (by kernel_rfl)) rfl ?_
   exact ⟨gz, (bz3 HB.out GE235.out GE236.out GE237.out)⟩
  ·replace c7 := Bool.eq_false_iff.mpr c7
   subst c7
   have H1 := hq H
   clear H
   have H := H1
   clear H1
   simp only [Option.some.injEq, Prod.mk.injEq] at H
   obtain ⟨rfl, rfl, rfl⟩ := H
   go_enter Try.func22, Try.ntmps22
   go_wp2_with (first | ((with_reducible refine gate_dst (N := 3) rfl ?_); (try (refine gate_guard (by rfl) ?_; dsimp only)); refine box_event ?hg (N := 3) ?hd (cs := #[.slice A0_0 l0_0.length c0_0, .slice A0_1 l0_1.length c0_1, .slice A0_2 l0_2.length c0_2, .slice A0_3 l0_3.length c0_3]) (t := 57) ?hr ?_; (case hd => rfl); (case hg => rfl); (case hr => exact vz); intro gb235 hg w21 hbox hb; have BK235 := Aside0.mk (hbox); have GW235 := Aside0.mk ((by rw [hg]; exact (below_size (bz0 HB.out)) : w.heap.size <= gb235)); have GE235 := Aside0.mk ((by rw [hg]; exact (below_size (bz0 HB.out)) : w.heap.size <= gb235)); replace HB := Aside0.mk (below_step (bz0 HB.out) hb); clear hb hbox hg) | ((with_reducible refine gate_dst (N := 5) rfl ?_); (try (refine gate_guard (by rfl) ?_; dsimp only)); refine box_event ?hg (N := 5) ?hd (cs := #[.int .i64 a2_0, .int .i64 a2_1]) (t := 59) ?hr ?_; (case hd => rfl); (case hg => rfl); (case hr => exact vz); intro gb236 hg w22 hbox hb; have BK236 := Aside0.mk (hbox); have GW236 := Aside0.mk ((by rw [hg]; exact (below_size (bz1 HB.out GE235.out)) : w.heap.size <= gb236)); have GE236 := Aside0.mk ((by rw [hg]; exact (below_size (bz1 HB.out GE235.out)) : w.heap.size <= gb236)); replace HB := Aside0.mk (below_step (bz1 HB.out GE235.out) hb); have NB235_236 := Aside0.mk ((by rw [hg]; exact Nat.ne_of_lt (blk_lt (g := gb235) (o := .cells #[.slice A0_0 l0_0.length c0_0, .slice A0_1 l0_1.length c0_1, .slice A0_2 l0_2.length c0_2, .slice A0_3 l0_3.length c0_3] 57 (0, 0)) (kz BK235.out)) : gb235 ≠ gb236)); have NB236_235 := Aside0.mk ((by rw [hg]; exact Nat.ne_of_gt (blk_lt (g := gb235) (o := .cells #[.slice A0_0 l0_0.length c0_0, .slice A0_1 l0_1.length c0_1, .slice A0_2 l0_2.length c0_2, .slice A0_3 l0_3.length c0_3] 57 (0, 0)) (kz BK235.out)) : gb236 ≠ gb235)); replace BK235 := Aside0.mk (blk_below (kz BK235.out) hb); clear hb hbox hg) | ((with_reducible refine gate_dst (N := 6) rfl ?_); (try (refine gate_guard (by rfl) ?_; dsimp only)); refine box_event ?hg (N := 6) ?hd (cs := #[.int .i64 0, .int .i64 0]) (t := 49) ?hr ?_; (case hd => rfl); (case hg => rfl); (case hr => exact vz); intro gb237 hg w23 hbox hb; have BK237 := Aside0.mk (hbox); have GW237 := Aside0.mk ((by rw [hg]; exact (below_size (bz2 HB.out GE235.out GE236.out)) : w.heap.size <= gb237)); have GE237 := Aside0.mk ((by rw [hg]; exact (below_size (bz2 HB.out GE235.out GE236.out)) : w.heap.size <= gb237)); replace HB := Aside0.mk (below_step (bz2 HB.out GE235.out GE236.out) hb); have NB235_237 := Aside0.mk ((by rw [hg]; exact Nat.ne_of_lt (blk_lt (g := gb235) (o := .cells #[.slice A0_0 l0_0.length c0_0, .slice A0_1 l0_1.length c0_1, .slice A0_2 l0_2.length c0_2, .slice A0_3 l0_3.length c0_3] 57 (0, 0)) (kz BK235.out)) : gb235 ≠ gb237)); have NB237_235 := Aside0.mk ((by rw [hg]; exact Nat.ne_of_gt (blk_lt (g := gb235) (o := .cells #[.slice A0_0 l0_0.length c0_0, .slice A0_1 l0_1.length c0_1, .slice A0_2 l0_2.length c0_2, .slice A0_3 l0_3.length c0_3] 57 (0, 0)) (kz BK235.out)) : gb237 ≠ gb235)); replace BK235 := Aside0.mk (blk_below (kz BK235.out) hb); have NB236_237 := Aside0.mk ((by rw [hg]; exact Nat.ne_of_lt (blk_lt (g := gb236) (o := .cells #[.int .i64 a2_0, .int .i64 a2_1] 59 (0, 0)) (kz BK236.out)) : gb236 ≠ gb237)); have NB237_236 := Aside0.mk ((by rw [hg]; exact Nat.ne_of_gt (blk_lt (g := gb236) (o := .cells #[.int .i64 a2_0, .int .i64 a2_1] 59 (0, 0)) (kz BK236.out)) : gb237 ≠ gb236)); replace BK236 := Aside0.mk (blk_below (kz BK236.out) hb); clear hb hbox hg; have hnb24 := NB235_236.out; have hnc24 := NB236_235.out; have hnb25 := NB235_237.out; have hnc25 := NB237_235.out; obtain ⟨hcz26_0, hcz26_1, hcz26_2, hcz26_3⟩ := cz4 BK235.out; obtain ⟨hfz26_0, hfz26_1, hfz26_2, hfz26_3⟩ := fz4 BK235.out) | ((with_reducible refine gate_callee (f := 43) rfl ?_); refine goesL_ (some 9) rfl rfl Try.func43 (by kernel_rfl) rfl #[.agg #[.slice A0_0 l0_0.length c0_0, .slice A0_1 l0_1.length c0_1, .slice A0_2 l0_2.length c0_2, .slice A0_3 l0_3.length c0_3]] rfl lz ?_; (with_reducible refine (impl_HeapOk.calls k _ _ l0_0 _ _ l0_1 _ _ l0_2 _ _ l0_3 true _ ?side1 ?side2 ?side3 ?side4 ?side5 ?side6 ?side7 ?side8 A4.out).mono ?_); (case side1 => exact cz (Kd.C_below HR0_0.out HB.out)); (case side2 => exact HC0_0.out); (case side3 => exact cz (Kd.C_below HR0_1.out HB.out)); (case side4 => exact HC0_1.out); (case side5 => exact cz (Kd.C_below HR0_2.out HB.out)); (case side6 => exact HC0_2.out); (case side7 => exact cz (Kd.C_below HR0_3.out HB.out)); (case side8 => exact HC0_3.out); rintro e w27 ⟨rfl, hb⟩; refine ⟨_, rfl, ?_⟩; replace BK235 := Aside0.mk (blk_below (kz BK235.out) hb); replace BK236 := Aside0.mk (blk_below (kz BK236.out) hb); replace BK237 := Aside0.mk (blk_below (kz BK237.out) hb); replace HB := Aside0.mk (below_step (bz3 HB.out GE235.out GE236.out GE237.out) hb); (try clear hb); obtain ⟨hcz28_0, hcz28_1, hcz28_2, hcz28_3⟩ := cz4 BK235.out; obtain ⟨hfz28_0, hfz28_1, hfz28_2, hfz28_3⟩ := fz4 BK235.out) | (go_at_call 44; (with_reducible refine (impl_in.calls a1 (-1) (wrap64 ((l0_0.length : Int) - 1)) false _ A6.out).mono ?_); rintro e w' ⟨rfl, ⟨nd, rfl⟩⟩; have hnb29 := NB237_236.out; have hnc29 := NB236_237.out; obtain ⟨hcz30_0, hcz30_1⟩ := cz2 BK237.out; obtain ⟨hfz30_0, hfz30_1⟩ := fz2 BK237.out))
   refine bodyPost_ret (results_ct rfl _ _ gb237 49 #[.int .i64 0, .int .i64 0] (0, 0) _ rfl (by refine kq ?_; refine blk_put (cs := #[.int .i64 0, .int .i64 0]) ?_ 1 _ rfl; refine kq ?_; refine blk_put (cs := #[.int .i64 0, .int .i64 0]) ?_ 0 _ rfl; refine kq ?_; exact BK237.out) Try.underlying49 rfl (by kernel_rfl)) rfl ?_
   exact ⟨gz, (bz3 HB.out GE235.out GE236.out GE237.out)⟩
 ·replace c5 := Bool.eq_false_iff.mpr c5
  subst c5
  have H1 := hq H
  clear H
  have H := H1
  clear H1
  simp only [Option.some.injEq, Prod.mk.injEq] at H
  obtain ⟨rfl, rfl, rfl⟩ := H
  go_enter Try.func22, Try.ntmps22
  go_wp2_with (first | ((with_reducible refine gate_dst (N := 3) rfl ?_); (try (refine gate_guard (by rfl) ?_; dsimp only)); refine box_event ?hg (N := 3) ?hd (cs := #[.slice A0_0 l0_0.length c0_0, .slice A0_1 l0_1.length c0_1, .slice A0_2 l0_2.length c0_2, .slice A0_3 l0_3.length c0_3]) (t := 57) ?hr ?_; (case hd => rfl); (case hg => rfl); (case hr => exact vz); intro gb235 hg w31 hbox hb; have BK235 := Aside0.mk (hbox); have GW235 := Aside0.mk ((by rw [hg]; exact (below_size (bz0 HB.out)) : w.heap.size <= gb235)); have GE235 := Aside0.mk ((by rw [hg]; exact (below_size (bz0 HB.out)) : w.heap.size <= gb235)); replace HB := Aside0.mk (below_step (bz0 HB.out) hb); clear hb hbox hg) | ((with_reducible refine gate_dst (N := 5) rfl ?_); (try (refine gate_guard (by rfl) ?_; dsimp only)); refine box_event ?hg (N := 5) ?hd (cs := #[.int .i64 a2_0, .int .i64 a2_1]) (t := 59) ?hr ?_; (case hd => rfl); (case hg => rfl); (case hr => exact vz); intro gb236 hg w32 hbox hb; have BK236 := Aside0.mk (hbox); have GW236 := Aside0.mk ((by rw [hg]; exact (below_size (bz1 HB.out GE235.out)) : w.heap.size <= gb236)); have GE236 := Aside0.mk ((by rw [hg]; exact (below_size (bz1 HB.out GE235.out)) : w.heap.size <= gb236)); replace HB := Aside0.mk (below_step (bz1 HB.out GE235.out) hb); have NB235_236 := Aside0.mk ((by rw [hg]; exact Nat.ne_of_lt (blk_lt (g := gb235) (o := .cells #[.slice A0_0 l0_0.length c0_0, .slice A0_1 l0_1.length c0_1, .slice A0_2 l0_2.length c0_2, .slice A0_3 l0_3.length c0_3] 57 (0, 0)) (kz BK235.out)) : gb235 ≠ gb236)); have NB236_235 := Aside0.mk ((by rw [hg]; exact Nat.ne_of_gt (blk_lt (g := gb235) (o := .cells #[.slice A0_0 l0_0.length c0_0, .slice A0_1 l0_1.length c0_1, .slice A0_2 l0_2.length c0_2, .slice A0_3 l0_3.length c0_3] 57 (0, 0)) (kz BK235.out)) : gb236 ≠ gb235)); replace BK235 := Aside0.mk (blk_below (kz BK235.out) hb); clear hb hbox hg) | ((with_reducible refine gate_dst (N := 6) rfl ?_); (try (refine gate_guard (by rfl) ?_; dsimp only)); refine box_event ?hg (N := 6) ?hd (cs := #[.int .i64 0, .int .i64 0]) (t := 49) ?hr ?_; (case hd => rfl); (case hg => rfl); (case hr => exact vz); intro gb237 hg w33 hbox hb; have BK237 := Aside0.mk (hbox); have GW237 := Aside0.mk ((by rw [hg]; exact (below_size (bz2 HB.out GE235.out GE236.out)) : w.heap.size <= gb237)); have GE237 := Aside0.mk ((by rw [hg]; exact (below_size (bz2 HB.out GE235.out GE236.out)) : w.heap.size <= gb237)); replace HB := Aside0.mk (below_step (bz2 HB.out GE235.out GE236.out) hb); have NB235_237 := Aside0.mk ((by rw [hg]; exact Nat.ne_of_lt (blk_lt (g := gb235) (o := .cells #[.slice A0_0 l0_0.length c0_0, .slice A0_1 l0_1.length c0_1, .slice A0_2 l0_2.length c0_2, .slice A0_3 l0_3.length c0_3] 57 (0, 0)) (kz BK235.out)) : gb235 ≠ gb237)); have NB237_235 := Aside0.mk ((by rw [hg]; exact Nat.ne_of_gt (blk_lt (g := gb235) (o := .cells #[.slice A0_0 l0_0.length c0_0, .slice A0_1 l0_1.length c0_1, .slice A0_2 l0_2.length c0_2, .slice A0_3 l0_3.length c0_3] 57 (0, 0)) (kz BK235.out)) : gb237 ≠ gb235)); replace BK235 := Aside0.mk (blk_below (kz BK235.out) hb); have NB236_237 := Aside0.mk ((by rw [hg]; exact Nat.ne_of_lt (blk_lt (g := gb236) (o := .cells #[.int .i64 a2_0, .int .i64 a2_1] 59 (0, 0)) (kz BK236.out)) : gb236 ≠ gb237)); have NB237_236 := Aside0.mk ((by rw [hg]; exact Nat.ne_of_gt (blk_lt (g := gb236) (o := .cells #[.int .i64 a2_0, .int .i64 a2_1] 59 (0, 0)) (kz BK236.out)) : gb237 ≠ gb236)); replace BK236 := Aside0.mk (blk_below (kz BK236.out) hb); clear hb hbox hg; have hnb34 := NB235_236.out; have hnc34 := NB236_235.out; have hnb35 := NB235_237.out; have hnc35 := NB237_235.out; obtain ⟨hcz36_0, hcz36_1, hcz36_2, hcz36_3⟩ := cz4 BK235.out; obtain ⟨hfz36_0, hfz36_1, hfz36_2, hfz36_3⟩ := fz4 BK235.out) | ((with_reducible refine gate_callee (f := 43) rfl ?_); refine goesL_ (some 9) rfl rfl Try.func43 (by kernel_rfl) rfl #[.agg #[.slice A0_0 l0_0.length c0_0, .slice A0_1 l0_1.length c0_1, .slice A0_2 l0_2.length c0_2, .slice A0_3 l0_3.length c0_3]] rfl lz ?_; (with_reducible refine (impl_HeapOk.calls k _ _ l0_0 _ _ l0_1 _ _ l0_2 _ _ l0_3 false _ ?side1 ?side2 ?side3 ?side4 ?side5 ?side6 ?side7 ?side8 A4.out).mono ?_); (case side1 => exact cz (Kd.C_below HR0_0.out HB.out)); (case side2 => exact HC0_0.out); (case side3 => exact cz (Kd.C_below HR0_1.out HB.out)); (case side4 => exact HC0_1.out); (case side5 => exact cz (Kd.C_below HR0_2.out HB.out)); (case side6 => exact HC0_2.out); (case side7 => exact cz (Kd.C_below HR0_3.out HB.out)); (case side8 => exact HC0_3.out); rintro e w37 ⟨rfl, hb⟩; refine ⟨_, rfl, ?_⟩; replace BK235 := Aside0.mk (blk_below (kz BK235.out) hb); replace BK236 := Aside0.mk (blk_below (kz BK236.out) hb); replace BK237 := Aside0.mk (blk_below (kz BK237.out) hb); replace HB := Aside0.mk (below_step (bz3 HB.out GE235.out GE236.out GE237.out) hb); (try clear hb); have hnb38 := NB237_236.out; have hnc38 := NB236_237.out; obtain ⟨hcz39_0, hcz39_1⟩ := cz2 BK237.out; obtain ⟨hfz39_0, hfz39_1⟩ := fz2 BK237.out))
  refine bodyPost_ret (results_ct rfl _ _ gb237 49 #[.int .i64 0, .int .i64 0] (0, 0) _ rfl (by refine kq ?_; refine blk_put (cs := #[.int .i64 0, .int .i64 0]) ?_ 1 _ rfl; refine kq ?_; refine blk_put (cs := #[.int .i64 0, .int .i64 0]) ?_ 0 _ rfl; refine kq ?_; exact BK237.out) Try.underlying49 rfl (by kernel_rfl)) rfl ?_
  exact ⟨gz, (bz3 HB.out GE235.out GE236.out GE237.out)⟩
def laws_eqVal.f (a0_0 : Int) (a0_1 : Int) (a1_0 : Int) (a1_1 : Int) : Option (Bool) := if a0_0 = a1_0 then (if a0_1 = a1_1 then (some true) else (some false)) else (some false)
set_option maxHeartbeats 8000000 in
set_option maxRecDepth 100000 in
theorem laws_eqVal.calls (a0_0 : Int) (a0_1 : Int) (a1_0 : Int) (a1_1 : Int) (r : Bool) (w : World) (h : laws_eqVal.f a0_0 a0_1 a1_0 a1_1 = some r) :
  Calls Try.prog 23 #[.agg #[.int .i64 a0_0, .int .i64 a0_1], .agg #[.int .i64 a1_0, .int .i64 a1_1]] w fun e w' => e = .returned (.bool r) /\ Below w.heap.size w w' := by
 have hu49 := Try.underlying49
 have HB := Aside0.mk (Below.refl w.heap.size w)
 have H : (if a0_0 = a1_0 then (if a0_1 = a1_1 then (some true) else (some false)) else (some false)) = some r := h
 clear h
 by_cases c3 : a0_0 = a1_0
 ·rw [if_pos c3] at H
  have c3b0 : (a0_0 == a1_0) = true := beq_iff_eq.mpr c3
  have c3b1 : (a0_0 != a1_0) = false := bne_eq_false_iff_eq.mpr c3
  clear c3
  by_cases c4 : a0_1 = a1_1
  ·rw [if_pos c4] at H
   have c4b0 : (a0_1 == a1_1) = true := beq_iff_eq.mpr c4
   have c4b1 : (a0_1 != a1_1) = false := bne_eq_false_iff_eq.mpr c4
   clear c4
   obtain rfl := Option.some.inj H
   go_enter Try.func23, Try.ntmps23
   go_wp2_with (first | ((with_reducible refine gate_dst (N := 2) rfl ?_); refine box_event ?hg (N := 2) ?hd (cs := #[.int .i64 a0_0, .int .i64 a0_1]) (t := 49) ?hr ?_; (case hd => rfl); (case hg => rfl); (case hr => exact vz); intro gb243 hg w5 hbox hb; have BK243 := Aside0.mk (hbox); have GW243 := Aside0.mk ((by rw [hg]; exact (below_size (bz0 HB.out)) : w.heap.size <= gb243)); have GE243 := Aside0.mk ((by rw [hg]; exact (below_size (bz0 HB.out)) : w.heap.size <= gb243)); replace HB := Aside0.mk (below_step (bz0 HB.out) hb); clear hb hbox hg) | ((with_reducible refine gate_dst (N := 3) rfl ?_); refine box_event ?hg (N := 3) ?hd (cs := #[.int .i64 a1_0, .int .i64 a1_1]) (t := 49) ?hr ?_; (case hd => rfl); (case hg => rfl); (case hr => exact vz); intro gb244 hg w6 hbox hb; have BK244 := Aside0.mk (hbox); have GW244 := Aside0.mk ((by rw [hg]; exact (below_size (bz1 HB.out GE243.out)) : w.heap.size <= gb244)); have GE244 := Aside0.mk ((by rw [hg]; exact (below_size (bz1 HB.out GE243.out)) : w.heap.size <= gb244)); replace HB := Aside0.mk (below_step (bz1 HB.out GE243.out) hb); have NB243_244 := Aside0.mk ((by rw [hg]; exact Nat.ne_of_lt (blk_lt (g := gb243) (o := .cells #[.int .i64 a0_0, .int .i64 a0_1] 49 (0, 0)) (kz BK243.out)) : gb243 ≠ gb244)); have NB244_243 := Aside0.mk ((by rw [hg]; exact Nat.ne_of_gt (blk_lt (g := gb243) (o := .cells #[.int .i64 a0_0, .int .i64 a0_1] 49 (0, 0)) (kz BK243.out)) : gb244 ≠ gb243)); replace BK243 := Aside0.mk (blk_below (kz BK243.out) hb); clear hb hbox hg; have hnb7 := NB243_244.out; have hnc7 := NB244_243.out; obtain ⟨hcz8_0, hcz8_1⟩ := cz2 BK243.out; obtain ⟨hfz8_0, hfz8_1⟩ := fz2 BK243.out; obtain ⟨hcz9_0, hcz9_1⟩ := cz2 BK244.out; obtain ⟨hfz9_0, hfz9_1⟩ := fz2 BK244.out))
   go_ret
   exact ⟨gz, (bz2 HB.out GE243.out GE244.out)⟩
  ·rw [if_neg c4] at H
   have c4b0 : (a0_1 == a1_1) = false := beq_eq_false_iff_ne.mpr c4
   have c4b1 : (a0_1 != a1_1) = true := bne_iff_ne.mpr c4
   obtain rfl := Option.some.inj H
   go_enter Try.func23, Try.ntmps23
   go_wp2_with (first | ((with_reducible refine gate_dst (N := 2) rfl ?_); refine box_event ?hg (N := 2) ?hd (cs := #[.int .i64 a0_0, .int .i64 a0_1]) (t := 49) ?hr ?_; (case hd => rfl); (case hg => rfl); (case hr => exact vz); intro gb243 hg w10 hbox hb; have BK243 := Aside0.mk (hbox); have GW243 := Aside0.mk ((by rw [hg]; exact (below_size (bz0 HB.out)) : w.heap.size <= gb243)); have GE243 := Aside0.mk ((by rw [hg]; exact (below_size (bz0 HB.out)) : w.heap.size <= gb243)); replace HB := Aside0.mk (below_step (bz0 HB.out) hb); clear hb hbox hg) | ((with_reducible refine gate_dst (N := 3) rfl ?_); refine box_event ?hg (N := 3) ?hd (cs := #[.int .i64 a1_0, .int .i64 a1_1]) (t := 49) ?hr ?_; (case hd => rfl); (case hg => rfl); (case hr => exact vz); intro gb244 hg w11 hbox hb; have BK244 := Aside0.mk (hbox); have GW244 := Aside0.mk ((by rw [hg]; exact (below_size (bz1 HB.out GE243.out)) : w.heap.size <= gb244)); have GE244 := Aside0.mk ((by rw [hg]; exact (below_size (bz1 HB.out GE243.out)) : w.heap.size <= gb244)); replace HB := Aside0.mk (below_step (bz1 HB.out GE243.out) hb); have NB243_244 := Aside0.mk ((by rw [hg]; exact Nat.ne_of_lt (blk_lt (g := gb243) (o := .cells #[.int .i64 a0_0, .int .i64 a0_1] 49 (0, 0)) (kz BK243.out)) : gb243 ≠ gb244)); have NB244_243 := Aside0.mk ((by rw [hg]; exact Nat.ne_of_gt (blk_lt (g := gb243) (o := .cells #[.int .i64 a0_0, .int .i64 a0_1] 49 (0, 0)) (kz BK243.out)) : gb244 ≠ gb243)); replace BK243 := Aside0.mk (blk_below (kz BK243.out) hb); clear hb hbox hg; have hnb12 := NB243_244.out; have hnc12 := NB244_243.out; obtain ⟨hcz13_0, hcz13_1⟩ := cz2 BK243.out; obtain ⟨hfz13_0, hfz13_1⟩ := fz2 BK243.out; obtain ⟨hcz14_0, hcz14_1⟩ := cz2 BK244.out; obtain ⟨hfz14_0, hfz14_1⟩ := fz2 BK244.out))
   go_ret
   exact ⟨gz, (bz2 HB.out GE243.out GE244.out)⟩
 ·rw [if_neg c3] at H
  have c3b0 : (a0_0 == a1_0) = false := beq_eq_false_iff_ne.mpr c3
  have c3b1 : (a0_0 != a1_0) = true := bne_iff_ne.mpr c3
  obtain rfl := Option.some.inj H
  go_enter Try.func23, Try.ntmps23
  go_wp2_with (first | ((with_reducible refine gate_dst (N := 2) rfl ?_); refine box_event ?hg (N := 2) ?hd (cs := #[.int .i64 a0_0, .int .i64 a0_1]) (t := 49) ?hr ?_; (case hd => rfl); (case hg => rfl); (case hr => exact vz); intro gb243 hg w15 hbox hb; have BK243 := Aside0.mk (hbox); have GW243 := Aside0.mk ((by rw [hg]; exact (below_size (bz0 HB.out)) : w.heap.size <= gb243)); have GE243 := Aside0.mk ((by rw [hg]; exact (below_size (bz0 HB.out)) : w.heap.size <= gb243)); replace HB := Aside0.mk (below_step (bz0 HB.out) hb); clear hb hbox hg) | ((with_reducible refine gate_dst (N := 3) rfl ?_); refine box_event ?hg (N := 3) ?hd (cs := #[.int .i64 a1_0, .int .i64 a1_1]) (t := 49) ?hr ?_; (case hd => rfl); (case hg => rfl); (case hr => exact vz); intro gb244 hg w16 hbox hb; have BK244 := Aside0.mk (hbox); have GW244 := Aside0.mk ((by rw [hg]; exact (below_size (bz1 HB.out GE243.out)) : w.heap.size <= gb244)); have GE244 := Aside0.mk ((by rw [hg]; exact (below_size (bz1 HB.out GE243.out)) : w.heap.size <= gb244)); replace HB := Aside0.mk (below_step (bz1 HB.out GE243.out) hb); have NB243_244 := Aside0.mk ((by rw [hg]; exact Nat.ne_of_lt (blk_lt (g := gb243) (o := .cells #[.int .i64 a0_0, .int .i64 a0_1] 49 (0, 0)) (kz BK243.out)) : gb243 ≠ gb244)); have NB244_243 := Aside0.mk ((by rw [hg]; exact Nat.ne_of_gt (blk_lt (g := gb243) (o := .cells #[.int .i64 a0_0, .int .i64 a0_1] 49 (0, 0)) (kz BK243.out)) : gb244 ≠ gb243)); replace BK243 := Aside0.mk (blk_below (kz BK243.out) hb); clear hb hbox hg; have hnb17 := NB243_244.out; have hnc17 := NB244_243.out; obtain ⟨hcz18_0, hcz18_1⟩ := cz2 BK243.out; obtain ⟨hfz18_0, hfz18_1⟩ := fz2 BK243.out; obtain ⟨hcz19_0, hcz19_1⟩ := cz2 BK244.out; obtain ⟨hfz19_0, hfz19_1⟩ := fz2 BK244.out))
  go_ret
  exact ⟨gz, (bz2 HB.out GE243.out GE244.out)⟩
def laws_eqEnvCell.f (a0_0 : Int) (a0_1 : Int) (a0_2 : Int) (a0_3 : Int) (a0_4 : Int) (a1_0 : Int) (a1_1 : Int) (a1_2 : Int) (a1_3 : Int) (a1_4 : Int) : Option (Bool) := if a0_0 = a1_0 then (if a0_1 = a1_1 then ((laws_eqVal.f a0_2 a0_3 a1_2 a1_3).bind fun t247 => (if t247 = true then (if a0_4 = a1_4 then (some true) else (some false)) else (some false))) else (some false)) else (some false)
set_option maxHeartbeats 8000000 in
set_option maxRecDepth 100000 in
theorem laws_eqEnvCell.calls (a0_0 : Int) (a0_1 : Int) (a0_2 : Int) (a0_3 : Int) (a0_4 : Int) (a1_0 : Int) (a1_1 : Int) (a1_2 : Int) (a1_3 : Int) (a1_4 : Int) (r : Bool) (w : World) (h : laws_eqEnvCell.f a0_0 a0_1 a0_2 a0_3 a0_4 a1_0 a1_1 a1_2 a1_3 a1_4 = some r) :
  Calls Try.prog 57 #[.agg #[.int .i64 a0_0, .int .i64 a0_1, .int .i64 a0_2, .int .i64 a0_3, .int .i64 a0_4], .agg #[.int .i64 a1_0, .int .i64 a1_1, .int .i64 a1_2, .int .i64 a1_3, .int .i64 a1_4]] w fun e w' => e = .returned (.bool r) /\ Below w.heap.size w w' := by
 have hu97 := Try.underlying97
 have hu49 := Try.underlying49
 have HB := Aside0.mk (Below.refl w.heap.size w)
 have H : (if a0_0 = a1_0 then (if a0_1 = a1_1 then ((laws_eqVal.f a0_2 a0_3 a1_2 a1_3).bind fun t247 => (if t247 = true then (if a0_4 = a1_4 then (some true) else (some false)) else (some false))) else (some false)) else (some false)) = some r := h
 clear h
 by_cases c3 : a0_0 = a1_0
 ·rw [if_pos c3] at H
  have c3b0 : (a0_0 == a1_0) = true := beq_iff_eq.mpr c3
  have c3b1 : (a0_0 != a1_0) = false := bne_eq_false_iff_eq.mpr c3
  clear c3
  by_cases c4 : a0_1 = a1_1
  ·rw [if_pos c4] at H
   have c4b0 : (a0_1 == a1_1) = true := beq_iff_eq.mpr c4
   have c4b1 : (a0_1 != a1_1) = false := bne_eq_false_iff_eq.mpr c4
   clear c4
   replace H := bi H
   obtain ⟨t247, A50, H⟩ := H
   try dsimp only at H
   have A5 := Aside0.mk A50
   clear A50
   by_cases c6 : t247 = true
   ·subst c6
    have H1 := hp H
    clear H
    have H := H1
    clear H1
    by_cases c7 : a0_4 = a1_4
    ·rw [if_pos c7] at H
     have c7b0 : (a0_4 == a1_4) = true := beq_iff_eq.mpr c7
     have c7b1 : (a0_4 != a1_4) = false := bne_eq_false_iff_eq.mpr c7
     clear c7
     obtain rfl := Option.some.inj H
     go_enter Try.func57, Try.ntmps57
     go_wp2_with (first | ((with_reducible refine gate_dst (N := 2) rfl ?_); refine box_event ?hg (N := 2) ?hd (cs := #[.int .i64 a0_0, .int .i64 a0_1, .int .i64 a0_2, .int .i64 a0_3, .int .i64 a0_4]) (t := 97) ?hr ?_; (case hd => rfl); (case hg => rfl); (case hr => exact vz); intro gb245 hg w8 hbox hb; have BK245 := Aside0.mk (hbox); have GW245 := Aside0.mk ((by rw [hg]; exact (below_size (bz0 HB.out)) : w.heap.size <= gb245)); have GE245 := Aside0.mk ((by rw [hg]; exact (below_size (bz0 HB.out)) : w.heap.size <= gb245)); replace HB := Aside0.mk (below_step (bz0 HB.out) hb); clear hb hbox hg) | ((with_reducible refine gate_dst (N := 3) rfl ?_); refine box_event ?hg (N := 3) ?hd (cs := #[.int .i64 a1_0, .int .i64 a1_1, .int .i64 a1_2, .int .i64 a1_3, .int .i64 a1_4]) (t := 97) ?hr ?_; (case hd => rfl); (case hg => rfl); (case hr => exact vz); intro gb246 hg w9 hbox hb; have BK246 := Aside0.mk (hbox); have GW246 := Aside0.mk ((by rw [hg]; exact (below_size (bz1 HB.out GE245.out)) : w.heap.size <= gb246)); have GE246 := Aside0.mk ((by rw [hg]; exact (below_size (bz1 HB.out GE245.out)) : w.heap.size <= gb246)); replace HB := Aside0.mk (below_step (bz1 HB.out GE245.out) hb); have NB245_246 := Aside0.mk ((by rw [hg]; exact Nat.ne_of_lt (blk_lt (g := gb245) (o := .cells #[.int .i64 a0_0, .int .i64 a0_1, .int .i64 a0_2, .int .i64 a0_3, .int .i64 a0_4] 97 (0, 0)) (kz BK245.out)) : gb245 ≠ gb246)); have NB246_245 := Aside0.mk ((by rw [hg]; exact Nat.ne_of_gt (blk_lt (g := gb245) (o := .cells #[.int .i64 a0_0, .int .i64 a0_1, .int .i64 a0_2, .int .i64 a0_3, .int .i64 a0_4] 97 (0, 0)) (kz BK245.out)) : gb246 ≠ gb245)); replace BK245 := Aside0.mk (blk_below (kz BK245.out) hb); clear hb hbox hg; have hnb10 := NB245_246.out; have hnc10 := NB246_245.out; obtain ⟨hcz11_0, hcz11_1, hcz11_2, hcz11_3, hcz11_4⟩ := cz5 BK245.out; obtain ⟨hfz11_0, hfz11_1, hfz11_2, hfz11_3, hfz11_4⟩ := fz5 BK245.out; obtain ⟨hcz12_0, hcz12_1, hcz12_2, hcz12_3, hcz12_4⟩ := cz5 BK246.out; obtain ⟨hfz12_0, hfz12_1, hfz12_2, hfz12_3, hfz12_4⟩ := fz5 BK246.out) | ((with_reducible refine gate_callee (f := 23) rfl ?_); refine goesL_ (some 19) rfl rfl Try.func23 (by kernel_rfl) rfl #[.agg #[.int .i64 a0_2, .int .i64 a0_3], .agg #[.int .i64 a1_2, .int .i64 a1_3]] rfl lz ?_; (with_reducible refine (laws_eqVal.calls a0_2 a0_3 a1_2 a1_3 true _ A5.out).mono ?_); rintro e w13 ⟨rfl, hb⟩; refine ⟨_, rfl, ?_⟩; replace BK245 := Aside0.mk (blk_below (kz BK245.out) hb); replace BK246 := Aside0.mk (blk_below (kz BK246.out) hb); replace HB := Aside0.mk (below_step (bz2 HB.out GE245.out GE246.out) hb); (try clear hb); obtain ⟨hcz14_0, hcz14_1, hcz14_2, hcz14_3, hcz14_4⟩ := cz5 BK245.out; obtain ⟨hfz14_0, hfz14_1, hfz14_2, hfz14_3, hfz14_4⟩ := fz5 BK245.out; obtain ⟨hcz15_0, hcz15_1, hcz15_2, hcz15_3, hcz15_4⟩ := cz5 BK246.out; obtain ⟨hfz15_0, hfz15_1, hfz15_2, hfz15_3, hfz15_4⟩ := fz5 BK246.out))
     go_ret
     exact ⟨gz, (bz2 HB.out GE245.out GE246.out)⟩
    ·rw [if_neg c7] at H
     have c7b0 : (a0_4 == a1_4) = false := beq_eq_false_iff_ne.mpr c7
     have c7b1 : (a0_4 != a1_4) = true := bne_iff_ne.mpr c7
     obtain rfl := Option.some.inj H
     go_enter Try.func57, Try.ntmps57
     go_wp2_with (first | ((with_reducible refine gate_dst (N := 2) rfl ?_); refine box_event ?hg (N := 2) ?hd (cs := #[.int .i64 a0_0, .int .i64 a0_1, .int .i64 a0_2, .int .i64 a0_3, .int .i64 a0_4]) (t := 97) ?hr ?_; (case hd => rfl); (case hg => rfl); (case hr => exact vz); intro gb245 hg w16 hbox hb; have BK245 := Aside0.mk (hbox); have GW245 := Aside0.mk ((by rw [hg]; exact (below_size (bz0 HB.out)) : w.heap.size <= gb245)); have GE245 := Aside0.mk ((by rw [hg]; exact (below_size (bz0 HB.out)) : w.heap.size <= gb245)); replace HB := Aside0.mk (below_step (bz0 HB.out) hb); clear hb hbox hg) | ((with_reducible refine gate_dst (N := 3) rfl ?_); refine box_event ?hg (N := 3) ?hd (cs := #[.int .i64 a1_0, .int .i64 a1_1, .int .i64 a1_2, .int .i64 a1_3, .int .i64 a1_4]) (t := 97) ?hr ?_; (case hd => rfl); (case hg => rfl); (case hr => exact vz); intro gb246 hg w17 hbox hb; have BK246 := Aside0.mk (hbox); have GW246 := Aside0.mk ((by rw [hg]; exact (below_size (bz1 HB.out GE245.out)) : w.heap.size <= gb246)); have GE246 := Aside0.mk ((by rw [hg]; exact (below_size (bz1 HB.out GE245.out)) : w.heap.size <= gb246)); replace HB := Aside0.mk (below_step (bz1 HB.out GE245.out) hb); have NB245_246 := Aside0.mk ((by rw [hg]; exact Nat.ne_of_lt (blk_lt (g := gb245) (o := .cells #[.int .i64 a0_0, .int .i64 a0_1, .int .i64 a0_2, .int .i64 a0_3, .int .i64 a0_4] 97 (0, 0)) (kz BK245.out)) : gb245 ≠ gb246)); have NB246_245 := Aside0.mk ((by rw [hg]; exact Nat.ne_of_gt (blk_lt (g := gb245) (o := .cells #[.int .i64 a0_0, .int .i64 a0_1, .int .i64 a0_2, .int .i64 a0_3, .int .i64 a0_4] 97 (0, 0)) (kz BK245.out)) : gb246 ≠ gb245)); replace BK245 := Aside0.mk (blk_below (kz BK245.out) hb); clear hb hbox hg; have hnb18 := NB245_246.out; have hnc18 := NB246_245.out; obtain ⟨hcz19_0, hcz19_1, hcz19_2, hcz19_3, hcz19_4⟩ := cz5 BK245.out; obtain ⟨hfz19_0, hfz19_1, hfz19_2, hfz19_3, hfz19_4⟩ := fz5 BK245.out; obtain ⟨hcz20_0, hcz20_1, hcz20_2, hcz20_3, hcz20_4⟩ := cz5 BK246.out; obtain ⟨hfz20_0, hfz20_1, hfz20_2, hfz20_3, hfz20_4⟩ := fz5 BK246.out) | ((with_reducible refine gate_callee (f := 23) rfl ?_); refine goesL_ (some 19) rfl rfl Try.func23 (by kernel_rfl) rfl #[.agg #[.int .i64 a0_2, .int .i64 a0_3], .agg #[.int .i64 a1_2, .int .i64 a1_3]] rfl lz ?_; (with_reducible refine (laws_eqVal.calls a0_2 a0_3 a1_2 a1_3 true _ A5.out).mono ?_); rintro e w21 ⟨rfl, hb⟩; refine ⟨_, rfl, ?_⟩; replace BK245 := Aside0.mk (blk_below (kz BK245.out) hb); replace BK246 := Aside0.mk (blk_below (kz BK246.out) hb); replace HB := Aside0.mk (below_step (bz2 HB.out GE245.out GE246.out) hb); (try clear hb); obtain ⟨hcz22_0, hcz22_1, hcz22_2, hcz22_3, hcz22_4⟩ := cz5 BK245.out; obtain ⟨hfz22_0, hfz22_1, hfz22_2, hfz22_3, hfz22_4⟩ := fz5 BK245.out; obtain ⟨hcz23_0, hcz23_1, hcz23_2, hcz23_3, hcz23_4⟩ := cz5 BK246.out; obtain ⟨hfz23_0, hfz23_1, hfz23_2, hfz23_3, hfz23_4⟩ := fz5 BK246.out))
     go_ret
     exact ⟨gz, (bz2 HB.out GE245.out GE246.out)⟩
   ·replace c6 := Bool.eq_false_iff.mpr c6
    subst c6
    have H1 := hq H
    clear H
    have H := H1
    clear H1
    obtain rfl := Option.some.inj H
    go_enter Try.func57, Try.ntmps57
    go_wp2_with (first | ((with_reducible refine gate_dst (N := 2) rfl ?_); refine box_event ?hg (N := 2) ?hd (cs := #[.int .i64 a0_0, .int .i64 a0_1, .int .i64 a0_2, .int .i64 a0_3, .int .i64 a0_4]) (t := 97) ?hr ?_; (case hd => rfl); (case hg => rfl); (case hr => exact vz); intro gb245 hg w24 hbox hb; have BK245 := Aside0.mk (hbox); have GW245 := Aside0.mk ((by rw [hg]; exact (below_size (bz0 HB.out)) : w.heap.size <= gb245)); have GE245 := Aside0.mk ((by rw [hg]; exact (below_size (bz0 HB.out)) : w.heap.size <= gb245)); replace HB := Aside0.mk (below_step (bz0 HB.out) hb); clear hb hbox hg) | ((with_reducible refine gate_dst (N := 3) rfl ?_); refine box_event ?hg (N := 3) ?hd (cs := #[.int .i64 a1_0, .int .i64 a1_1, .int .i64 a1_2, .int .i64 a1_3, .int .i64 a1_4]) (t := 97) ?hr ?_; (case hd => rfl); (case hg => rfl); (case hr => exact vz); intro gb246 hg w25 hbox hb; have BK246 := Aside0.mk (hbox); have GW246 := Aside0.mk ((by rw [hg]; exact (below_size (bz1 HB.out GE245.out)) : w.heap.size <= gb246)); have GE246 := Aside0.mk ((by rw [hg]; exact (below_size (bz1 HB.out GE245.out)) : w.heap.size <= gb246)); replace HB := Aside0.mk (below_step (bz1 HB.out GE245.out) hb); have NB245_246 := Aside0.mk ((by rw [hg]; exact Nat.ne_of_lt (blk_lt (g := gb245) (o := .cells #[.int .i64 a0_0, .int .i64 a0_1, .int .i64 a0_2, .int .i64 a0_3, .int .i64 a0_4] 97 (0, 0)) (kz BK245.out)) : gb245 ≠ gb246)); have NB246_245 := Aside0.mk ((by rw [hg]; exact Nat.ne_of_gt (blk_lt (g := gb245) (o := .cells #[.int .i64 a0_0, .int .i64 a0_1, .int .i64 a0_2, .int .i64 a0_3, .int .i64 a0_4] 97 (0, 0)) (kz BK245.out)) : gb246 ≠ gb245)); replace BK245 := Aside0.mk (blk_below (kz BK245.out) hb); clear hb hbox hg; have hnb26 := NB245_246.out; have hnc26 := NB246_245.out; obtain ⟨hcz27_0, hcz27_1, hcz27_2, hcz27_3, hcz27_4⟩ := cz5 BK245.out; obtain ⟨hfz27_0, hfz27_1, hfz27_2, hfz27_3, hfz27_4⟩ := fz5 BK245.out; obtain ⟨hcz28_0, hcz28_1, hcz28_2, hcz28_3, hcz28_4⟩ := cz5 BK246.out; obtain ⟨hfz28_0, hfz28_1, hfz28_2, hfz28_3, hfz28_4⟩ := fz5 BK246.out) | ((with_reducible refine gate_callee (f := 23) rfl ?_); refine goesL_ (some 19) rfl rfl Try.func23 (by kernel_rfl) rfl #[.agg #[.int .i64 a0_2, .int .i64 a0_3], .agg #[.int .i64 a1_2, .int .i64 a1_3]] rfl lz ?_; (with_reducible refine (laws_eqVal.calls a0_2 a0_3 a1_2 a1_3 false _ A5.out).mono ?_); rintro e w29 ⟨rfl, hb⟩; refine ⟨_, rfl, ?_⟩; replace BK245 := Aside0.mk (blk_below (kz BK245.out) hb); replace BK246 := Aside0.mk (blk_below (kz BK246.out) hb); replace HB := Aside0.mk (below_step (bz2 HB.out GE245.out GE246.out) hb); (try clear hb); (try clear hi)))
    go_ret
    exact ⟨gz, (bz2 HB.out GE245.out GE246.out)⟩
  ·rw [if_neg c4] at H
   have c4b0 : (a0_1 == a1_1) = false := beq_eq_false_iff_ne.mpr c4
   have c4b1 : (a0_1 != a1_1) = true := bne_iff_ne.mpr c4
   obtain rfl := Option.some.inj H
   go_enter Try.func57, Try.ntmps57
   go_wp2_with (first | ((with_reducible refine gate_dst (N := 2) rfl ?_); refine box_event ?hg (N := 2) ?hd (cs := #[.int .i64 a0_0, .int .i64 a0_1, .int .i64 a0_2, .int .i64 a0_3, .int .i64 a0_4]) (t := 97) ?hr ?_; (case hd => rfl); (case hg => rfl); (case hr => exact vz); intro gb245 hg w30 hbox hb; have BK245 := Aside0.mk (hbox); have GW245 := Aside0.mk ((by rw [hg]; exact (below_size (bz0 HB.out)) : w.heap.size <= gb245)); have GE245 := Aside0.mk ((by rw [hg]; exact (below_size (bz0 HB.out)) : w.heap.size <= gb245)); replace HB := Aside0.mk (below_step (bz0 HB.out) hb); clear hb hbox hg) | ((with_reducible refine gate_dst (N := 3) rfl ?_); refine box_event ?hg (N := 3) ?hd (cs := #[.int .i64 a1_0, .int .i64 a1_1, .int .i64 a1_2, .int .i64 a1_3, .int .i64 a1_4]) (t := 97) ?hr ?_; (case hd => rfl); (case hg => rfl); (case hr => exact vz); intro gb246 hg w31 hbox hb; have BK246 := Aside0.mk (hbox); have GW246 := Aside0.mk ((by rw [hg]; exact (below_size (bz1 HB.out GE245.out)) : w.heap.size <= gb246)); have GE246 := Aside0.mk ((by rw [hg]; exact (below_size (bz1 HB.out GE245.out)) : w.heap.size <= gb246)); replace HB := Aside0.mk (below_step (bz1 HB.out GE245.out) hb); have NB245_246 := Aside0.mk ((by rw [hg]; exact Nat.ne_of_lt (blk_lt (g := gb245) (o := .cells #[.int .i64 a0_0, .int .i64 a0_1, .int .i64 a0_2, .int .i64 a0_3, .int .i64 a0_4] 97 (0, 0)) (kz BK245.out)) : gb245 ≠ gb246)); have NB246_245 := Aside0.mk ((by rw [hg]; exact Nat.ne_of_gt (blk_lt (g := gb245) (o := .cells #[.int .i64 a0_0, .int .i64 a0_1, .int .i64 a0_2, .int .i64 a0_3, .int .i64 a0_4] 97 (0, 0)) (kz BK245.out)) : gb246 ≠ gb245)); replace BK245 := Aside0.mk (blk_below (kz BK245.out) hb); clear hb hbox hg; have hnb32 := NB245_246.out; have hnc32 := NB246_245.out; obtain ⟨hcz33_0, hcz33_1, hcz33_2, hcz33_3, hcz33_4⟩ := cz5 BK245.out; obtain ⟨hfz33_0, hfz33_1, hfz33_2, hfz33_3, hfz33_4⟩ := fz5 BK245.out; obtain ⟨hcz34_0, hcz34_1, hcz34_2, hcz34_3, hcz34_4⟩ := cz5 BK246.out; obtain ⟨hfz34_0, hfz34_1, hfz34_2, hfz34_3, hfz34_4⟩ := fz5 BK246.out))
   go_ret
   exact ⟨gz, (bz2 HB.out GE245.out GE246.out)⟩
 ·rw [if_neg c3] at H
  have c3b0 : (a0_0 == a1_0) = false := beq_eq_false_iff_ne.mpr c3
  have c3b1 : (a0_0 != a1_0) = true := bne_iff_ne.mpr c3
  obtain rfl := Option.some.inj H
  go_enter Try.func57, Try.ntmps57
  go_wp2_with (first | ((with_reducible refine gate_dst (N := 2) rfl ?_); refine box_event ?hg (N := 2) ?hd (cs := #[.int .i64 a0_0, .int .i64 a0_1, .int .i64 a0_2, .int .i64 a0_3, .int .i64 a0_4]) (t := 97) ?hr ?_; (case hd => rfl); (case hg => rfl); (case hr => exact vz); intro gb245 hg w35 hbox hb; have BK245 := Aside0.mk (hbox); have GW245 := Aside0.mk ((by rw [hg]; exact (below_size (bz0 HB.out)) : w.heap.size <= gb245)); have GE245 := Aside0.mk ((by rw [hg]; exact (below_size (bz0 HB.out)) : w.heap.size <= gb245)); replace HB := Aside0.mk (below_step (bz0 HB.out) hb); clear hb hbox hg) | ((with_reducible refine gate_dst (N := 3) rfl ?_); refine box_event ?hg (N := 3) ?hd (cs := #[.int .i64 a1_0, .int .i64 a1_1, .int .i64 a1_2, .int .i64 a1_3, .int .i64 a1_4]) (t := 97) ?hr ?_; (case hd => rfl); (case hg => rfl); (case hr => exact vz); intro gb246 hg w36 hbox hb; have BK246 := Aside0.mk (hbox); have GW246 := Aside0.mk ((by rw [hg]; exact (below_size (bz1 HB.out GE245.out)) : w.heap.size <= gb246)); have GE246 := Aside0.mk ((by rw [hg]; exact (below_size (bz1 HB.out GE245.out)) : w.heap.size <= gb246)); replace HB := Aside0.mk (below_step (bz1 HB.out GE245.out) hb); have NB245_246 := Aside0.mk ((by rw [hg]; exact Nat.ne_of_lt (blk_lt (g := gb245) (o := .cells #[.int .i64 a0_0, .int .i64 a0_1, .int .i64 a0_2, .int .i64 a0_3, .int .i64 a0_4] 97 (0, 0)) (kz BK245.out)) : gb245 ≠ gb246)); have NB246_245 := Aside0.mk ((by rw [hg]; exact Nat.ne_of_gt (blk_lt (g := gb245) (o := .cells #[.int .i64 a0_0, .int .i64 a0_1, .int .i64 a0_2, .int .i64 a0_3, .int .i64 a0_4] 97 (0, 0)) (kz BK245.out)) : gb246 ≠ gb245)); replace BK245 := Aside0.mk (blk_below (kz BK245.out) hb); clear hb hbox hg; have hnb37 := NB245_246.out; have hnc37 := NB246_245.out; obtain ⟨hcz38_0, hcz38_1, hcz38_2, hcz38_3, hcz38_4⟩ := cz5 BK245.out; obtain ⟨hfz38_0, hfz38_1, hfz38_2, hfz38_3, hfz38_4⟩ := fz5 BK245.out; obtain ⟨hcz39_0, hcz39_1, hcz39_2, hcz39_3, hcz39_4⟩ := cz5 BK246.out; obtain ⟨hfz39_0, hfz39_1, hfz39_2, hfz39_3, hfz39_4⟩ := fz5 BK246.out))
  go_ret
  exact ⟨gz, (bz2 HB.out GE245.out GE246.out)⟩
def laws_eqEnvCellS.l0 : Nat -> List (S97) -> List (S97) -> Int -> Option (Bool)
 | 0, _, _, _ => none
 | k + 1, x0, x1, x5 => if x5 < (x0.length : Int) then (if 0 <= x5 then (if x5 < (x1.length : Int) then ((laws_eqEnvCell.f ((rd_T97 x0 x5).f0) ((rd_T97 x0 x5).f1) ((rd_T97 x0 x5).f2.f0) ((rd_T97 x0 x5).f2.f1) ((rd_T97 x0 x5).f3) ((rd_T97 x1 x5).f0) ((rd_T97 x1 x5).f1) ((rd_T97 x1 x5).f2.f0) ((rd_T97 x1 x5).f2.f1) ((rd_T97 x1 x5).f3)).bind fun t250 => (if t250 = true then (laws_eqEnvCellS.l0 k x0 x1 (wrap64 (x5 + 1))) else (some false))) else (none)) else (none)) else (some true)
def laws_eqEnvCellS.f (k : Nat) (l0 : List (S97)) (l1 : List (S97)) : Option (Bool) := if (l0.length : Int) = (l1.length : Int) then (laws_eqEnvCellS.l0 k l0 l1 0) else (some false)
theorem laws_eqEnvCellS.mono_l : ∀ k, (∀ y0 y1 y2, LeO (laws_eqEnvCellS.l0 k y0 y1 y2) (laws_eqEnvCellS.l0 (k + 1) y0 y1 y2))
 | 0 => fun _ _ _ r h => by simp [laws_eqEnvCellS.l0] at h
 | k + 1 => by
  have ih0 := laws_eqEnvCellS.mono_l k
  ·intro y0 y1 y2
   unfold laws_eqEnvCellS.l0
   with_reducible repeat' first | exact ih0 _ _ _ | exact lrz _ | exact lnz _ | refine liz ?_ ?_ | refine lbz ?_ fun _ => ?_
theorem laws_eqEnvCellS.mono : ∀ a0 a1 k, LeO (laws_eqEnvCellS.f k a0 a1) (laws_eqEnvCellS.f (k + 1) a0 a1) := by
 intro a0 a1 k
 have ih0 := laws_eqEnvCellS.mono_l k
 unfold laws_eqEnvCellS.f
 with_reducible repeat' first | exact ih0 _ _ _ | exact lrz _ | exact lnz _ | refine liz ?_ ?_ | refine lbz ?_ fun _ => ?_
def laws_eqEnvCellS.T6 : Bool × List (List Nat × List Nat) := (true, [([], []), ([], []), ([0, 1], [0, 1]), ([2], [2]), ([], []), ([], []), ([4, 5], [4, 5]), ([6], [6]), ([3, 7], [3, 7]), ([8], [8])])
def laws_eqEnvCellS.B6 : List Nat := [0, 0, 3, 7, 0, 0, 48, 112, 255, 511]
theorem laws_eqEnvCellS.tab6 : rtab .any (opsOf Try.f46 6) = laws_eqEnvCellS.T6 := by kernel_rfl
theorem laws_eqEnvCellS.bits6 : waitsOk laws_eqEnvCellS.T6.2 laws_eqEnvCellS.B6 = true := by kernel_rfl
set_option maxHeartbeats 8000000 in
set_option maxRecDepth 100000 in
theorem laws_eqEnvCellS.calls (k : Nat) (A0 : Option Addr) (c0 : Nat) (l0 : List (S97)) (A1 : Option Addr) (c1 : Nat) (l1 : List (S97)) (r : Bool) (w : World) (hr0 : Kd.C k97 w A0 l0.length l0) (hc0 : l0.length <= c0) (hr1 : Kd.C k97 w A1 l1.length l1) (hc1 : l1.length <= c1) (h : laws_eqEnvCellS.f k l0 l1 = some r) :
  Calls Try.prog 46 #[.slice A0 l0.length c0, .slice A1 l1.length c1] w fun e w' => e = .returned (.bool r) /\ Below w.heap.size w w' := by
 have hu97 := Try.underlying97
 have HR0 := Aside0.mk hr0
 have HC0 := Aside0.mk hc0
 clear hr0 hc0
 have HR1 := Aside0.mk hr1
 have HC1 := Aside0.mk hc1
 clear hr1 hc1
 have HB := Aside0.mk (Below.refl w.heap.size w)
 have H : (if (l0.length : Int) = (l1.length : Int) then (laws_eqEnvCellS.l0 k l0 l1 0) else (some false)) = some r := h
 clear h
 by_cases c3 : (l0.length : Int) = (l1.length : Int)
 ·rw [if_pos c3] at H
  have c3b0 : ((l0.length : Int) == (l1.length : Int)) = true := beq_iff_eq.mpr c3
  have c3b1 : ((l0.length : Int) != (l1.length : Int)) = false := bne_eq_false_iff_eq.mpr c3
  have c3b2 : (l0.length == l1.length) = true := by first | simpa using c3 | (simp at c3 ⊢; omega)
  clear c3
  have H' := Aside0.mk H
  clear H
  go_enter Try.func46, Try.ntmps46
  go_wp2
  go_loopg [5] k (fun kq v5 w' => ∃ (x5_1 : Int), v5 = .int .i64 x5_1 /\ Aside0 (laws_eqEnvCellS.l0 kq l0 l1 x5_1 = some r) /\ Aside0 (kq <= k) /\ Aside0 (Below w.heap.size w w'))
  case atStart => exact ⟨(0), ez, H', ⟨Nat.le_refl _⟩, ⟨(bz0 HB.out)⟩⟩
  case round =>
   clear H'
   try clear c1
   try clear p2
   try clear c3
   try clear c3b0
   try clear c3b1
   try clear c3b2
   obtain ⟨x5_1, rfl, HA, HK1, HB⟩ := hrel
   cases gk with
   | zero => exact absurd HA.out (by simp [laws_eqEnvCellS.l0])
   | succ k1 =>
    have H := HA.out
    clear HA
    simp only [laws_eqEnvCellS.l0] at H
    by_cases c4 : x5_1 < (l0.length : Int)
    ·rw [if_pos c4] at H
     have c4b0 := decide_eq_true c4
     clear c4
     replace H := iz H
     obtain ⟨c5, H⟩ := H
     have c5b0 := decide_eq_true c5
     clear c5
     replace H := iz H
     obtain ⟨c6, H⟩ := H
     have c6b0 := decide_eq_true c6
     clear c6
     replace H := bi H
     obtain ⟨t250, A70, H⟩ := H
     try dsimp only at H
     have A7 := Aside0.mk A70
     clear A70
     by_cases c8 : t250 = true
     ·subst c8
      have H1 := hp H
      clear H
      have H := H1
      clear H1
      have H' := Aside0.mk H
      clear H
      try go_wp2
      have n0_ := Aside0.mk (below_drew1 HB.out)
      clear HB
      have HB := n0_
      clear n0_
      have p248 : 0 <= (x5_1 : Int) := oz
      have q248 : x5_1 < (l0.length : Int) := oz
      obtain ⟨ad248, e248, hx248_0, hx248_1, hx248_2, hx248_3, hx248_4⟩ := at_T97 HR0.out x5_1 p248 q248
      have hw248_4 := hx248_4
      have hw248_3 := hx248_3
      have hw248_2 := hx248_2
      have hw248_1 := hx248_1
      have hw248_0 := hx248_0
      cases e248
      replace hx248_0 := hz HB.out hx248_0
      replace hx248_1 := hz HB.out hx248_1
      replace hx248_2 := hz HB.out hx248_2
      replace hx248_3 := hz HB.out hx248_3
      replace hx248_4 := hz HB.out hx248_4
      replace p248 := eq_true p248
      replace q248 := eq_true q248
      have p249 : 0 <= (x5_1 : Int) := oz
      have q249 : x5_1 < (l1.length : Int) := oz
      obtain ⟨ad249, e249, hx249_0, hx249_1, hx249_2, hx249_3, hx249_4⟩ := at_T97 HR1.out x5_1 p249 q249
      have hw249_4 := hx249_4
      have hw249_3 := hx249_3
      have hw249_2 := hx249_2
      have hw249_1 := hx249_1
      have hw249_0 := hx249_0
      cases e249
      replace hx249_0 := hz HB.out hx249_0
      replace hx249_1 := hz HB.out hx249_1
      replace hx249_2 := hz HB.out hx249_2
      replace hx249_3 := hz HB.out hx249_3
      replace hx249_4 := hz HB.out hx249_4
      replace p249 := eq_true p249
      replace q249 := eq_true q249
      refine start_ (n := 10) (S := fun w' => w'.cell? (ad248.add ((x5_1).toNat * 5)) = some (.int .i64 ((rd_T97 l0 x5_1).f0)) /\ w'.cell? ⟨(ad248.add ((x5_1).toNat * 5)).block, (ad248.add ((x5_1).toNat * 5)).off + 1, none⟩ = some (.int .i64 ((rd_T97 l0 x5_1).f1)) /\ w'.cell? ⟨(ad248.add ((x5_1).toNat * 5)).block, (ad248.add ((x5_1).toNat * 5)).off + 2, none⟩ = some (.int .i64 ((rd_T97 l0 x5_1).f2.f0)) /\ w'.cell? ⟨(ad248.add ((x5_1).toNat * 5)).block, (ad248.add ((x5_1).toNat * 5)).off + 3, none⟩ = some (.int .i64 ((rd_T97 l0 x5_1).f2.f1)) /\ w'.cell? ⟨(ad248.add ((x5_1).toNat * 5)).block, (ad248.add ((x5_1).toNat * 5)).off + 4, none⟩ = some (.int .i64 ((rd_T97 l0 x5_1).f3)) /\ w'.cell? (ad249.add ((x5_1).toNat * 5)) = some (.int .i64 ((rd_T97 l1 x5_1).f0)) /\ w'.cell? ⟨(ad249.add ((x5_1).toNat * 5)).block, (ad249.add ((x5_1).toNat * 5)).off + 1, none⟩ = some (.int .i64 ((rd_T97 l1 x5_1).f1)) /\ w'.cell? ⟨(ad249.add ((x5_1).toNat * 5)).block, (ad249.add ((x5_1).toNat * 5)).off + 2, none⟩ = some (.int .i64 ((rd_T97 l1 x5_1).f2.f0)) /\ w'.cell? ⟨(ad249.add ((x5_1).toNat * 5)).block, (ad249.add ((x5_1).toNat * 5)).off + 3, none⟩ = some (.int .i64 ((rd_T97 l1 x5_1).f2.f1)) /\ w'.cell? ⟨(ad249.add ((x5_1).toNat * 5)).block, (ad249.add ((x5_1).toNat * 5)).off + 4, none⟩ = some (.int .i64 ((rd_T97 l1 x5_1).f3))) (ds := []) #[ff, ff, ff, ff, ff, ff, ff, ff, ff, ff] (by kernel_rfl) rfl rfl ⟨(hz HB.out hw248_0 :), (hz HB.out hw248_1 :), (hz HB.out hw248_2 :), (hz HB.out hw248_3 :), (hz HB.out hw248_4 :), (hz HB.out hw249_0 :), (hz HB.out hw249_1 :), (hz HB.out hw249_2 :), (hz HB.out hw249_3 :), (hz HB.out hw249_4 :)⟩ (fun hHeld => ?_); refine with_tabW laws_eqEnvCellS.tab6 laws_eqEnvCellS.bits6 (fun HT_ HW_ => ?_)
      generalize wr.drew = w9 at HB hx248_0 hx248_1 hx248_2 hx248_3 hx248_4 hx249_0 hx249_1 hx249_2 hx249_3 hx249_4 hHeld ⊢
      refine pure_ (i := 0) (N := some 17) (v := ?_) (a' := ?_) #[tt, ff, ff, ff, ff, ff, ff, ff, ff, ff] rfl rfl (any_of HT_.out (by kernel_rfl)) (fun _ _ _ h => h) (Or.inl ⟨by rfl, ?_⟩) ?_ ?_
      rotate_left
      ·intro w'
       go_simp
       with_reducible rfl
      rotate_left
      ·simp only [Act.put, sz1, sz2, sz3, i64_w, i32_w]
       rfl
      refine pure_ (i := 1) (N := some 18) (v := ?_) (a' := ?_) #[tt, tt, ff, ff, ff, ff, ff, ff, ff, ff] rfl rfl (any_of HT_.out (by kernel_rfl)) (fun _ _ _ h => h) (Or.inl ⟨by rfl, ?_⟩) ?_ ?_
      rotate_left
      ·intro w'
       go_simp
       with_reducible rfl
      rotate_left
      ·simp only [Act.put, sz1, sz2, sz3, i64_w, i32_w]
       rfl
      refine pure_ (i := 2) (N := some 19) (v := ?_) (a' := ?_) #[tt, tt, tt, ff, ff, ff, ff, ff, ff, ff] rfl rfl (any_of HT_.out (by kernel_rfl)) (fun _ _ _ h => h) (Or.inl ⟨by rfl, ?_⟩) ?_ ?_
      rotate_left
      ·intro w'
       go_simp
       with_reducible rfl
      rotate_left
      ·simp only [Act.put, sz1, sz2, sz3, i64_w, i32_w]
       rfl
      refine pure_ (i := 4) (N := some 21) (v := ?_) (a' := ?_) #[tt, tt, tt, ff, tt, ff, ff, ff, ff, ff] rfl rfl (any_of HT_.out (by kernel_rfl)) (fun _ _ _ h => h) (Or.inl ⟨by rfl, ?_⟩) ?_ ?_
      rotate_left
      ·intro w'
       go_simp
       with_reducible rfl
      rotate_left
      ·simp only [Act.put, sz1, sz2, sz3, i64_w, i32_w]
       rfl
      refine pure_ (i := 5) (N := some 22) (v := ?_) (a' := ?_) #[tt, tt, tt, ff, tt, tt, ff, ff, ff, ff] rfl rfl (any_of HT_.out (by kernel_rfl)) (fun _ _ _ h => h) (Or.inl ⟨by rfl, ?_⟩) ?_ ?_
      rotate_left
      ·intro w'
       go_simp
       with_reducible rfl
      rotate_left
      ·simp only [Act.put, sz1, sz2, sz3, i64_w, i32_w]
       rfl
      refine pure_ (i := 6) (N := some 23) (v := ?_) (a' := ?_) #[tt, tt, tt, ff, tt, tt, tt, ff, ff, ff] rfl rfl (any_of HT_.out (by kernel_rfl)) (fun _ _ _ h => h) (Or.inl ⟨by rfl, ?_⟩) ?_ ?_
      rotate_left
      ·intro w'
       go_simp
       with_reducible rfl
      rotate_left
      ·simp only [Act.put, sz1, sz2, sz3, i64_w, i32_w]
       rfl
      refine take_ (i := 3) (N := some 20) (v := ?_) (a' := ?_) #[tt, tt, tt, tt, tt, tt, tt, ff, ff, ff] rfl rfl (take_ofW HT_.out HW_.out (by kernel_rfl)) (fun _ _ _ h => h) (Or.inl ⟨by rfl, ?_⟩) hHeld ?_ ?_
      rotate_left
      ·rintro w' ⟨s0, s1, s2, s3, s4, s5, s6, s7, s8, s9⟩
       go_simp
       with_reducible rfl
      rotate_left
      ·simp only [Act.put, sz1, sz2, sz3, i64_w, i32_w]
       rfl
      refine take_ (i := 7) (N := some 24) (v := ?_) (a' := ?_) #[tt, tt, tt, tt, tt, tt, tt, tt, ff, ff] rfl rfl (take_ofW HT_.out HW_.out (by kernel_rfl)) (fun _ _ _ h => h) (Or.inl ⟨by rfl, ?_⟩) hHeld ?_ ?_
      rotate_left
      ·rintro w' ⟨s0, s1, s2, s3, s4, s5, s6, s7, s8, s9⟩
       go_simp
       with_reducible rfl
      rotate_left
      ·simp only [Act.put, sz1, sz2, sz3, i64_w, i32_w]
       rfl
      refine one_ (i := 8) (N := some 25) #[tt, tt, tt, tt, tt, tt, tt, tt, tt, ff] rfl rfl (one_of HT_.out (by kernel_rfl)) (by decide) (fun K hK => ?_)
      refine goes_ Try.func57 (by kernel_rfl) rfl #[.agg #[.int .i64 ((rd_T97 l0 x5_1).f0), .int .i64 ((rd_T97 l0 x5_1).f1), .int .i64 ((rd_T97 l0 x5_1).f2.f0), .int .i64 ((rd_T97 l0 x5_1).f2.f1), .int .i64 ((rd_T97 l0 x5_1).f3)], .agg #[.int .i64 ((rd_T97 l1 x5_1).f0), .int .i64 ((rd_T97 l1 x5_1).f1), .int .i64 ((rd_T97 l1 x5_1).f2.f0), .int .i64 ((rd_T97 l1 x5_1).f2.f1), .int .i64 ((rd_T97 l1 x5_1).f3)]] (by rfl) rfl rfl lz ?_
      with_reducible refine (laws_eqEnvCell.calls ((rd_T97 l0 x5_1).f0) ((rd_T97 l0 x5_1).f1) ((rd_T97 l0 x5_1).f2.f0) ((rd_T97 l0 x5_1).f2.f1) ((rd_T97 l0 x5_1).f3) ((rd_T97 l1 x5_1).f0) ((rd_T97 l1 x5_1).f1) ((rd_T97 l1 x5_1).f2.f0) ((rd_T97 l1 x5_1).f2.f1) ((rd_T97 l1 x5_1).f3) true _ A7.out).mono ?_
      rintro e w10 ⟨rfl, hb⟩
      refine ⟨_, rfl, ?_⟩
      have n0_ := Aside0.mk (below_step (bz0 HB.out) hb)
      clear HB
      have HB := n0_
      clear n0_
      (try clear hb)
      (try clear hb2)
      (try clear hk)
      (try clear hi)
      refine hK.out _ _ ⟨(hz HB.out hw248_0 :), (hz HB.out hw248_1 :), (hz HB.out hw248_2 :), (hz HB.out hw248_3 :), (hz HB.out hw248_4 :), (hz HB.out hw249_0 :), (hz HB.out hw249_1 :), (hz HB.out hw249_2 :), (hz HB.out hw249_3 :), (hz HB.out hw249_4 :)⟩ (fun hHeld => ?_)
      clear hK K
      refine norm_ (a' := ?_) ?_ ?_
      rotate_left
      ·show Act.put _ (some 25) _ = _
       simp only [Act.put, sz1, sz2, sz3, i64_w, i32_w]
       rfl
      refine pure_ (i := 9) (N := some 26) (v := ?_) (a' := ?_) #[tt, tt, tt, tt, tt, tt, tt, tt, tt, tt] rfl rfl (any_of HT_.out (by kernel_rfl)) (fun _ _ _ h => h) (Or.inl ⟨by rfl, ?_⟩) ?_ ?_
      rotate_left
      ·intro w'
       go_simp
       with_reducible rfl
      rotate_left
      ·simp only [Act.put, sz1, sz2, sz3, i64_w, i32_w]
       rfl
      refine done_ (done_of HT_.out (by kernel_rfl)) ?_
      try go_wp2
      go_roundg k1
      case measure => have := HK1.out; omega
      case rel => exact ⟨(wrap64 (x5_1 + 1)), ez, H', ⟨by have := HK1.out; omega⟩, ⟨(bz0 HB.out)⟩⟩
     ·replace c8 := Bool.eq_false_iff.mpr c8
      subst c8
      have H1 := hq H
      clear H
      have H := H1
      clear H1
      obtain rfl := Option.some.inj H
      try go_wp2
      have n0_ := Aside0.mk (below_drew1 HB.out)
      clear HB
      have HB := n0_
      clear n0_
      have p248 : 0 <= (x5_1 : Int) := oz
      have q248 : x5_1 < (l0.length : Int) := oz
      obtain ⟨ad248, e248, hx248_0, hx248_1, hx248_2, hx248_3, hx248_4⟩ := at_T97 HR0.out x5_1 p248 q248
      have hw248_4 := hx248_4
      have hw248_3 := hx248_3
      have hw248_2 := hx248_2
      have hw248_1 := hx248_1
      have hw248_0 := hx248_0
      cases e248
      replace hx248_0 := hz HB.out hx248_0
      replace hx248_1 := hz HB.out hx248_1
      replace hx248_2 := hz HB.out hx248_2
      replace hx248_3 := hz HB.out hx248_3
      replace hx248_4 := hz HB.out hx248_4
      replace p248 := eq_true p248
      replace q248 := eq_true q248
      have p249 : 0 <= (x5_1 : Int) := oz
      have q249 : x5_1 < (l1.length : Int) := oz
      obtain ⟨ad249, e249, hx249_0, hx249_1, hx249_2, hx249_3, hx249_4⟩ := at_T97 HR1.out x5_1 p249 q249
      have hw249_4 := hx249_4
      have hw249_3 := hx249_3
      have hw249_2 := hx249_2
      have hw249_1 := hx249_1
      have hw249_0 := hx249_0
      cases e249
      replace hx249_0 := hz HB.out hx249_0
      replace hx249_1 := hz HB.out hx249_1
      replace hx249_2 := hz HB.out hx249_2
      replace hx249_3 := hz HB.out hx249_3
      replace hx249_4 := hz HB.out hx249_4
      replace p249 := eq_true p249
      replace q249 := eq_true q249
      refine start_ (n := 10) (S := fun w' => w'.cell? (ad248.add ((x5_1).toNat * 5)) = some (.int .i64 ((rd_T97 l0 x5_1).f0)) /\ w'.cell? ⟨(ad248.add ((x5_1).toNat * 5)).block, (ad248.add ((x5_1).toNat * 5)).off + 1, none⟩ = some (.int .i64 ((rd_T97 l0 x5_1).f1)) /\ w'.cell? ⟨(ad248.add ((x5_1).toNat * 5)).block, (ad248.add ((x5_1).toNat * 5)).off + 2, none⟩ = some (.int .i64 ((rd_T97 l0 x5_1).f2.f0)) /\ w'.cell? ⟨(ad248.add ((x5_1).toNat * 5)).block, (ad248.add ((x5_1).toNat * 5)).off + 3, none⟩ = some (.int .i64 ((rd_T97 l0 x5_1).f2.f1)) /\ w'.cell? ⟨(ad248.add ((x5_1).toNat * 5)).block, (ad248.add ((x5_1).toNat * 5)).off + 4, none⟩ = some (.int .i64 ((rd_T97 l0 x5_1).f3)) /\ w'.cell? (ad249.add ((x5_1).toNat * 5)) = some (.int .i64 ((rd_T97 l1 x5_1).f0)) /\ w'.cell? ⟨(ad249.add ((x5_1).toNat * 5)).block, (ad249.add ((x5_1).toNat * 5)).off + 1, none⟩ = some (.int .i64 ((rd_T97 l1 x5_1).f1)) /\ w'.cell? ⟨(ad249.add ((x5_1).toNat * 5)).block, (ad249.add ((x5_1).toNat * 5)).off + 2, none⟩ = some (.int .i64 ((rd_T97 l1 x5_1).f2.f0)) /\ w'.cell? ⟨(ad249.add ((x5_1).toNat * 5)).block, (ad249.add ((x5_1).toNat * 5)).off + 3, none⟩ = some (.int .i64 ((rd_T97 l1 x5_1).f2.f1)) /\ w'.cell? ⟨(ad249.add ((x5_1).toNat * 5)).block, (ad249.add ((x5_1).toNat * 5)).off + 4, none⟩ = some (.int .i64 ((rd_T97 l1 x5_1).f3))) (ds := []) #[ff, ff, ff, ff, ff, ff, ff, ff, ff, ff] (by kernel_rfl) rfl rfl ⟨(hz HB.out hw248_0 :), (hz HB.out hw248_1 :), (hz HB.out hw248_2 :), (hz HB.out hw248_3 :), (hz HB.out hw248_4 :), (hz HB.out hw249_0 :), (hz HB.out hw249_1 :), (hz HB.out hw249_2 :), (hz HB.out hw249_3 :), (hz HB.out hw249_4 :)⟩ (fun hHeld => ?_); refine with_tabW laws_eqEnvCellS.tab6 laws_eqEnvCellS.bits6 (fun HT_ HW_ => ?_)
      generalize wr.drew = w11 at HB hx248_0 hx248_1 hx248_2 hx248_3 hx248_4 hx249_0 hx249_1 hx249_2 hx249_3 hx249_4 hHeld ⊢
      refine pure_ (i := 0) (N := some 17) (v := ?_) (a' := ?_) #[tt, ff, ff, ff, ff, ff, ff, ff, ff, ff] rfl rfl (any_of HT_.out (by kernel_rfl)) (fun _ _ _ h => h) (Or.inl ⟨by rfl, ?_⟩) ?_ ?_
      rotate_left
      ·intro w'
       go_simp
       with_reducible rfl
      rotate_left
      ·simp only [Act.put, sz1, sz2, sz3, i64_w, i32_w]
       rfl
      refine pure_ (i := 1) (N := some 18) (v := ?_) (a' := ?_) #[tt, tt, ff, ff, ff, ff, ff, ff, ff, ff] rfl rfl (any_of HT_.out (by kernel_rfl)) (fun _ _ _ h => h) (Or.inl ⟨by rfl, ?_⟩) ?_ ?_
      rotate_left
      ·intro w'
       go_simp
       with_reducible rfl
      rotate_left
      ·simp only [Act.put, sz1, sz2, sz3, i64_w, i32_w]
       rfl
      refine pure_ (i := 2) (N := some 19) (v := ?_) (a' := ?_) #[tt, tt, tt, ff, ff, ff, ff, ff, ff, ff] rfl rfl (any_of HT_.out (by kernel_rfl)) (fun _ _ _ h => h) (Or.inl ⟨by rfl, ?_⟩) ?_ ?_
      rotate_left
      ·intro w'
       go_simp
       with_reducible rfl
      rotate_left
      ·simp only [Act.put, sz1, sz2, sz3, i64_w, i32_w]
       rfl
      refine pure_ (i := 4) (N := some 21) (v := ?_) (a' := ?_) #[tt, tt, tt, ff, tt, ff, ff, ff, ff, ff] rfl rfl (any_of HT_.out (by kernel_rfl)) (fun _ _ _ h => h) (Or.inl ⟨by rfl, ?_⟩) ?_ ?_
      rotate_left
      ·intro w'
       go_simp
       with_reducible rfl
      rotate_left
      ·simp only [Act.put, sz1, sz2, sz3, i64_w, i32_w]
       rfl
      refine pure_ (i := 5) (N := some 22) (v := ?_) (a' := ?_) #[tt, tt, tt, ff, tt, tt, ff, ff, ff, ff] rfl rfl (any_of HT_.out (by kernel_rfl)) (fun _ _ _ h => h) (Or.inl ⟨by rfl, ?_⟩) ?_ ?_
      rotate_left
      ·intro w'
       go_simp
       with_reducible rfl
      rotate_left
      ·simp only [Act.put, sz1, sz2, sz3, i64_w, i32_w]
       rfl
      refine pure_ (i := 6) (N := some 23) (v := ?_) (a' := ?_) #[tt, tt, tt, ff, tt, tt, tt, ff, ff, ff] rfl rfl (any_of HT_.out (by kernel_rfl)) (fun _ _ _ h => h) (Or.inl ⟨by rfl, ?_⟩) ?_ ?_
      rotate_left
      ·intro w'
       go_simp
       with_reducible rfl
      rotate_left
      ·simp only [Act.put, sz1, sz2, sz3, i64_w, i32_w]
       rfl
      refine take_ (i := 3) (N := some 20) (v := ?_) (a' := ?_) #[tt, tt, tt, tt, tt, tt, tt, ff, ff, ff] rfl rfl (take_ofW HT_.out HW_.out (by kernel_rfl)) (fun _ _ _ h => h) (Or.inl ⟨by rfl, ?_⟩) hHeld ?_ ?_
      rotate_left
      ·rintro w' ⟨s0, s1, s2, s3, s4, s5, s6, s7, s8, s9⟩
       go_simp
       with_reducible rfl
      rotate_left
      ·simp only [Act.put, sz1, sz2, sz3, i64_w, i32_w]
       rfl
      refine take_ (i := 7) (N := some 24) (v := ?_) (a' := ?_) #[tt, tt, tt, tt, tt, tt, tt, tt, ff, ff] rfl rfl (take_ofW HT_.out HW_.out (by kernel_rfl)) (fun _ _ _ h => h) (Or.inl ⟨by rfl, ?_⟩) hHeld ?_ ?_
      rotate_left
      ·rintro w' ⟨s0, s1, s2, s3, s4, s5, s6, s7, s8, s9⟩
       go_simp
       with_reducible rfl
      rotate_left
      ·simp only [Act.put, sz1, sz2, sz3, i64_w, i32_w]
       rfl
      refine one_ (i := 8) (N := some 25) #[tt, tt, tt, tt, tt, tt, tt, tt, tt, ff] rfl rfl (one_of HT_.out (by kernel_rfl)) (by decide) (fun K hK => ?_)
      refine goes_ Try.func57 (by kernel_rfl) rfl #[.agg #[.int .i64 ((rd_T97 l0 x5_1).f0), .int .i64 ((rd_T97 l0 x5_1).f1), .int .i64 ((rd_T97 l0 x5_1).f2.f0), .int .i64 ((rd_T97 l0 x5_1).f2.f1), .int .i64 ((rd_T97 l0 x5_1).f3)], .agg #[.int .i64 ((rd_T97 l1 x5_1).f0), .int .i64 ((rd_T97 l1 x5_1).f1), .int .i64 ((rd_T97 l1 x5_1).f2.f0), .int .i64 ((rd_T97 l1 x5_1).f2.f1), .int .i64 ((rd_T97 l1 x5_1).f3)]] (by rfl) rfl rfl lz ?_
      with_reducible refine (laws_eqEnvCell.calls ((rd_T97 l0 x5_1).f0) ((rd_T97 l0 x5_1).f1) ((rd_T97 l0 x5_1).f2.f0) ((rd_T97 l0 x5_1).f2.f1) ((rd_T97 l0 x5_1).f3) ((rd_T97 l1 x5_1).f0) ((rd_T97 l1 x5_1).f1) ((rd_T97 l1 x5_1).f2.f0) ((rd_T97 l1 x5_1).f2.f1) ((rd_T97 l1 x5_1).f3) false _ A7.out).mono ?_
      rintro e w12 ⟨rfl, hb⟩
      refine ⟨_, rfl, ?_⟩
      have n0_ := Aside0.mk (below_step (bz0 HB.out) hb)
      clear HB
      have HB := n0_
      clear n0_
      (try clear hb)
      (try clear hb2)
      (try clear hk)
      (try clear hi)
      refine hK.out _ _ ⟨(hz HB.out hw248_0 :), (hz HB.out hw248_1 :), (hz HB.out hw248_2 :), (hz HB.out hw248_3 :), (hz HB.out hw248_4 :), (hz HB.out hw249_0 :), (hz HB.out hw249_1 :), (hz HB.out hw249_2 :), (hz HB.out hw249_3 :), (hz HB.out hw249_4 :)⟩ (fun hHeld => ?_)
      clear hK K
      refine norm_ (a' := ?_) ?_ ?_
      rotate_left
      ·show Act.put _ (some 25) _ = _
       simp only [Act.put, sz1, sz2, sz3, i64_w, i32_w]
       rfl
      refine pure_ (i := 9) (N := some 26) (v := ?_) (a' := ?_) #[tt, tt, tt, tt, tt, tt, tt, tt, tt, tt] rfl rfl (any_of HT_.out (by kernel_rfl)) (fun _ _ _ h => h) (Or.inl ⟨by rfl, ?_⟩) ?_ ?_
      rotate_left
      ·intro w'
       go_simp
       with_reducible rfl
      rotate_left
      ·simp only [Act.put, sz1, sz2, sz3, i64_w, i32_w]
       rfl
      refine done_ (done_of HT_.out (by kernel_rfl)) ?_
      try go_wp2
      go_ret
      exact ⟨gz, (bz0 HB.out)⟩
    ·rw [if_neg c4] at H
     have c4b0 := decide_eq_false c4
     clear c4
     obtain rfl := Option.some.inj H
     go_wp2
     go_ret
     exact ⟨gz, (bz0 HB.out)⟩
 ·rw [if_neg c3] at H
  have c3b0 : ((l0.length : Int) == (l1.length : Int)) = false := beq_eq_false_iff_ne.mpr c3
  have c3b1 : ((l0.length : Int) != (l1.length : Int)) = true := bne_iff_ne.mpr c3
  have c3b2 : (l0.length == l1.length) = false := by first | simpa using c3 | (simp at c3 ⊢; omega)
  obtain rfl := Option.some.inj H
  go_enter Try.func46, Try.ntmps46
  go_wp2
  go_ret
  exact ⟨gz, (bz0 HB.out)⟩
def laws_eqClo.f (a0_0 : Int) (a0_1 : Int) (a1_0 : Int) (a1_1 : Int) : Option (Bool) := if a0_0 = a1_0 then (if a0_1 = a1_1 then (some true) else (some false)) else (some false)
set_option maxHeartbeats 8000000 in
set_option maxRecDepth 100000 in
theorem laws_eqClo.calls (a0_0 : Int) (a0_1 : Int) (a1_0 : Int) (a1_1 : Int) (r : Bool) (w : World) (h : laws_eqClo.f a0_0 a0_1 a1_0 a1_1 = some r) :
  Calls Try.prog 58 #[.agg #[.int .i64 a0_0, .int .i64 a0_1], .agg #[.int .i64 a1_0, .int .i64 a1_1]] w fun e w' => e = .returned (.bool r) /\ Below w.heap.size w w' := by
 have hu100 := Try.underlying100
 have HB := Aside0.mk (Below.refl w.heap.size w)
 have H : (if a0_0 = a1_0 then (if a0_1 = a1_1 then (some true) else (some false)) else (some false)) = some r := h
 clear h
 by_cases c3 : a0_0 = a1_0
 ·rw [if_pos c3] at H
  have c3b0 : (a0_0 == a1_0) = true := beq_iff_eq.mpr c3
  have c3b1 : (a0_0 != a1_0) = false := bne_eq_false_iff_eq.mpr c3
  clear c3
  by_cases c4 : a0_1 = a1_1
  ·rw [if_pos c4] at H
   have c4b0 : (a0_1 == a1_1) = true := beq_iff_eq.mpr c4
   have c4b1 : (a0_1 != a1_1) = false := bne_eq_false_iff_eq.mpr c4
   clear c4
   obtain rfl := Option.some.inj H
   go_enter Try.func58, Try.ntmps58
   go_wp2_with (first | ((with_reducible refine gate_dst (N := 2) rfl ?_); refine box_event ?hg (N := 2) ?hd (cs := #[.int .i64 a0_0, .int .i64 a0_1]) (t := 100) ?hr ?_; (case hd => rfl); (case hg => rfl); (case hr => exact vz); intro gb251 hg w5 hbox hb; have BK251 := Aside0.mk (hbox); have GW251 := Aside0.mk ((by rw [hg]; exact (below_size (bz0 HB.out)) : w.heap.size <= gb251)); have GE251 := Aside0.mk ((by rw [hg]; exact (below_size (bz0 HB.out)) : w.heap.size <= gb251)); replace HB := Aside0.mk (below_step (bz0 HB.out) hb); clear hb hbox hg) | ((with_reducible refine gate_dst (N := 3) rfl ?_); refine box_event ?hg (N := 3) ?hd (cs := #[.int .i64 a1_0, .int .i64 a1_1]) (t := 100) ?hr ?_; (case hd => rfl); (case hg => rfl); (case hr => exact vz); intro gb252 hg w6 hbox hb; have BK252 := Aside0.mk (hbox); have GW252 := Aside0.mk ((by rw [hg]; exact (below_size (bz1 HB.out GE251.out)) : w.heap.size <= gb252)); have GE252 := Aside0.mk ((by rw [hg]; exact (below_size (bz1 HB.out GE251.out)) : w.heap.size <= gb252)); replace HB := Aside0.mk (below_step (bz1 HB.out GE251.out) hb); have NB251_252 := Aside0.mk ((by rw [hg]; exact Nat.ne_of_lt (blk_lt (g := gb251) (o := .cells #[.int .i64 a0_0, .int .i64 a0_1] 100 (0, 0)) (kz BK251.out)) : gb251 ≠ gb252)); have NB252_251 := Aside0.mk ((by rw [hg]; exact Nat.ne_of_gt (blk_lt (g := gb251) (o := .cells #[.int .i64 a0_0, .int .i64 a0_1] 100 (0, 0)) (kz BK251.out)) : gb252 ≠ gb251)); replace BK251 := Aside0.mk (blk_below (kz BK251.out) hb); clear hb hbox hg; have hnb7 := NB251_252.out; have hnc7 := NB252_251.out; obtain ⟨hcz8_0, hcz8_1⟩ := cz2 BK251.out; obtain ⟨hfz8_0, hfz8_1⟩ := fz2 BK251.out; obtain ⟨hcz9_0, hcz9_1⟩ := cz2 BK252.out; obtain ⟨hfz9_0, hfz9_1⟩ := fz2 BK252.out))
   go_ret
   exact ⟨gz, (bz2 HB.out GE251.out GE252.out)⟩
  ·rw [if_neg c4] at H
   have c4b0 : (a0_1 == a1_1) = false := beq_eq_false_iff_ne.mpr c4
   have c4b1 : (a0_1 != a1_1) = true := bne_iff_ne.mpr c4
   obtain rfl := Option.some.inj H
   go_enter Try.func58, Try.ntmps58
   go_wp2_with (first | ((with_reducible refine gate_dst (N := 2) rfl ?_); refine box_event ?hg (N := 2) ?hd (cs := #[.int .i64 a0_0, .int .i64 a0_1]) (t := 100) ?hr ?_; (case hd => rfl); (case hg => rfl); (case hr => exact vz); intro gb251 hg w10 hbox hb; have BK251 := Aside0.mk (hbox); have GW251 := Aside0.mk ((by rw [hg]; exact (below_size (bz0 HB.out)) : w.heap.size <= gb251)); have GE251 := Aside0.mk ((by rw [hg]; exact (below_size (bz0 HB.out)) : w.heap.size <= gb251)); replace HB := Aside0.mk (below_step (bz0 HB.out) hb); clear hb hbox hg) | ((with_reducible refine gate_dst (N := 3) rfl ?_); refine box_event ?hg (N := 3) ?hd (cs := #[.int .i64 a1_0, .int .i64 a1_1]) (t := 100) ?hr ?_; (case hd => rfl); (case hg => rfl); (case hr => exact vz); intro gb252 hg w11 hbox hb; have BK252 := Aside0.mk (hbox); have GW252 := Aside0.mk ((by rw [hg]; exact (below_size (bz1 HB.out GE251.out)) : w.heap.size <= gb252)); have GE252 := Aside0.mk ((by rw [hg]; exact (below_size (bz1 HB.out GE251.out)) : w.heap.size <= gb252)); replace HB := Aside0.mk (below_step (bz1 HB.out GE251.out) hb); have NB251_252 := Aside0.mk ((by rw [hg]; exact Nat.ne_of_lt (blk_lt (g := gb251) (o := .cells #[.int .i64 a0_0, .int .i64 a0_1] 100 (0, 0)) (kz BK251.out)) : gb251 ≠ gb252)); have NB252_251 := Aside0.mk ((by rw [hg]; exact Nat.ne_of_gt (blk_lt (g := gb251) (o := .cells #[.int .i64 a0_0, .int .i64 a0_1] 100 (0, 0)) (kz BK251.out)) : gb252 ≠ gb251)); replace BK251 := Aside0.mk (blk_below (kz BK251.out) hb); clear hb hbox hg; have hnb12 := NB251_252.out; have hnc12 := NB252_251.out; obtain ⟨hcz13_0, hcz13_1⟩ := cz2 BK251.out; obtain ⟨hfz13_0, hfz13_1⟩ := fz2 BK251.out; obtain ⟨hcz14_0, hcz14_1⟩ := cz2 BK252.out; obtain ⟨hfz14_0, hfz14_1⟩ := fz2 BK252.out))
   go_ret
   exact ⟨gz, (bz2 HB.out GE251.out GE252.out)⟩
 ·rw [if_neg c3] at H
  have c3b0 : (a0_0 == a1_0) = false := beq_eq_false_iff_ne.mpr c3
  have c3b1 : (a0_0 != a1_0) = true := bne_iff_ne.mpr c3
  obtain rfl := Option.some.inj H
  go_enter Try.func58, Try.ntmps58
  go_wp2_with (first | ((with_reducible refine gate_dst (N := 2) rfl ?_); refine box_event ?hg (N := 2) ?hd (cs := #[.int .i64 a0_0, .int .i64 a0_1]) (t := 100) ?hr ?_; (case hd => rfl); (case hg => rfl); (case hr => exact vz); intro gb251 hg w15 hbox hb; have BK251 := Aside0.mk (hbox); have GW251 := Aside0.mk ((by rw [hg]; exact (below_size (bz0 HB.out)) : w.heap.size <= gb251)); have GE251 := Aside0.mk ((by rw [hg]; exact (below_size (bz0 HB.out)) : w.heap.size <= gb251)); replace HB := Aside0.mk (below_step (bz0 HB.out) hb); clear hb hbox hg) | ((with_reducible refine gate_dst (N := 3) rfl ?_); refine box_event ?hg (N := 3) ?hd (cs := #[.int .i64 a1_0, .int .i64 a1_1]) (t := 100) ?hr ?_; (case hd => rfl); (case hg => rfl); (case hr => exact vz); intro gb252 hg w16 hbox hb; have BK252 := Aside0.mk (hbox); have GW252 := Aside0.mk ((by rw [hg]; exact (below_size (bz1 HB.out GE251.out)) : w.heap.size <= gb252)); have GE252 := Aside0.mk ((by rw [hg]; exact (below_size (bz1 HB.out GE251.out)) : w.heap.size <= gb252)); replace HB := Aside0.mk (below_step (bz1 HB.out GE251.out) hb); have NB251_252 := Aside0.mk ((by rw [hg]; exact Nat.ne_of_lt (blk_lt (g := gb251) (o := .cells #[.int .i64 a0_0, .int .i64 a0_1] 100 (0, 0)) (kz BK251.out)) : gb251 ≠ gb252)); have NB252_251 := Aside0.mk ((by rw [hg]; exact Nat.ne_of_gt (blk_lt (g := gb251) (o := .cells #[.int .i64 a0_0, .int .i64 a0_1] 100 (0, 0)) (kz BK251.out)) : gb252 ≠ gb251)); replace BK251 := Aside0.mk (blk_below (kz BK251.out) hb); clear hb hbox hg; have hnb17 := NB251_252.out; have hnc17 := NB252_251.out; obtain ⟨hcz18_0, hcz18_1⟩ := cz2 BK251.out; obtain ⟨hfz18_0, hfz18_1⟩ := fz2 BK251.out; obtain ⟨hcz19_0, hcz19_1⟩ := cz2 BK252.out; obtain ⟨hfz19_0, hfz19_1⟩ := fz2 BK252.out))
  go_ret
  exact ⟨gz, (bz2 HB.out GE251.out GE252.out)⟩
end Go.Proofs.Ytlhofeikcaejpaa.PFnExactLookUp
