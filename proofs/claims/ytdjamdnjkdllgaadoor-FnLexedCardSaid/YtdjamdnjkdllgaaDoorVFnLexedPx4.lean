/- PFnLexedx4, of the words and walks that the law FnLexed needs; made by this session's program out of printed texts. -/

import Derived.Test.YtdjamdnjkdllgaaDoorVFnLexedPx0
import Derived.Test.YtdjamdnjkdllgaaDoorVFnLexedPx2
import Derived.Test.YtdjamdnjkdllgaaDoorVFnLexedPx3
namespace Go.Proofs.YtdjamdnjkdllgaaDoor.PFnLexed
open Go.RowKit Go.Proofs.YtdjamdnjkdllgaaDoorW.PrintWords Go.Proofs.YtdjamdnjkdllgaaDoorW.PrintLast Go.Proofs.YtdjamdnjkdllgaaDoorW.PrintMore
attribute [local go_sem] max2_int min2_int max_two min_two max_three min_three max_four min_four
set_option linter.unusedVariables false
set_option linter.unusedSimpArgs false
mutual
def impl_tokenAt.j0 : Nat -> ByteArray -> Int -> Int -> Bool -> Int -> ByteArray -> Int -> Int -> Option (Int × ByteArray × Int × Int × Bool)
 | 0, _, _, _, _, _, _, _, _ => none
 | k + 1, x0, x1, x6, x27, x151000, x151001, x151002, x151003 => if x27 = true then ((impl_runOf.f k x0 x1 97 122).bind fun t151 => (if 0 <= x1 then (if x1 <= t151 then (if t151 <= (x0.size : Int) then ((impl_IsWord.f k (x0.extract (x1 : Int).toNat (t151 : Int).toNat)).bind fun t152 => (some (3, x0.extract (x1 : Int).toNat (t151 : Int).toNat, x151002, x151003, t152))) else (none)) else (none)) else (none))) else (if x6 ≥ 48 then (impl_tokenAt.j1 k x0 x1 (decide (x6 <= 57)) x151000 x151001 x151002 x151003) else (impl_tokenAt.j1 k x0 x1 false x151000 x151001 x151002 x151003))
def impl_tokenAt.j1 : Nat -> ByteArray -> Int -> Bool -> Int -> ByteArray -> Int -> Int -> Option (Int × ByteArray × Int × Int × Bool)
 | 0, _, _, _, _, _, _, _ => none
 | k + 1, x0, x1, x45, x151000, x151001, x151002, x151003 => if x45 = true then ((impl_runOf.f k x0 x1 48 57).bind fun t153 => (if 0 <= x1 then (if x1 <= t153 then (if t153 <= (x0.size : Int) then ((impl_ReadDec.f (x0.extract (x1 : Int).toNat (t153 : Int).toNat)).bind fun bt154 => (if bt154.2 = true then (some (4, x0.extract (x1 : Int).toNat (t153 : Int).toNat, bt154.1, x151003, decide (bt154.1 <= 65535))) else (some (4, x0.extract (x1 : Int).toNat (t153 : Int).toNat, bt154.1, x151003, false)))) else (none)) else (none)) else (none))) else (some (x151000, x151001, x151002, x151003, false))
end
def impl_tokenAt.f (k : Nat) (a0 : ByteArray) (a1 : Int) : Option (Int × ByteArray × Int × Int × Bool) := if 0 <= a1 then (if a1 < (a0.size : Int) then (if a1 <= (wrap64 (a1 + 1)) then (if (wrap64 (a1 + 1)) <= (a0.size : Int) then (if (bt a0 a1) = 40 then (some (1, a0.extract (a1 : Int).toNat ((wrap64 (a1 + 1)) : Int).toNat, 0, a1, true)) else (if (bt a0 a1) = 41 then (some (2, a0.extract (a1 : Int).toNat ((wrap64 (a1 + 1)) : Int).toNat, 0, a1, true)) else (if (bt a0 a1) ≥ 97 then (impl_tokenAt.j0 k a0 a1 (bt a0 a1) (decide ((bt a0 a1) <= 122)) 0 (a0.extract (a1 : Int).toNat ((wrap64 (a1 + 1)) : Int).toNat) 0 a1) else (impl_tokenAt.j0 k a0 a1 (bt a0 a1) false 0 (a0.extract (a1 : Int).toNat ((wrap64 (a1 + 1)) : Int).toNat) 0 a1)))) else (none)) else (none)) else (none)) else (none)
theorem impl_tokenAt.mono_l : ∀ k, (∀ y0 y1 y2 y3 y4 y5 y6 y7, LeO (impl_tokenAt.j0 k y0 y1 y2 y3 y4 y5 y6 y7) (impl_tokenAt.j0 (k + 1) y0 y1 y2 y3 y4 y5 y6 y7)) /\ (∀ y0 y1 y2 y3 y4 y5 y6, LeO (impl_tokenAt.j1 k y0 y1 y2 y3 y4 y5 y6) (impl_tokenAt.j1 (k + 1) y0 y1 y2 y3 y4 y5 y6))
 | 0 => ⟨fun _ _ _ _ _ _ _ _ r h => by simp [impl_tokenAt.j0] at h, fun _ _ _ _ _ _ _ r h => by simp [impl_tokenAt.j1] at h⟩
 | k + 1 => by
  obtain ⟨ih0, ih1⟩ := impl_tokenAt.mono_l k
  refine ⟨?_, ?_⟩
  ·intro y0 y1 y2 y3 y4 y5 y6 y7
   unfold impl_tokenAt.j0
   with_reducible repeat' first | exact ih0 _ _ _ _ _ _ _ _ | exact ih1 _ _ _ _ _ _ _ | exact impl_IsWord.mono _ _ | exact impl_runOf.mono _ _ _ _ _ | exact lrz _ | exact lnz _ | refine liz ?_ ?_ | refine lbz ?_ fun _ => ?_
  ·intro y0 y1 y2 y3 y4 y5 y6
   unfold impl_tokenAt.j1
   with_reducible repeat' first | exact ih0 _ _ _ _ _ _ _ _ | exact ih1 _ _ _ _ _ _ _ | exact impl_IsWord.mono _ _ | exact impl_runOf.mono _ _ _ _ _ | exact lrz _ | exact lnz _ | refine liz ?_ ?_ | refine lbz ?_ fun _ => ?_
theorem impl_tokenAt.mono : ∀ a0 a1 k, LeO (impl_tokenAt.f k a0 a1) (impl_tokenAt.f (k + 1) a0 a1) := by
 intro a0 a1 k
 obtain ⟨ih0, ih1⟩ := impl_tokenAt.mono_l k
 unfold impl_tokenAt.f
 with_reducible repeat' first | exact ih0 _ _ _ _ _ _ _ _ | exact ih1 _ _ _ _ _ _ _ | exact impl_IsWord.mono _ _ | exact impl_runOf.mono _ _ _ _ _ | exact lrz _ | exact lnz _ | refine liz ?_ ?_ | refine lbz ?_ fun _ => ?_
def impl_tokenAt.T10 : Bool × List (List Nat × List Nat) := (true, [([], []), ([], []), ([], []), ([], []), ([2, 3], [2, 3]), ([0, 1, 4], [0, 1, 4]), ([], []), ([6, 4], [6]), ([0, 1, 2, 3, 4, 5, 6, 7], []), ([8, 5, 7, 0, 1, 2, 3, 4, 5, 6, 7], [5, 8])])
def impl_tokenAt.B10 : List Nat := [0, 0, 0, 0, 12, 31, 0, 92, 255, 511]
theorem impl_tokenAt.tab10 : rtab .any (opsOf Tryd.f43 10) = impl_tokenAt.T10 := by kernel_rfl
theorem impl_tokenAt.bits10 : waitsOk impl_tokenAt.T10.2 impl_tokenAt.B10 = true := by kernel_rfl
def impl_tokenAt.T13 : Bool × List (List Nat × List Nat) := (true, [([], []), ([], []), ([], []), ([], []), ([2, 3], [2, 3]), ([0, 1, 4], [0, 1, 4]), ([], []), ([6, 4], [6]), ([0, 1, 2, 3, 4, 5, 6, 7], []), ([8, 5, 7, 0, 1, 2, 3, 4, 5, 6, 7], [5, 8])])
def impl_tokenAt.B13 : List Nat := [0, 0, 0, 0, 12, 31, 0, 92, 255, 511]
theorem impl_tokenAt.tab13 : rtab .any (opsOf Tryd.f43 13) = impl_tokenAt.T13 := by kernel_rfl
theorem impl_tokenAt.bits13 : waitsOk impl_tokenAt.T13.2 impl_tokenAt.B13 = true := by kernel_rfl
set_option maxHeartbeats 8000000 in
set_option maxRecDepth 100000 in
theorem impl_tokenAt.calls (k : Nat) (a0 : ByteArray) (a1 : Int) (r1 : Int) (r2 : ByteArray) (r3 : Int) (r4 : Int) (r5 : Bool) (w : World) (h : impl_tokenAt.f k a0 a1 = some (r1, r2, r3, r4, r5)) (hT_ : PW w) :
  Calls Tryd.prog 43 #[.string a0, .int .i64 a1] w fun e w' => e = .returned (.tuple #[.agg #[.int .i64 r1, .string r2, .int .i64 r3, .int .i64 r4], .bool r5]) /\ Below w.heap.size w w' := by
 have hu43 := Tryd.underlying43
 have HB := Aside0.mk (Below.refl w.heap.size w)
 have H : (if 0 <= a1 then (if a1 < (a0.size : Int) then (if a1 <= (wrap64 (a1 + 1)) then (if (wrap64 (a1 + 1)) <= (a0.size : Int) then (if (bt a0 a1) = 40 then (some (1, a0.extract (a1 : Int).toNat ((wrap64 (a1 + 1)) : Int).toNat, 0, a1, true)) else (if (bt a0 a1) = 41 then (some (2, a0.extract (a1 : Int).toNat ((wrap64 (a1 + 1)) : Int).toNat, 0, a1, true)) else (if (bt a0 a1) ≥ 97 then (impl_tokenAt.j0 k a0 a1 (bt a0 a1) (decide ((bt a0 a1) <= 122)) 0 (a0.extract (a1 : Int).toNat ((wrap64 (a1 + 1)) : Int).toNat) 0 a1) else (impl_tokenAt.j0 k a0 a1 (bt a0 a1) false 0 (a0.extract (a1 : Int).toNat ((wrap64 (a1 + 1)) : Int).toNat) 0 a1)))) else (none)) else (none)) else (none)) else (none)) = some (r1, r2, r3, r4, r5) := h
 clear h
 replace H := iz H
 obtain ⟨c3, H⟩ := H
 have c3b0 := decide_eq_true c3
 clear c3
 replace H := iz H
 obtain ⟨c4, H⟩ := H
 have c4b0 := decide_eq_true c4
 clear c4
 have c6b0 := eq_true (of_decide_eq_true az : 0 <= a1)
 replace H := iz H
 obtain ⟨c7, H⟩ := H
 have c7b0 := eq_true c7
 have c7b1 : decide (a1 <= (wrap64 (a1 + 1))) = true := decide_eq_true c7
 replace H := iz H
 obtain ⟨c8, H⟩ := H
 have c8b0 := eq_true c8
 have c8b1 : decide ((wrap64 (a1 + 1)) <= (a0.size : Int)) = true := decide_eq_true c8
 by_cases c9 : (bt a0 a1) = 40
 ·rw [if_pos c9] at H
  have c9b0 : ((bt a0 a1) == 40) = true := beq_iff_eq.mpr c9
  have c9b1 : ((bt a0 a1) != 40) = false := bne_eq_false_iff_eq.mpr c9
  clear c9
  simp only [Option.some.injEq, Prod.mk.injEq] at H
  obtain ⟨rfl, rfl, rfl, rfl, rfl⟩ := H
  go_enter Tryd.func43, Tryd.ntmps43
  go_wp2_with (first | ((with_reducible refine gate_dst (N := 4) rfl ?_); refine box_event ?hg (N := 4) ?hd (cs := #[.int .i64 0, .string (⟨#[]⟩ : ByteArray), .int .i64 0, .int .i64 0]) (t := 43) ?hr ?_; (case hd => rfl); (case hg => rfl); (case hr => exact vz); intro gb149 hg w10 hbox hb; have BK149 := Aside0.mk (hbox); have GW149 := Aside0.mk ((by rw [hg]; exact (below_size (bz0 HB.out)) : w.heap.size <= gb149)); have GE149 := GW149; replace HB := Aside0.mk (below_step (bz0 HB.out) hb); clear hb hbox hg; have p5 : 0 <= (a1 : Int) := oz; have q5 : a1 < (a0.size : Int) := oz; have hx5 := bt_at a0 a1; replace p5 := eq_true p5; replace q5 := eq_true q5) | ((with_reducible refine gate_dst (N := 7) rfl ?_); refine box_event ?hg (N := 7) ?hd (cs := #[.int .i64 0, .string (⟨#[]⟩ : ByteArray), .int .i64 0, .int .i64 0]) (t := 43) ?hr ?_; (case hd => rfl); (case hg => rfl); (case hr => exact vz); intro gb150 hg w11 hbox hb; have BK150 := Aside0.mk (hbox); have GW150 := Aside0.mk ((by rw [hg]; exact (below_size (bz1 HB.out GE149.out)) : w.heap.size <= gb150)); have GE150 := GW150; replace HB := Aside0.mk (below_step (bz1 HB.out GE149.out) hb); have NB149_150 := Aside0.mk ((by rw [hg]; exact Nat.ne_of_lt (blk_lt (kz BK149.out)) : gb149 ≠ gb150)); have NB150_149 := Aside0.mk ((by rw [hg]; exact Nat.ne_of_gt (blk_lt (kz BK149.out)) : gb150 ≠ gb149)); replace BK149 := Aside0.mk (blk_below (kz BK149.out) hb); clear hb hbox hg; have hnb12 := NB150_149.out; have hnc12 := NB149_150.out; obtain ⟨hcz13_0, hcz13_1, hcz13_2, hcz13_3⟩ := cz4 BK150.out; obtain ⟨hfz13_0, hfz13_1, hfz13_2, hfz13_3⟩ := fz4 BK150.out; obtain ⟨hcz14_0, hcz14_1, hcz14_2, hcz14_3⟩ := cz4 BK149.out; obtain ⟨hfz14_0, hfz14_1, hfz14_2, hfz14_3⟩ := fz4 BK149.out))
  refine bodyPost_ret (results_ct rfl _ _ gb149 43 #[.int .i64 1, .string (a0.extract (a1 : Int).toNat ((wrap64 (a1 + 1)) : Int).toNat), .int .i64 0, .int .i64 a1] (0, 0) _ rfl (by refine kq ?_; refine blk_put (cs := #[.int .i64 1, .string (a0.extract (a1 : Int).toNat ((wrap64 (a1 + 1)) : Int).toNat), .int .i64 0, .int .i64 0]) ?_ 3 _ rfl; refine kq ?_; refine blk_put (cs := #[.int .i64 1, .string (a0.extract (a1 : Int).toNat ((wrap64 (a1 + 1)) : Int).toNat), .int .i64 0, .int .i64 0]) ?_ 2 _ rfl; refine kq ?_; refine blk_put (cs := #[.int .i64 1, .string (⟨#[]⟩ : ByteArray), .int .i64 0, .int .i64 0]) ?_ 1 _ rfl; refine kq ?_; refine blk_put (cs := #[.int .i64 0, .string (⟨#[]⟩ : ByteArray), .int .i64 0, .int .i64 0]) ?_ 0 _ rfl; refine kq ?_; refine blk_far ?_ NB149_150.out _; refine kq ?_; refine blk_far ?_ NB149_150.out _; refine kq ?_; refine blk_far ?_ NB149_150.out _; refine kq ?_; refine blk_far ?_ NB149_150.out _; refine kq ?_; refine blk_far ?_ NB149_150.out _; refine kq ?_; exact BK149.out) Tryd.underlying43 rfl (by kernel_rfl)) rfl ?_
  exact ⟨gz, (bz2 HB.out GE149.out GE150.out)⟩
 ·rw [if_neg c9] at H
  have c9b0 : ((bt a0 a1) == 40) = false := beq_eq_false_iff_ne.mpr c9
  have c9b1 : ((bt a0 a1) != 40) = true := bne_iff_ne.mpr c9
  by_cases c15 : (bt a0 a1) = 41
  ·rw [if_pos c15] at H
   have c15b0 : ((bt a0 a1) == 41) = true := beq_iff_eq.mpr c15
   have c15b1 : ((bt a0 a1) != 41) = false := bne_eq_false_iff_eq.mpr c15
   clear c15
   simp only [Option.some.injEq, Prod.mk.injEq] at H
   obtain ⟨rfl, rfl, rfl, rfl, rfl⟩ := H
   go_enter Tryd.func43, Tryd.ntmps43
   go_wp2_with (first | ((with_reducible refine gate_dst (N := 4) rfl ?_); refine box_event ?hg (N := 4) ?hd (cs := #[.int .i64 0, .string (⟨#[]⟩ : ByteArray), .int .i64 0, .int .i64 0]) (t := 43) ?hr ?_; (case hd => rfl); (case hg => rfl); (case hr => exact vz); intro gb149 hg w16 hbox hb; have BK149 := Aside0.mk (hbox); have GW149 := Aside0.mk ((by rw [hg]; exact (below_size (bz0 HB.out)) : w.heap.size <= gb149)); have GE149 := GW149; replace HB := Aside0.mk (below_step (bz0 HB.out) hb); clear hb hbox hg; have p5 : 0 <= (a1 : Int) := oz; have q5 : a1 < (a0.size : Int) := oz; have hx5 := bt_at a0 a1; replace p5 := eq_true p5; replace q5 := eq_true q5) | ((with_reducible refine gate_dst (N := 7) rfl ?_); refine box_event ?hg (N := 7) ?hd (cs := #[.int .i64 0, .string (⟨#[]⟩ : ByteArray), .int .i64 0, .int .i64 0]) (t := 43) ?hr ?_; (case hd => rfl); (case hg => rfl); (case hr => exact vz); intro gb150 hg w17 hbox hb; have BK150 := Aside0.mk (hbox); have GW150 := Aside0.mk ((by rw [hg]; exact (below_size (bz1 HB.out GE149.out)) : w.heap.size <= gb150)); have GE150 := GW150; replace HB := Aside0.mk (below_step (bz1 HB.out GE149.out) hb); have NB149_150 := Aside0.mk ((by rw [hg]; exact Nat.ne_of_lt (blk_lt (kz BK149.out)) : gb149 ≠ gb150)); have NB150_149 := Aside0.mk ((by rw [hg]; exact Nat.ne_of_gt (blk_lt (kz BK149.out)) : gb150 ≠ gb149)); replace BK149 := Aside0.mk (blk_below (kz BK149.out) hb); clear hb hbox hg; have hnb18 := NB150_149.out; have hnc18 := NB149_150.out; obtain ⟨hcz19_0, hcz19_1, hcz19_2, hcz19_3⟩ := cz4 BK150.out; obtain ⟨hfz19_0, hfz19_1, hfz19_2, hfz19_3⟩ := fz4 BK150.out; obtain ⟨hcz20_0, hcz20_1, hcz20_2, hcz20_3⟩ := cz4 BK149.out; obtain ⟨hfz20_0, hfz20_1, hfz20_2, hfz20_3⟩ := fz4 BK149.out))
   refine bodyPost_ret (results_ct rfl _ _ gb149 43 #[.int .i64 2, .string (a0.extract (a1 : Int).toNat ((wrap64 (a1 + 1)) : Int).toNat), .int .i64 0, .int .i64 a1] (0, 0) _ rfl (by refine kq ?_; refine blk_put (cs := #[.int .i64 2, .string (a0.extract (a1 : Int).toNat ((wrap64 (a1 + 1)) : Int).toNat), .int .i64 0, .int .i64 0]) ?_ 3 _ rfl; refine kq ?_; refine blk_put (cs := #[.int .i64 2, .string (a0.extract (a1 : Int).toNat ((wrap64 (a1 + 1)) : Int).toNat), .int .i64 0, .int .i64 0]) ?_ 2 _ rfl; refine kq ?_; refine blk_put (cs := #[.int .i64 2, .string (⟨#[]⟩ : ByteArray), .int .i64 0, .int .i64 0]) ?_ 1 _ rfl; refine kq ?_; refine blk_put (cs := #[.int .i64 0, .string (⟨#[]⟩ : ByteArray), .int .i64 0, .int .i64 0]) ?_ 0 _ rfl; refine kq ?_; refine blk_far ?_ NB149_150.out _; refine kq ?_; refine blk_far ?_ NB149_150.out _; refine kq ?_; refine blk_far ?_ NB149_150.out _; refine kq ?_; refine blk_far ?_ NB149_150.out _; refine kq ?_; refine blk_far ?_ NB149_150.out _; refine kq ?_; exact BK149.out) Tryd.underlying43 rfl (by kernel_rfl)) rfl ?_
   exact ⟨gz, (bz2 HB.out GE149.out GE150.out)⟩
  ·rw [if_neg c15] at H
   have c15b0 : ((bt a0 a1) == 41) = false := beq_eq_false_iff_ne.mpr c15
   have c15b1 : ((bt a0 a1) != 41) = true := bne_iff_ne.mpr c15
   have HC21 := Aside0.mk H
   clear H
   go_enter Tryd.func43, Tryd.ntmps43
   go_upto_region 9 with (first | ((with_reducible refine gate_dst (N := 4) rfl ?_); refine box_event ?hg (N := 4) ?hd (cs := #[.int .i64 0, .string (⟨#[]⟩ : ByteArray), .int .i64 0, .int .i64 0]) (t := 43) ?hr ?_; (case hd => rfl); (case hg => rfl); (case hr => exact vz); intro gb149 hg w22 hbox hb; have BK149 := Aside0.mk (hbox); have GW149 := Aside0.mk ((by rw [hg]; exact (below_size (bz0 HB.out)) : w.heap.size <= gb149)); have GE149 := GW149; replace HB := Aside0.mk (below_step (bz0 HB.out) hb); clear hb hbox hg; have p5 : 0 <= (a1 : Int) := oz; have q5 : a1 < (a0.size : Int) := oz; have hx5 := bt_at a0 a1; replace p5 := eq_true p5; replace q5 := eq_true q5) | ((with_reducible refine gate_dst (N := 7) rfl ?_); refine box_event ?hg (N := 7) ?hd (cs := #[.int .i64 0, .string (⟨#[]⟩ : ByteArray), .int .i64 0, .int .i64 0]) (t := 43) ?hr ?_; (case hd => rfl); (case hg => rfl); (case hr => exact vz); intro gb150 hg w23 hbox hb; have BK150 := Aside0.mk (hbox); have GW150 := Aside0.mk ((by rw [hg]; exact (below_size (bz1 HB.out GE149.out)) : w.heap.size <= gb150)); have GE150 := GW150; replace HB := Aside0.mk (below_step (bz1 HB.out GE149.out) hb); have NB149_150 := Aside0.mk ((by rw [hg]; exact Nat.ne_of_lt (blk_lt (kz BK149.out)) : gb149 ≠ gb150)); have NB150_149 := Aside0.mk ((by rw [hg]; exact Nat.ne_of_gt (blk_lt (kz BK149.out)) : gb150 ≠ gb149)); replace BK149 := Aside0.mk (blk_below (kz BK149.out) hb); clear hb hbox hg; have hnb24 := NB150_149.out; have hnc24 := NB149_150.out; obtain ⟨hcz25_0, hcz25_1, hcz25_2, hcz25_3⟩ := cz4 BK150.out; obtain ⟨hfz25_0, hfz25_1, hfz25_2, hfz25_3⟩ := fz4 BK150.out))
   (try simp only [Act.put, sz1, sz2, sz3])
   go_cut [27] (fun v27 wc => ∃ (kq : Nat) (x27_20 : Bool), v27 = .bool x27_20 /\ Aside0 (impl_tokenAt.j0 kq a0 a1 (bt a0 a1) x27_20 0 (a0.extract (a1 : Int).toNat ((wrap64 (a1 + 1)) : Int).toNat) 0 a1 = some (r1, r2, r3, r4, r5)) /\ Aside0 (kq <= k) /\ Aside0 (wc.heap[gb149]? = some (.cells #[.int .i64 0, .string (⟨#[]⟩ : ByteArray), .int .i64 0, .int .i64 0] 43 (0, 0))) /\ Aside0 (wc.heap[gb150]? = some (.cells #[.int .i64 0, .string (a0.extract (a1 : Int).toNat ((wrap64 (a1 + 1)) : Int).toNat), .int .i64 0, .int .i64 a1] 43 (0, 0))) /\ Aside0 (Below w.heap.size w wc))
   case first =>
    have H := HC21.out
    clear HC21
    by_cases c26 : (bt a0 a1) ≥ 97
    ·rw [if_pos c26] at H
     have c26b0 : decide (97 <= (bt a0 a1)) = true := decide_eq_true c26
     clear c26
     (first | rw [c26b0] | (simp only [i64_w, i32_w]; rw [c26b0]) | skip)
     have H' := Aside0.mk H
     clear H
     go_wp2
     go_meet
     case rel => exact ⟨_, (decide ((bt a0 a1) <= 122)), ez, H', ⟨by first | omega | exact Nat.le_refl _⟩, ⟨by refine kq ?_; refine blk_far ?_ NB149_150.out _; refine kq ?_; refine blk_far ?_ NB149_150.out _; refine kq ?_; refine blk_far ?_ NB149_150.out _; refine kq ?_; refine blk_far ?_ NB149_150.out _; refine kq ?_; exact BK149.out⟩, ⟨by refine kq ?_; refine blk_put (cs := #[.int .i64 0, .string (a0.extract (a1 : Int).toNat ((wrap64 (a1 + 1)) : Int).toNat), .int .i64 0, .int .i64 0]) ?_ 3 _ rfl; refine kq ?_; refine blk_put (cs := #[.int .i64 0, .string (a0.extract (a1 : Int).toNat ((wrap64 (a1 + 1)) : Int).toNat), .int .i64 0, .int .i64 0]) ?_ 2 _ rfl; refine kq ?_; refine blk_put (cs := #[.int .i64 0, .string (⟨#[]⟩ : ByteArray), .int .i64 0, .int .i64 0]) ?_ 1 _ rfl; refine kq ?_; refine blk_put (cs := #[.int .i64 0, .string (⟨#[]⟩ : ByteArray), .int .i64 0, .int .i64 0]) ?_ 0 _ rfl; refine kq ?_; exact BK150.out⟩, ⟨(bz2 HB.out GE149.out GE150.out)⟩⟩
    ·rw [if_neg c26] at H
     have c26b0 : decide (97 <= (bt a0 a1)) = false := decide_eq_false c26
     clear c26
     (first | rw [c26b0] | (simp only [i64_w, i32_w]; rw [c26b0]) | skip)
     have H' := Aside0.mk H
     clear H
     go_wp2
     go_meet
     case rel => exact ⟨_, (false), ez, H', ⟨by first | omega | exact Nat.le_refl _⟩, ⟨by refine kq ?_; refine blk_far ?_ NB149_150.out _; refine kq ?_; refine blk_far ?_ NB149_150.out _; refine kq ?_; refine blk_far ?_ NB149_150.out _; refine kq ?_; refine blk_far ?_ NB149_150.out _; refine kq ?_; exact BK149.out⟩, ⟨by refine kq ?_; refine blk_put (cs := #[.int .i64 0, .string (a0.extract (a1 : Int).toNat ((wrap64 (a1 + 1)) : Int).toNat), .int .i64 0, .int .i64 0]) ?_ 3 _ rfl; refine kq ?_; refine blk_put (cs := #[.int .i64 0, .string (a0.extract (a1 : Int).toNat ((wrap64 (a1 + 1)) : Int).toNat), .int .i64 0, .int .i64 0]) ?_ 2 _ rfl; refine kq ?_; refine blk_put (cs := #[.int .i64 0, .string (⟨#[]⟩ : ByteArray), .int .i64 0, .int .i64 0]) ?_ 1 _ rfl; refine kq ?_; refine blk_put (cs := #[.int .i64 0, .string (⟨#[]⟩ : ByteArray), .int .i64 0, .int .i64 0]) ?_ 0 _ rfl; refine kq ?_; exact BK150.out⟩, ⟨(bz2 HB.out GE149.out GE150.out)⟩⟩
   case rest =>
    clear HC21
    try clear c1
    try clear c2
    try clear p2
    try clear c3
    try clear c3b0
    try clear c4
    try clear c4b0
    try clear p5
    try clear q5
    try clear hx5
    try clear c6
    try clear c6b0
    try clear p6
    try clear c7
    try clear c7b0
    try clear c7b1
    try clear c8
    try clear c8b0
    try clear c8b1
    try clear c9
    try clear c9b0
    try clear c9b1
    try clear c12
    try clear c15
    try clear c15b0
    try clear c15b1
    try clear c18
    try clear c24
    try clear c26
    try clear c26b0
    try clear hcz13_0 hcz13_1 hcz13_2 hcz13_3
    try clear hcz14_0 hcz14_1 hcz14_2 hcz14_3
    try clear hcz19_0 hcz19_1 hcz19_2 hcz19_3
    try clear hcz20_0 hcz20_1 hcz20_2 hcz20_3
    try clear hcz25_0 hcz25_1 hcz25_2 hcz25_3
    try clear hfz13_0 hfz13_1 hfz13_2 hfz13_3
    try clear hfz14_0 hfz14_1 hfz14_2 hfz14_3
    try clear hfz19_0 hfz19_1 hfz19_2 hfz19_3
    try clear hfz20_0 hfz20_1 hfz20_2 hfz20_3
    try clear hfz25_0 hfz25_1 hfz25_2 hfz25_3
    try clear p5
    try clear q5
    obtain ⟨kq, x27_20, rfl, HA, HJ20, BK149, BK150, HB⟩ := hcut
    cases kq with
    | zero => exact absurd HA.out (by simp [impl_tokenAt.j0])
    | succ kj20 =>
     have H := HA.out
     clear HA
     simp only [impl_tokenAt.j0] at H
     by_cases c27 : x27_20 = true
     ·subst c27
      have H1 := hp H
      clear H
      have H := H1
      clear H1
      replace H := bi H
      obtain ⟨t151, A280, H⟩ := H
      try dsimp only at H
      have A28 := Aside0.mk A280
      clear A280
      replace H := iz H
      obtain ⟨c29, H⟩ := H
      have c29b0 := eq_true c29
      have c29b1 : decide (0 <= a1) = true := decide_eq_true c29
      clear c29
      replace H := iz H
      obtain ⟨c30, H⟩ := H
      have c30b0 := eq_true c30
      have c30b1 : decide (a1 <= t151) = true := decide_eq_true c30
      clear c30
      replace H := iz H
      obtain ⟨c31, H⟩ := H
      have c31b0 := eq_true c31
      have c31b1 : decide (t151 <= (a0.size : Int)) = true := decide_eq_true c31
      clear c31
      replace H := bi H
      obtain ⟨t152, A320, H⟩ := H
      try dsimp only at H
      have A32 := Aside0.mk A320
      clear A320
      simp only [Option.some.injEq, Prod.mk.injEq] at H
      obtain ⟨rfl, rfl, rfl, rfl, rfl⟩ := H
      try go_wp2
      have n0_ := Aside0.mk (blk_drew BK149.out)
      have n1_ := Aside0.mk (blk_drew BK150.out)
      have n2_ := Aside0.mk (below_drew1 HB.out)
      clear BK149
      clear BK150
      clear HB
      have BK149 := n0_
      have BK150 := n1_
      have HB := n2_
      clear n0_ n1_ n2_
      refine start_ (n := 10) (S := fun w' => True) (ds := []) (mk_ 0 10) (by kernel_rfl) rfl rfl trivial (fun hHeld => ?_); refine with_tabW impl_tokenAt.tab10 impl_tokenAt.bits10 (fun HT_ HW_ => ?_)
      generalize wc.drew = w33 at BK149 BK150 HB hHeld ⊢
      refine pv 0 34 (mk_ 1 9) HT_ rfl rfl ?_
      refine pv 1 35 (mk_ 2 8) HT_ rfl rfl ?_
      refine pv 2 36 (mk_ 3 7) HT_ rfl rfl ?_
      refine pv 3 37 (mk_ 4 6) HT_ rfl rfl ?_
      refine pv 6 40 (bm_ 10 79) HT_ rfl rfl ?_
      refine one_ (i := 4) (N := some 38) (bm_ 10 95) rfl rfl (one_of HT_.out (by kernel_rfl)) (by decide) (fun K hK => ?_)
      refine goes_ Tryd.func56 (by kernel_rfl) rfl #[.string a0, .int .i64 a1, .int .u8 97, .int .u8 122] (by rfl) rfl rfl lz ?_
      with_reducible refine (impl_runOf.calls kj20 a0 a1 97 122 t151 _ A28.out).mono ?_
      rintro e w' ⟨rfl, ⟨nd, rfl⟩⟩
      refine ⟨_, rfl, ?_⟩
      refine hK.out _ _ trivial (fun hHeld => ?_)
      clear hK K
      refine norm_ (a' := ?_) ?_ ?_
      rotate_left
      ·show Act.put _ (some 38) _ = _
       simp only [Act.put, sz1, sz2, sz3, i64_w, i32_w]
       rfl
      refine pv 5 39 (mk_ 7 3) HT_ rfl rfl ?_
      refine one_ (i := 7) (N := none) (mk_ 8 2) rfl rfl (one_of HT_.out (by kernel_rfl)) (by decide) (fun K hK => ?_)
      have hs34 : w33.cell? ⟨gb150, 0, none⟩ = some (.int .i64 0) := (blk_cell BK150.out 0).trans rfl
      have hfs34 := blk_frozen BK150.out 0
      have hns34_0 := NB149_150.out
      have hms34_0 := NB150_149.out
      refine skip_ (w1 := ?_) (by rfl) rfl ?_ ?_
      rotate_left
      ·go_simp
       rfl
      refine hK.out _ _ trivial (fun hHeld => ?_)
      clear hK K
      refine pv 8 41 (mk_ 9 1) HT_ rfl rfl ?_
      refine one_ (i := 9) (N := none) (mk_ 10 0) rfl rfl (one_of HT_.out (by kernel_rfl)) (by decide) (fun K hK => ?_)
      have hs35 : w33.cell? ⟨gb150, 1, none⟩ = some (.string (a0.extract (a1 : Int).toNat ((wrap64 (a1 + 1)) : Int).toNat)) := (blk_cell BK150.out 1).trans rfl
      have hfs35 := blk_frozen BK150.out 1
      have hns35_0 := NB149_150.out
      have hms35_0 := NB150_149.out
      refine skip_ (w1 := ?_) (by rfl) rfl ?_ ?_
      rotate_left
      ·go_simp
       rfl
      refine hK.out _ _ trivial (fun hHeld => ?_)
      clear hK K
      refine done_ (done_of HT_.out (by kernel_rfl)) ?_
      have hnb36 := NB150_149.out
      have hnc36 := NB149_150.out
      obtain ⟨hcz37_0, hcz37_1, hcz37_2, hcz37_3⟩ := cz4 BK150.out
      obtain ⟨hfz37_0, hfz37_1, hfz37_2, hfz37_3⟩ := fz4 BK150.out
      try go_wp2_with (first | ((with_reducible refine gate_callee (f := 26) rfl ?_); refine goesL_ (some 44) rfl rfl Tryd.func26 (by kernel_rfl) rfl #[.string (a0.extract (a1 : Int).toNat (t151 : Int).toNat)] rfl lz ?_; (with_reducible refine (impl_IsWord.calls kj20 (a0.extract (a1 : Int).toNat (t151 : Int).toNat) t152 _ A32.out).mono ?_); rintro e w' ⟨rfl, ⟨nd, rfl⟩⟩; refine ⟨_, rfl, ?_⟩; obtain ⟨hcz38_0, hcz38_1, hcz38_2, hcz38_3⟩ := cz4 BK149.out; obtain ⟨hfz38_0, hfz38_1, hfz38_2, hfz38_3⟩ := fz4 BK149.out))
      refine bodyPost_ret (results_ct rfl _ _ gb149 43 #[.int .i64 3, .string (a0.extract (a1 : Int).toNat (t151 : Int).toNat), .int .i64 0, .int .i64 a1] (0, 0) _ rfl (by refine kq ?_; refine blk_put (cs := #[.int .i64 3, .string (a0.extract (a1 : Int).toNat (t151 : Int).toNat), .int .i64 0, .int .i64 0]) ?_ 3 _ rfl; refine kq ?_; refine blk_put (cs := #[.int .i64 3, .string (a0.extract (a1 : Int).toNat (t151 : Int).toNat), .int .i64 0, .int .i64 0]) ?_ 2 _ rfl; refine kq ?_; refine blk_put (cs := #[.int .i64 3, .string (⟨#[]⟩ : ByteArray), .int .i64 0, .int .i64 0]) ?_ 1 _ rfl; refine kq ?_; refine blk_put (cs := #[.int .i64 0, .string (⟨#[]⟩ : ByteArray), .int .i64 0, .int .i64 0]) ?_ 0 _ rfl; refine kq ?_; refine blk_far ?_ NB149_150.out _; refine kq ?_; refine blk_far ?_ NB149_150.out _; refine kq ?_; exact BK149.out) Tryd.underlying43 rfl (by kernel_rfl)) rfl ?_
      exact ⟨gz, (bz2 HB.out GE149.out GE150.out)⟩
     ·replace c27 := Bool.eq_false_iff.mpr c27
      subst c27
      have H1 := hq H
      clear H
      have H := H1
      clear H1
      have HC39 := Aside0.mk H
      clear H
      go_upto_region 12 with (fail)
      go_cut [45] (fun v45 wc => ∃ (kq : Nat) (x45_38 : Bool), v45 = .bool x45_38 /\ Aside0 (impl_tokenAt.j1 kq a0 a1 x45_38 0 (a0.extract (a1 : Int).toNat ((wrap64 (a1 + 1)) : Int).toNat) 0 a1 = some (r1, r2, r3, r4, r5)) /\ Aside0 (kq <= kj20) /\ Aside0 (wc.heap[gb149]? = some (.cells #[.int .i64 0, .string (⟨#[]⟩ : ByteArray), .int .i64 0, .int .i64 0] 43 (0, 0))) /\ Aside0 (wc.heap[gb150]? = some (.cells #[.int .i64 0, .string (a0.extract (a1 : Int).toNat ((wrap64 (a1 + 1)) : Int).toNat), .int .i64 0, .int .i64 a1] 43 (0, 0))) /\ Aside0 (Below w.heap.size w wc))
      case first =>
       have H := HC39.out
       clear HC39
       by_cases c40 : (bt a0 a1) ≥ 48
       ·rw [if_pos c40] at H
        have c40b0 : decide (48 <= (bt a0 a1)) = true := decide_eq_true c40
        clear c40
        (first | rw [c40b0] | (simp only [i64_w, i32_w]; rw [c40b0]) | skip)
        have H' := Aside0.mk H
        clear H
        go_wp2
        go_meet
        case rel => exact ⟨_, (decide ((bt a0 a1) <= 57)), ez, H', ⟨by have := HJ20.out; first | omega | exact Nat.le_refl _⟩, ⟨by refine kq ?_; exact BK149.out⟩, ⟨by refine kq ?_; exact BK150.out⟩, ⟨(bz2 HB.out GE149.out GE150.out)⟩⟩
       ·rw [if_neg c40] at H
        have c40b0 : decide (48 <= (bt a0 a1)) = false := decide_eq_false c40
        clear c40
        (first | rw [c40b0] | (simp only [i64_w, i32_w]; rw [c40b0]) | skip)
        have H' := Aside0.mk H
        clear H
        go_wp2
        go_meet
        case rel => exact ⟨_, (false), ez, H', ⟨by have := HJ20.out; first | omega | exact Nat.le_refl _⟩, ⟨by refine kq ?_; exact BK149.out⟩, ⟨by refine kq ?_; exact BK150.out⟩, ⟨(bz2 HB.out GE149.out GE150.out)⟩⟩
      case rest =>
       clear HC39
       try clear c1
       try clear c2
       try clear p2
       try clear c3
       try clear c3b0
       try clear c4
       try clear c4b0
       try clear c5
       try clear p5
       try clear q5
       try clear hx5
       try clear c6
       try clear c6b0
       try clear p6
       try clear c7
       try clear c7b0
       try clear c7b1
       try clear c8
       try clear c8b0
       try clear c8b1
       try clear c9
       try clear c9b0
       try clear c9b1
       try clear c12
       try clear c15
       try clear c15b0
       try clear c15b1
       try clear c18
       try clear c24
       try clear c26
       try clear c26b0
       try clear c27
       try clear c29
       try clear c29b0
       try clear c29b1
       try clear c30
       try clear c30b0
       try clear c30b1
       try clear c31
       try clear c31b0
       try clear c31b1
       try clear c36
       try clear c40
       try clear c40b0
       try clear hcz13_0 hcz13_1 hcz13_2 hcz13_3
       try clear hcz14_0 hcz14_1 hcz14_2 hcz14_3
       try clear hcz19_0 hcz19_1 hcz19_2 hcz19_3
       try clear hcz20_0 hcz20_1 hcz20_2 hcz20_3
       try clear hcz25_0 hcz25_1 hcz25_2 hcz25_3
       try clear hcz37_0 hcz37_1 hcz37_2 hcz37_3
       try clear hcz38_0 hcz38_1 hcz38_2 hcz38_3
       try clear hfz13_0 hfz13_1 hfz13_2 hfz13_3
       try clear hfz14_0 hfz14_1 hfz14_2 hfz14_3
       try clear hfz19_0 hfz19_1 hfz19_2 hfz19_3
       try clear hfz20_0 hfz20_1 hfz20_2 hfz20_3
       try clear hfz25_0 hfz25_1 hfz25_2 hfz25_3
       try clear hfz37_0 hfz37_1 hfz37_2 hfz37_3
       try clear hfz38_0 hfz38_1 hfz38_2 hfz38_3
       try clear p2
       try clear p5
       try clear p6
       try clear q5
       obtain ⟨kq, x45_38, rfl, HA, HJ38, BK149, BK150, HB⟩ := hcut
       cases kq with
       | zero => exact absurd HA.out (by simp [impl_tokenAt.j1])
       | succ kj38 =>
        have H := HA.out
        clear HA
        simp only [impl_tokenAt.j1] at H
        by_cases c41 : x45_38 = true
        ·subst c41
         have H1 := hp H
         clear H
         have H := H1
         clear H1
         replace H := bi H
         obtain ⟨t153, A420, H⟩ := H
         try dsimp only at H
         have A42 := Aside0.mk A420
         clear A420
         replace H := iz H
         obtain ⟨c43, H⟩ := H
         have c43b0 := eq_true c43
         have c43b1 : decide (0 <= a1) = true := decide_eq_true c43
         clear c43
         replace H := iz H
         obtain ⟨c44, H⟩ := H
         have c44b0 := eq_true c44
         have c44b1 : decide (a1 <= t153) = true := decide_eq_true c44
         clear c44
         replace H := iz H
         obtain ⟨c45, H⟩ := H
         have c45b0 := eq_true c45
         have c45b1 : decide (t153 <= (a0.size : Int)) = true := decide_eq_true c45
         clear c45
         replace H := bi H
         obtain ⟨⟨t154, t155⟩, A460, H⟩ := H
         try dsimp only at H
         have A46 := Aside0.mk A460
         clear A460
         by_cases c47 : t155 = true
         ·subst c47
          have H1 := hp H
          clear H
          have H := H1
          clear H1
          simp only [Option.some.injEq, Prod.mk.injEq] at H
          obtain ⟨rfl, rfl, rfl, rfl, rfl⟩ := H
          try go_wp2
          have n0_ := Aside0.mk (blk_drew BK149.out)
          have n1_ := Aside0.mk (blk_drew BK150.out)
          have n2_ := Aside0.mk (below_drew1 HB.out)
          clear BK149
          clear BK150
          clear HB
          have BK149 := n0_
          have BK150 := n1_
          have HB := n2_
          clear n0_ n1_ n2_
          refine start_ (n := 10) (S := fun w' => True) (ds := []) (mk_ 0 10) (by kernel_rfl) rfl rfl trivial (fun hHeld => ?_); refine with_tabW impl_tokenAt.tab13 impl_tokenAt.bits13 (fun HT_ HW_ => ?_)
          generalize wc.drew = w48 at BK149 BK150 HB hHeld ⊢
          refine pv 0 52 (mk_ 1 9) HT_ rfl rfl ?_
          refine pv 1 53 (mk_ 2 8) HT_ rfl rfl ?_
          refine pv 2 54 (mk_ 3 7) HT_ rfl rfl ?_
          refine pv 3 55 (mk_ 4 6) HT_ rfl rfl ?_
          refine pv 6 58 (bm_ 10 79) HT_ rfl rfl ?_
          refine one_ (i := 4) (N := some 56) (bm_ 10 95) rfl rfl (one_of HT_.out (by kernel_rfl)) (by decide) (fun K hK => ?_)
          refine goes_ Tryd.func56 (by kernel_rfl) rfl #[.string a0, .int .i64 a1, .int .u8 48, .int .u8 57] (by rfl) rfl rfl lz ?_
          with_reducible refine (impl_runOf.calls kj38 a0 a1 48 57 t153 _ A42.out).mono ?_
          rintro e w' ⟨rfl, ⟨nd, rfl⟩⟩
          refine ⟨_, rfl, ?_⟩
          refine hK.out _ _ trivial (fun hHeld => ?_)
          clear hK K
          refine norm_ (a' := ?_) ?_ ?_
          rotate_left
          ·show Act.put _ (some 56) _ = _
           simp only [Act.put, sz1, sz2, sz3, i64_w, i32_w]
           rfl
          refine pv 5 57 (mk_ 7 3) HT_ rfl rfl ?_
          refine one_ (i := 7) (N := none) (mk_ 8 2) rfl rfl (one_of HT_.out (by kernel_rfl)) (by decide) (fun K hK => ?_)
          have hs49 : w48.cell? ⟨gb150, 0, none⟩ = some (.int .i64 0) := (blk_cell BK150.out 0).trans rfl
          have hfs49 := blk_frozen BK150.out 0
          have hns49_0 := NB149_150.out
          have hms49_0 := NB150_149.out
          refine skip_ (w1 := ?_) (by rfl) rfl ?_ ?_
          rotate_left
          ·go_simp
           rfl
          refine hK.out _ _ trivial (fun hHeld => ?_)
          clear hK K
          refine pv 8 59 (mk_ 9 1) HT_ rfl rfl ?_
          refine one_ (i := 9) (N := none) (mk_ 10 0) rfl rfl (one_of HT_.out (by kernel_rfl)) (by decide) (fun K hK => ?_)
          have hs50 : w48.cell? ⟨gb150, 1, none⟩ = some (.string (a0.extract (a1 : Int).toNat ((wrap64 (a1 + 1)) : Int).toNat)) := (blk_cell BK150.out 1).trans rfl
          have hfs50 := blk_frozen BK150.out 1
          have hns50_0 := NB149_150.out
          have hms50_0 := NB150_149.out
          refine skip_ (w1 := ?_) (by rfl) rfl ?_ ?_
          rotate_left
          ·go_simp
           rfl
          refine hK.out _ _ trivial (fun hHeld => ?_)
          clear hK K
          refine done_ (done_of HT_.out (by kernel_rfl)) ?_
          have hnb51 := NB150_149.out
          have hnc51 := NB149_150.out
          obtain ⟨hcz52_0, hcz52_1, hcz52_2, hcz52_3⟩ := cz4 BK150.out
          obtain ⟨hfz52_0, hfz52_1, hfz52_2, hfz52_3⟩ := fz4 BK150.out
          try go_wp2_with (first | ((with_reducible refine gate_callee (f := 8) rfl ?_); refine goesL_ (some 63) rfl rfl Tryd.func8 (by kernel_rfl) rfl #[.string (a0.extract (a1 : Int).toNat (t153 : Int).toNat)] rfl lz ?_; (with_reducible refine (impl_ReadDec.calls (a0.extract (a1 : Int).toNat (t153 : Int).toNat) t154 true _ A46.out ?hT_).mono ?_); (case hT_ => exact PW.below hT_ (bz2 HB.out GE149.out GE150.out)); rintro e w53 ⟨rfl, hb⟩; refine ⟨_, rfl, ?_⟩; replace BK149 := Aside0.mk (blk_below (g := gb149) (o := .cells #[.int .i64 0, .string (⟨#[]⟩ : ByteArray), .int .i64 0, .int .i64 0] 43 (0, 0)) (by refine kq ?_; refine blk_far ?_ NB149_150.out _; refine kq ?_; refine blk_far ?_ NB149_150.out _; refine kq ?_; exact BK149.out) hb); replace BK150 := Aside0.mk (blk_below (g := gb150) (o := .cells #[.int .i64 4, .string (a0.extract (a1 : Int).toNat (t153 : Int).toNat), .int .i64 0, .int .i64 a1] 43 (0, 0)) (by refine kq ?_; refine blk_put (cs := #[.int .i64 4, .string (a0.extract (a1 : Int).toNat ((wrap64 (a1 + 1)) : Int).toNat), .int .i64 0, .int .i64 a1]) ?_ 1 _ rfl; refine kq ?_; refine blk_put (cs := #[.int .i64 0, .string (a0.extract (a1 : Int).toNat ((wrap64 (a1 + 1)) : Int).toNat), .int .i64 0, .int .i64 a1]) ?_ 0 _ rfl; refine kq ?_; exact BK150.out) hb); replace HB := Aside0.mk (below_step (bz2 HB.out GE149.out GE150.out) hb); (try clear hb); obtain ⟨hcz54_0, hcz54_1, hcz54_2, hcz54_3⟩ := cz4 BK150.out; obtain ⟨hfz54_0, hfz54_1, hfz54_2, hfz54_3⟩ := fz4 BK150.out; obtain ⟨hcz55_0, hcz55_1, hcz55_2, hcz55_3⟩ := cz4 BK149.out; obtain ⟨hfz55_0, hfz55_1, hfz55_2, hfz55_3⟩ := fz4 BK149.out))
          refine bodyPost_ret (results_ct rfl _ _ gb149 43 #[.int .i64 4, .string (a0.extract (a1 : Int).toNat (t153 : Int).toNat), .int .i64 t154, .int .i64 a1] (0, 0) _ rfl (by refine kq ?_; refine blk_put (cs := #[.int .i64 4, .string (a0.extract (a1 : Int).toNat (t153 : Int).toNat), .int .i64 t154, .int .i64 0]) ?_ 3 _ rfl; refine kq ?_; refine blk_put (cs := #[.int .i64 4, .string (a0.extract (a1 : Int).toNat (t153 : Int).toNat), .int .i64 0, .int .i64 0]) ?_ 2 _ rfl; refine kq ?_; refine blk_put (cs := #[.int .i64 4, .string (⟨#[]⟩ : ByteArray), .int .i64 0, .int .i64 0]) ?_ 1 _ rfl; refine kq ?_; refine blk_put (cs := #[.int .i64 0, .string (⟨#[]⟩ : ByteArray), .int .i64 0, .int .i64 0]) ?_ 0 _ rfl; refine kq ?_; refine blk_far ?_ NB149_150.out _; refine kq ?_; exact BK149.out) Tryd.underlying43 rfl (by kernel_rfl)) rfl ?_
          exact ⟨gz, (bz2 HB.out GE149.out GE150.out)⟩
         ·replace c47 := Bool.eq_false_iff.mpr c47
          subst c47
          have H1 := hq H
          clear H
          have H := H1
          clear H1
          simp only [Option.some.injEq, Prod.mk.injEq] at H
          obtain ⟨rfl, rfl, rfl, rfl, rfl⟩ := H
          try go_wp2
          have n0_ := Aside0.mk (blk_drew BK149.out)
          have n1_ := Aside0.mk (blk_drew BK150.out)
          have n2_ := Aside0.mk (below_drew1 HB.out)
          clear BK149
          clear BK150
          clear HB
          have BK149 := n0_
          have BK150 := n1_
          have HB := n2_
          clear n0_ n1_ n2_
          refine start_ (n := 10) (S := fun w' => True) (ds := []) (mk_ 0 10) (by kernel_rfl) rfl rfl trivial (fun hHeld => ?_); refine with_tabW impl_tokenAt.tab13 impl_tokenAt.bits13 (fun HT_ HW_ => ?_)
          generalize wc.drew = w56 at BK149 BK150 HB hHeld ⊢
          refine pv 0 52 (mk_ 1 9) HT_ rfl rfl ?_
          refine pv 1 53 (mk_ 2 8) HT_ rfl rfl ?_
          refine pv 2 54 (mk_ 3 7) HT_ rfl rfl ?_
          refine pv 3 55 (mk_ 4 6) HT_ rfl rfl ?_
          refine pv 6 58 (bm_ 10 79) HT_ rfl rfl ?_
          refine one_ (i := 4) (N := some 56) (bm_ 10 95) rfl rfl (one_of HT_.out (by kernel_rfl)) (by decide) (fun K hK => ?_)
          refine goes_ Tryd.func56 (by kernel_rfl) rfl #[.string a0, .int .i64 a1, .int .u8 48, .int .u8 57] (by rfl) rfl rfl lz ?_
          with_reducible refine (impl_runOf.calls kj38 a0 a1 48 57 t153 _ A42.out).mono ?_
          rintro e w' ⟨rfl, ⟨nd, rfl⟩⟩
          refine ⟨_, rfl, ?_⟩
          refine hK.out _ _ trivial (fun hHeld => ?_)
          clear hK K
          refine norm_ (a' := ?_) ?_ ?_
          rotate_left
          ·show Act.put _ (some 56) _ = _
           simp only [Act.put, sz1, sz2, sz3, i64_w, i32_w]
           rfl
          refine pv 5 57 (mk_ 7 3) HT_ rfl rfl ?_
          refine one_ (i := 7) (N := none) (mk_ 8 2) rfl rfl (one_of HT_.out (by kernel_rfl)) (by decide) (fun K hK => ?_)
          have hs57 : w56.cell? ⟨gb150, 0, none⟩ = some (.int .i64 0) := (blk_cell BK150.out 0).trans rfl
          have hfs57 := blk_frozen BK150.out 0
          have hns57_0 := NB149_150.out
          have hms57_0 := NB150_149.out
          refine skip_ (w1 := ?_) (by rfl) rfl ?_ ?_
          rotate_left
          ·go_simp
           rfl
          refine hK.out _ _ trivial (fun hHeld => ?_)
          clear hK K
          refine pv 8 59 (mk_ 9 1) HT_ rfl rfl ?_
          refine one_ (i := 9) (N := none) (mk_ 10 0) rfl rfl (one_of HT_.out (by kernel_rfl)) (by decide) (fun K hK => ?_)
          have hs58 : w56.cell? ⟨gb150, 1, none⟩ = some (.string (a0.extract (a1 : Int).toNat ((wrap64 (a1 + 1)) : Int).toNat)) := (blk_cell BK150.out 1).trans rfl
          have hfs58 := blk_frozen BK150.out 1
          have hns58_0 := NB149_150.out
          have hms58_0 := NB150_149.out
          refine skip_ (w1 := ?_) (by rfl) rfl ?_ ?_
          rotate_left
          ·go_simp
           rfl
          refine hK.out _ _ trivial (fun hHeld => ?_)
          clear hK K
          refine done_ (done_of HT_.out (by kernel_rfl)) ?_
          have hnb59 := NB150_149.out
          have hnc59 := NB149_150.out
          obtain ⟨hcz60_0, hcz60_1, hcz60_2, hcz60_3⟩ := cz4 BK150.out
          obtain ⟨hfz60_0, hfz60_1, hfz60_2, hfz60_3⟩ := fz4 BK150.out
          try go_wp2_with (first | ((with_reducible refine gate_callee (f := 8) rfl ?_); refine goesL_ (some 63) rfl rfl Tryd.func8 (by kernel_rfl) rfl #[.string (a0.extract (a1 : Int).toNat (t153 : Int).toNat)] rfl lz ?_; (with_reducible refine (impl_ReadDec.calls (a0.extract (a1 : Int).toNat (t153 : Int).toNat) t154 false _ A46.out ?hT_).mono ?_); (case hT_ => exact PW.below hT_ (bz2 HB.out GE149.out GE150.out)); rintro e w61 ⟨rfl, hb⟩; refine ⟨_, rfl, ?_⟩; replace BK149 := Aside0.mk (blk_below (g := gb149) (o := .cells #[.int .i64 0, .string (⟨#[]⟩ : ByteArray), .int .i64 0, .int .i64 0] 43 (0, 0)) (by refine kq ?_; refine blk_far ?_ NB149_150.out _; refine kq ?_; refine blk_far ?_ NB149_150.out _; refine kq ?_; exact BK149.out) hb); replace BK150 := Aside0.mk (blk_below (g := gb150) (o := .cells #[.int .i64 4, .string (a0.extract (a1 : Int).toNat (t153 : Int).toNat), .int .i64 0, .int .i64 a1] 43 (0, 0)) (by refine kq ?_; refine blk_put (cs := #[.int .i64 4, .string (a0.extract (a1 : Int).toNat ((wrap64 (a1 + 1)) : Int).toNat), .int .i64 0, .int .i64 a1]) ?_ 1 _ rfl; refine kq ?_; refine blk_put (cs := #[.int .i64 0, .string (a0.extract (a1 : Int).toNat ((wrap64 (a1 + 1)) : Int).toNat), .int .i64 0, .int .i64 a1]) ?_ 0 _ rfl; refine kq ?_; exact BK150.out) hb); replace HB := Aside0.mk (below_step (bz2 HB.out GE149.out GE150.out) hb); (try clear hb); obtain ⟨hcz62_0, hcz62_1, hcz62_2, hcz62_3⟩ := cz4 BK150.out; obtain ⟨hfz62_0, hfz62_1, hfz62_2, hfz62_3⟩ := fz4 BK150.out; obtain ⟨hcz63_0, hcz63_1, hcz63_2, hcz63_3⟩ := cz4 BK149.out; obtain ⟨hfz63_0, hfz63_1, hfz63_2, hfz63_3⟩ := fz4 BK149.out))
          refine bodyPost_ret (results_ct rfl _ _ gb149 43 #[.int .i64 4, .string (a0.extract (a1 : Int).toNat (t153 : Int).toNat), .int .i64 t154, .int .i64 a1] (0, 0) _ rfl (by refine kq ?_; refine blk_put (cs := #[.int .i64 4, .string (a0.extract (a1 : Int).toNat (t153 : Int).toNat), .int .i64 t154, .int .i64 0]) ?_ 3 _ rfl; refine kq ?_; refine blk_put (cs := #[.int .i64 4, .string (a0.extract (a1 : Int).toNat (t153 : Int).toNat), .int .i64 0, .int .i64 0]) ?_ 2 _ rfl; refine kq ?_; refine blk_put (cs := #[.int .i64 4, .string (⟨#[]⟩ : ByteArray), .int .i64 0, .int .i64 0]) ?_ 1 _ rfl; refine kq ?_; refine blk_put (cs := #[.int .i64 0, .string (⟨#[]⟩ : ByteArray), .int .i64 0, .int .i64 0]) ?_ 0 _ rfl; refine kq ?_; refine blk_far ?_ NB149_150.out _; refine kq ?_; exact BK149.out) Tryd.underlying43 rfl (by kernel_rfl)) rfl ?_
          exact ⟨gz, (bz2 HB.out GE149.out GE150.out)⟩
        ·replace c41 := Bool.eq_false_iff.mpr c41
         subst c41
         have H1 := hq H
         clear H
         have H := H1
         clear H1
         simp only [Option.some.injEq, Prod.mk.injEq] at H
         obtain ⟨rfl, rfl, rfl, rfl, rfl⟩ := H
         have hnb64 := NB150_149.out
         have hnc64 := NB149_150.out
         obtain ⟨hcz65_0, hcz65_1, hcz65_2, hcz65_3⟩ := cz4 BK150.out
         obtain ⟨hfz65_0, hfz65_1, hfz65_2, hfz65_3⟩ := fz4 BK150.out
         obtain ⟨hcz66_0, hcz66_1, hcz66_2, hcz66_3⟩ := cz4 BK149.out
         obtain ⟨hfz66_0, hfz66_1, hfz66_2, hfz66_3⟩ := fz4 BK149.out
         go_wp2
         refine bodyPost_ret (results_ct rfl _ _ gb149 43 #[.int .i64 0, .string (a0.extract (a1 : Int).toNat ((wrap64 (a1 + 1)) : Int).toNat), .int .i64 0, .int .i64 a1] (0, 0) _ rfl (by refine kq ?_; refine blk_put (cs := #[.int .i64 0, .string (a0.extract (a1 : Int).toNat ((wrap64 (a1 + 1)) : Int).toNat), .int .i64 0, .int .i64 0]) ?_ 3 _ rfl; refine kq ?_; refine blk_put (cs := #[.int .i64 0, .string (a0.extract (a1 : Int).toNat ((wrap64 (a1 + 1)) : Int).toNat), .int .i64 0, .int .i64 0]) ?_ 2 _ rfl; refine kq ?_; refine blk_put (cs := #[.int .i64 0, .string (⟨#[]⟩ : ByteArray), .int .i64 0, .int .i64 0]) ?_ 1 _ rfl; refine kq ?_; refine blk_put (cs := #[.int .i64 0, .string (⟨#[]⟩ : ByteArray), .int .i64 0, .int .i64 0]) ?_ 0 _ rfl; refine kq ?_; exact BK149.out) Tryd.underlying43 rfl (by kernel_rfl)) rfl ?_
         exact ⟨gz, (bz2 HB.out GE149.out GE150.out)⟩
end Go.Proofs.YtdjamdnjkdllgaaDoor.PFnLexed
