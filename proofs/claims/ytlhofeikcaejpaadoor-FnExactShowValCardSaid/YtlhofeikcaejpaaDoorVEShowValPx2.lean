/- PFnExactShowValx2, of the words and walks that the law FnExactShowVal needs; made by this session's program out of printed texts. -/

import Derived.Test.YtlhofeikcaejpaaDoorVEShowValPx0
import Derived.Test.YtlhofeikcaejpaaDoorVEShowValPx1
namespace Go.Proofs.YtlhofeikcaejpaaDoor.PFnExactShowVal
open Go.RowKit Go.Proofs.YtlhofeikcaejpaaDoorW.PrintWords Go.Proofs.YtlhofeikcaejpaaDoorW.PrintLast Go.Proofs.YtlhofeikcaejpaaDoorW.PrintMore
attribute [local go_sem] max2_int min2_int max_two min_two max_three min_three max_four min_four
set_option linter.unusedVariables false
set_option linter.unusedSimpArgs false
mutual
def impl_HeapOk.l0 : Nat -> List (S41) -> Int -> Int -> List (S41) -> List (S86) -> List (S47) -> List (S35) -> Option (Bool)
 | 0, _, _, _, _, _, _, _ => none
 | k + 1, x12, x13, x14, x108000, x108001, x108002, x108003 => if x14 < x13 then (if 0 <= x14 then (if x14 < (x12.length : Int) then ((impl_ValOk.f k x108000 x108001 x108002 x108003 ((rd_T41 x12 x14).f2.f0) ((rd_T41 x12 x14).f2.f1)).bind fun t110 => (if t110 = true then ((impl_in.f ((rd_T41 x12 x14).f3) (-1) (wrap64 (x14 - 1))).bind fun t111 => (if t111 = true then (impl_HeapOk.l0 k x12 x13 (wrap64 (x14 + 1)) x108000 x108001 x108002 x108003) else (some false))) else (some false))) else (none)) else (none)) else (impl_HeapOk.l1 k x108001 (x108001.length : Int) 0 x108000 x108001 x108002 x108003)
def impl_HeapOk.l1 : Nat -> List (S86) -> Int -> Int -> List (S41) -> List (S86) -> List (S47) -> List (S35) -> Option (Bool)
 | 0, _, _, _, _, _, _, _ => none
 | k + 1, x34, x35, x36, x108000, x108001, x108002, x108003 => if x36 < x35 then (if 0 <= x36 then (if x36 < (x34.length : Int) then ((impl_in.f ((rd_T86 x34 x36).f1) (-1) (wrap64 ((x108000.length : Int) - 1))).bind fun t114 => (if t114 = true then (impl_HeapOk.l1 k x34 x35 (wrap64 (x36 + 1)) x108000 x108001 x108002 x108003) else (some false))) else (none)) else (none)) else (impl_HeapOk.l2 k x108002 (x108002.length : Int) 0 x108000 x108001 x108002 x108003)
def impl_HeapOk.l2 : Nat -> List (S47) -> Int -> Int -> List (S41) -> List (S86) -> List (S47) -> List (S35) -> Option (Bool)
 | 0, _, _, _, _, _, _, _ => none
 | k + 1, x50, x51, x52, x108000, x108001, x108002, x108003 => if x52 < x51 then (if 0 <= x52 then (if x52 < (x50.length : Int) then ((impl_ValOk.f k x108000 x108001 x108002 x108003 ((rd_T47 x50 x52).f0.f0) ((rd_T47 x50 x52).f0.f1)).bind fun t117 => (if t117 = true then ((impl_ValOk.f k x108000 x108001 x108002 x108003 ((rd_T47 x50 x52).f1.f0) ((rd_T47 x50 x52).f1.f1)).bind fun t118 => (if t118 = true then (impl_HeapOk.l2 k x50 x51 (wrap64 (x52 + 1)) x108000 x108001 x108002 x108003) else (some false))) else (some false))) else (none)) else (none)) else (impl_HeapOk.l3 k x108003 (x108003.length : Int) 0 x108000 x108001 x108002 x108003)
def impl_HeapOk.l3 : Nat -> List (S35) -> Int -> Int -> List (S41) -> List (S86) -> List (S47) -> List (S35) -> Option (Bool)
 | 0, _, _, _, _, _, _, _ => none
 | k + 1, x70, x71, x72, x108000, x108001, x108002, x108003 => if x72 < x71 then (if 0 <= x72 then (if x72 < (x70.length : Int) then ((impl_ValOk.f k x108000 x108001 x108002 x108003 ((rd_T35 x70 x72).f0) ((rd_T35 x70 x72).f1)).bind fun t121 => (if t121 = true then (impl_HeapOk.l3 k x70 x71 (wrap64 (x72 + 1)) x108000 x108001 x108002 x108003) else (some false))) else (none)) else (none)) else (some true)
end
def impl_HeapOk.f (k : Nat) (l0_0 : List (S41)) (l0_1 : List (S86)) (l0_2 : List (S47)) (l0_3 : List (S35)) : Option (Bool) := impl_HeapOk.l0 k l0_0 (l0_0.length : Int) 0 l0_0 l0_1 l0_2 l0_3
theorem impl_HeapOk.mono_l : ∀ k, (∀ y0 y1 y2 y3 y4 y5 y6, LeO (impl_HeapOk.l0 k y0 y1 y2 y3 y4 y5 y6) (impl_HeapOk.l0 (k + 1) y0 y1 y2 y3 y4 y5 y6)) /\ (∀ y0 y1 y2 y3 y4 y5 y6, LeO (impl_HeapOk.l1 k y0 y1 y2 y3 y4 y5 y6) (impl_HeapOk.l1 (k + 1) y0 y1 y2 y3 y4 y5 y6)) /\ (∀ y0 y1 y2 y3 y4 y5 y6, LeO (impl_HeapOk.l2 k y0 y1 y2 y3 y4 y5 y6) (impl_HeapOk.l2 (k + 1) y0 y1 y2 y3 y4 y5 y6)) /\ (∀ y0 y1 y2 y3 y4 y5 y6, LeO (impl_HeapOk.l3 k y0 y1 y2 y3 y4 y5 y6) (impl_HeapOk.l3 (k + 1) y0 y1 y2 y3 y4 y5 y6))
 | 0 => ⟨fun _ _ _ _ _ _ _ r h => by simp [impl_HeapOk.l0] at h, fun _ _ _ _ _ _ _ r h => by simp [impl_HeapOk.l1] at h, fun _ _ _ _ _ _ _ r h => by simp [impl_HeapOk.l2] at h, fun _ _ _ _ _ _ _ r h => by simp [impl_HeapOk.l3] at h⟩
 | k + 1 => by
  obtain ⟨ih0, ih1, ih2, ih3⟩ := impl_HeapOk.mono_l k
  refine ⟨?_, ?_, ?_, ?_⟩
  ·intro y0 y1 y2 y3 y4 y5 y6
   unfold impl_HeapOk.l0
   with_reducible repeat' first | exact ih0 _ _ _ _ _ _ _ | exact ih1 _ _ _ _ _ _ _ | exact ih2 _ _ _ _ _ _ _ | exact ih3 _ _ _ _ _ _ _ | exact impl_ValOk.mono _ _ _ _ _ _ _ | exact lrz _ | exact lnz _ | refine liz ?_ ?_ | refine lbz ?_ fun _ => ?_
  ·intro y0 y1 y2 y3 y4 y5 y6
   unfold impl_HeapOk.l1
   with_reducible repeat' first | exact ih0 _ _ _ _ _ _ _ | exact ih1 _ _ _ _ _ _ _ | exact ih2 _ _ _ _ _ _ _ | exact ih3 _ _ _ _ _ _ _ | exact impl_ValOk.mono _ _ _ _ _ _ _ | exact lrz _ | exact lnz _ | refine liz ?_ ?_ | refine lbz ?_ fun _ => ?_
  ·intro y0 y1 y2 y3 y4 y5 y6
   unfold impl_HeapOk.l2
   with_reducible repeat' first | exact ih0 _ _ _ _ _ _ _ | exact ih1 _ _ _ _ _ _ _ | exact ih2 _ _ _ _ _ _ _ | exact ih3 _ _ _ _ _ _ _ | exact impl_ValOk.mono _ _ _ _ _ _ _ | exact lrz _ | exact lnz _ | refine liz ?_ ?_ | refine lbz ?_ fun _ => ?_
  ·intro y0 y1 y2 y3 y4 y5 y6
   unfold impl_HeapOk.l3
   with_reducible repeat' first | exact ih0 _ _ _ _ _ _ _ | exact ih1 _ _ _ _ _ _ _ | exact ih2 _ _ _ _ _ _ _ | exact ih3 _ _ _ _ _ _ _ | exact impl_ValOk.mono _ _ _ _ _ _ _ | exact lrz _ | exact lnz _ | refine liz ?_ ?_ | refine lbz ?_ fun _ => ?_
theorem impl_HeapOk.mono : ∀ a0 a1 a2 a3 k, LeO (impl_HeapOk.f k a0 a1 a2 a3) (impl_HeapOk.f (k + 1) a0 a1 a2 a3) := by
 intro a0 a1 a2 a3 k
 obtain ⟨ih0, ih1, ih2, ih3⟩ := impl_HeapOk.mono_l k
 unfold impl_HeapOk.f
 with_reducible repeat' first | exact ih0 _ _ _ _ _ _ _ | exact ih1 _ _ _ _ _ _ _ | exact ih2 _ _ _ _ _ _ _ | exact ih3 _ _ _ _ _ _ _ | exact impl_ValOk.mono _ _ _ _ _ _ _ | exact lrz _ | exact lnz _ | refine liz ?_ ?_ | refine lbz ?_ fun _ => ?_
set_option maxHeartbeats 8000000 in
set_option maxRecDepth 100000 in
theorem impl_HeapOk.calls (k : Nat) (A0_0 : Option Addr) (c0_0 : Nat) (l0_0 : List (S41)) (A0_1 : Option Addr) (c0_1 : Nat) (l0_1 : List (S86)) (A0_2 : Option Addr) (c0_2 : Nat) (l0_2 : List (S47)) (A0_3 : Option Addr) (c0_3 : Nat) (l0_3 : List (S35)) (r : Bool) (w : World) (hr0_0 : Kd.C k41 w A0_0 l0_0.length l0_0) (hc0_0 : l0_0.length <= c0_0) (hr0_1 : Kd.C k86 w A0_1 l0_1.length l0_1) (hc0_1 : l0_1.length <= c0_1) (hr0_2 : Kd.C k47 w A0_2 l0_2.length l0_2) (hc0_2 : l0_2.length <= c0_2) (hr0_3 : Kd.C k35 w A0_3 l0_3.length l0_3) (hc0_3 : l0_3.length <= c0_3) (h : impl_HeapOk.f k l0_0 l0_1 l0_2 l0_3 = some r) :
  Calls Tryd.prog 41 #[.agg #[.slice A0_0 l0_0.length c0_0, .slice A0_1 l0_1.length c0_1, .slice A0_2 l0_2.length c0_2, .slice A0_3 l0_3.length c0_3]] w fun e w' => e = .returned (.bool r) /\ Below w.heap.size w w' := by
 have hu29 := Tryd.underlying29
 have hu41 := Tryd.underlying41
 have hu35 := Tryd.underlying35
 have hu86 := Tryd.underlying86
 have hu47 := Tryd.underlying47
 have HR0_0 := Aside0.mk hr0_0
 have HC0_0 := Aside0.mk hc0_0
 clear hr0_0 hc0_0
 have HR0_1 := Aside0.mk hr0_1
 have HC0_1 := Aside0.mk hc0_1
 clear hr0_1 hc0_1
 have HR0_2 := Aside0.mk hr0_2
 have HC0_2 := Aside0.mk hc0_2
 clear hr0_2 hc0_2
 have HR0_3 := Aside0.mk hr0_3
 have HC0_3 := Aside0.mk hc0_3
 clear hr0_3 hc0_3
 have HB := Aside0.mk (Below.refl w.heap.size w)
 have H : (impl_HeapOk.l0 k l0_0 (l0_0.length : Int) 0 l0_0 l0_1 l0_2 l0_3) = some r := h
 clear h
 have H' := Aside0.mk H
 clear H
 go_enter Tryd.func41, Tryd.ntmps41
 go_wp2_with (first | ((with_reducible refine gate_dst (N := 1) rfl ?_); refine box_event ?hg (N := 1) ?hd (cs := #[.slice A0_0 l0_0.length c0_0, .slice A0_1 l0_1.length c0_1, .slice A0_2 l0_2.length c0_2, .slice A0_3 l0_3.length c0_3]) (t := 29) ?hr ?_; (case hd => rfl); (case hg => rfl); (case hr => exact vz); intro gb107 hg w2 hbox hb; have BK107 := Aside0.mk (hbox); have GW107 := Aside0.mk ((by rw [hg]; exact (below_size (bz0 HB.out)) : w.heap.size <= gb107)); have GE107 := Aside0.mk ((by rw [hg]; exact (below_size (bz0 HB.out)) : w.heap.size <= gb107)); replace HB := Aside0.mk (below_step (bz0 HB.out) hb); clear hb hbox hg; obtain ⟨hcz3_0, hcz3_1, hcz3_2, hcz3_3⟩ := cz4 BK107.out; obtain ⟨hfz3_0, hfz3_1, hfz3_2, hfz3_3⟩ := fz4 BK107.out))
 (try simp only [Act.put, sz1, sz2, sz3])
 go_loopg [14] k (fun kq v14 w' => ∃ (x14_1 : Int), v14 = .int .i64 x14_1 /\ Aside0 (impl_HeapOk.l0 kq l0_0 (l0_0.length : Int) x14_1 l0_0 l0_1 l0_2 l0_3 = some r) /\ Aside0 (kq <= k) /\ Aside0 (w'.heap[gb107]? = some (.cells #[(.slice A0_0 l0_0.length c0_0), (.slice A0_1 l0_1.length c0_1), (.slice A0_2 l0_2.length c0_2), (.slice A0_3 l0_3.length c0_3)] 29 (0, 0))) /\ Aside0 (Below w.heap.size w w'))
 case atStart => exact ⟨(0), ez, H', ⟨Nat.le_refl _⟩, ⟨by refine kq ?_; exact BK107.out⟩, ⟨(bz1 HB.out GE107.out)⟩⟩
 case round =>
  clear H'
  try clear p2
  try clear hcz3_0 hcz3_1 hcz3_2 hcz3_3
  try clear hfz3_0 hfz3_1 hfz3_2 hfz3_3
  obtain ⟨x14_1, rfl, HA, HK1, BK107, HB⟩ := hrel
  cases gk with
  | zero => exact absurd HA.out (by simp [impl_HeapOk.l0])
  | succ k1 =>
   have H := HA.out
   clear HA
   simp only [impl_HeapOk.l0] at H
   by_cases c4 : x14_1 < (l0_0.length : Int)
   ·rw [if_pos c4] at H
    have c4b0 := decide_eq_true c4
    clear c4
    replace H := iz H
    obtain ⟨c5, H⟩ := H
    have c5b0 := decide_eq_true c5
    clear c5
    replace H := iz H
    obtain ⟨c6, H⟩ := H
    have c6b0 := decide_eq_true c6
    clear c6
    replace H := bi H
    obtain ⟨t110, A70, H⟩ := H
    try dsimp only at H
    have A7 := Aside0.mk A70
    clear A70
    by_cases c8 : t110 = true
    ·subst c8
     have H1 := hp H
     clear H
     have H := H1
     clear H1
     replace H := bi H
     obtain ⟨t111, A90, H⟩ := H
     try dsimp only at H
     have A9 := Aside0.mk A90
     clear A90
     by_cases c10 : t111 = true
     ·subst c10
      have H1 := hp H
      clear H
      have H := H1
      clear H1
      have H' := Aside0.mk H
      clear H
      have p108 : 0 <= (x14_1 : Int) := oz
      have q108 : x14_1 < (l0_0.length : Int) := oz
      obtain ⟨ad108, e108, hx108_0, hx108_1, hx108_2, hx108_3, hx108_4⟩ := at_T41 HR0_0.out x14_1 p108 q108
      cases e108
      replace hx108_0 := hz HB.out hx108_0
      replace hx108_1 := hz HB.out hx108_1
      replace hx108_2 := hz HB.out hx108_2
      replace hx108_3 := hz HB.out hx108_3
      replace hx108_4 := hz HB.out hx108_4
      replace p108 := eq_true p108
      replace q108 := eq_true q108
      go_wp2_with (first | ((with_reducible refine gate_dst (N := 4) rfl ?_); refine box_event ?hg (N := 4) ?hd (cs := #[.int .i64 0, .int .i64 0, .int .i64 0, .int .i64 0, .int .i64 0]) (t := 41) ?hr ?_; (case hd => rfl); (case hg => rfl); (case hr => exact vz); intro gb109 hg w11 hbox hb; have BK109 := Aside0.mk (hbox); have GW109 := Aside0.mk ((by rw [hg]; exact (below_size (bz1 HB.out GE107.out)) : w.heap.size <= gb109)); have GE109 := Aside0.mk ((by rw [hg]; exact (below_size (bz1 HB.out GE107.out)) : w.heap.size <= gb109)); replace HB := Aside0.mk (below_step (bz1 HB.out GE107.out) hb); have NB107_109 := Aside0.mk ((by rw [hg]; exact Nat.ne_of_lt (blk_lt (g := gb107) (o := .cells #[.slice (some ad108) l0_0.length c0_0, .slice A0_1 l0_1.length c0_1, .slice A0_2 l0_2.length c0_2, .slice A0_3 l0_3.length c0_3] 29 (0, 0)) (kz BK107.out)) : gb107 ≠ gb109)); have NB109_107 := Aside0.mk ((by rw [hg]; exact Nat.ne_of_gt (blk_lt (g := gb107) (o := .cells #[.slice (some ad108) l0_0.length c0_0, .slice A0_1 l0_1.length c0_1, .slice A0_2 l0_2.length c0_2, .slice A0_3 l0_3.length c0_3] 29 (0, 0)) (kz BK107.out)) : gb109 ≠ gb107)); replace BK107 := Aside0.mk (blk_below (kz BK107.out) hb); clear hb hbox hg; have hnb12 := NB109_107.out; have hnc12 := NB107_109.out; obtain ⟨hcz13_0, hcz13_1, hcz13_2, hcz13_3, hcz13_4⟩ := cz5 BK109.out; obtain ⟨hfz13_0, hfz13_1, hfz13_2, hfz13_3, hfz13_4⟩ := fz5 BK109.out; obtain ⟨hcz14_0, hcz14_1, hcz14_2, hcz14_3⟩ := cz4 BK107.out; obtain ⟨hfz14_0, hfz14_1, hfz14_2, hfz14_3⟩ := fz4 BK107.out) | ((with_reducible refine gate_callee (f := 13) rfl ?_); refine goesL_ (some 22) rfl rfl Tryd.func13 (by kernel_rfl) rfl #[.agg #[.slice (some ad108) l0_0.length c0_0, .slice A0_1 l0_1.length c0_1, .slice A0_2 l0_2.length c0_2, .slice A0_3 l0_3.length c0_3], .agg #[.int .i64 ((rd_T41 l0_0 x14_1).f2.f0), .int .i64 ((rd_T41 l0_0 x14_1).f2.f1)]] rfl lz ?_; (with_reducible refine (impl_ValOk.calls k1 _ _ l0_0 _ _ l0_1 _ _ l0_2 _ _ l0_3 ((rd_T41 l0_0 x14_1).f2.f0) ((rd_T41 l0_0 x14_1).f2.f1) true _ ?side1 ?side2 ?side3 ?side4 ?side5 ?side6 ?side7 ?side8 A7.out).mono ?_); (case side1 => exact Kd.C_below HR0_0.out (bz2 HB.out GE107.out GE109.out)); (case side2 => exact HC0_0.out); (case side3 => exact Kd.C_below HR0_1.out (bz2 HB.out GE107.out GE109.out)); (case side4 => exact HC0_1.out); (case side5 => exact Kd.C_below HR0_2.out (bz2 HB.out GE107.out GE109.out)); (case side6 => exact HC0_2.out); (case side7 => exact Kd.C_below HR0_3.out (bz2 HB.out GE107.out GE109.out)); (case side8 => exact HC0_3.out); rintro e w15 ⟨rfl, hb⟩; refine ⟨_, rfl, ?_⟩; replace BK107 := Aside0.mk (blk_below (g := gb107) (o := .cells #[.slice (some ad108) l0_0.length c0_0, .slice A0_1 l0_1.length c0_1, .slice A0_2 l0_2.length c0_2, .slice A0_3 l0_3.length c0_3] 29 (0, 0)) (by refine kq ?_; refine blk_far ?_ NB107_109.out _; refine kq ?_; refine blk_far ?_ NB107_109.out _; refine kq ?_; refine blk_far ?_ NB107_109.out _; refine kq ?_; refine blk_far ?_ NB107_109.out _; refine kq ?_; refine blk_far ?_ NB107_109.out _; refine kq ?_; exact BK107.out) hb); replace BK109 := Aside0.mk (blk_below (g := gb109) (o := .cells #[.int .i64 ((rd_T41 l0_0 x14_1).f0), .int .i64 ((rd_T41 l0_0 x14_1).f1), .int .i64 ((rd_T41 l0_0 x14_1).f2.f0), .int .i64 ((rd_T41 l0_0 x14_1).f2.f1), .int .i64 ((rd_T41 l0_0 x14_1).f3)] 41 (0, 0)) (by refine kq ?_; refine blk_put (cs := #[.int .i64 ((rd_T41 l0_0 x14_1).f0), .int .i64 ((rd_T41 l0_0 x14_1).f1), .int .i64 ((rd_T41 l0_0 x14_1).f2.f0), .int .i64 ((rd_T41 l0_0 x14_1).f2.f1), .int .i64 0]) ?_ 4 _ rfl; refine kq ?_; refine blk_put (cs := #[.int .i64 ((rd_T41 l0_0 x14_1).f0), .int .i64 ((rd_T41 l0_0 x14_1).f1), .int .i64 ((rd_T41 l0_0 x14_1).f2.f0), .int .i64 0, .int .i64 0]) ?_ 3 _ rfl; refine kq ?_; refine blk_put (cs := #[.int .i64 ((rd_T41 l0_0 x14_1).f0), .int .i64 ((rd_T41 l0_0 x14_1).f1), .int .i64 0, .int .i64 0, .int .i64 0]) ?_ 2 _ rfl; refine kq ?_; refine blk_put (cs := #[.int .i64 ((rd_T41 l0_0 x14_1).f0), .int .i64 0, .int .i64 0, .int .i64 0, .int .i64 0]) ?_ 1 _ rfl; refine kq ?_; refine blk_put (cs := #[.int .i64 0, .int .i64 0, .int .i64 0, .int .i64 0, .int .i64 0]) ?_ 0 _ rfl; refine kq ?_; exact BK109.out) hb); replace HB := Aside0.mk (below_step (bz2 HB.out GE107.out GE109.out) hb); (try clear hb); obtain ⟨hcz16_0, hcz16_1, hcz16_2, hcz16_3, hcz16_4⟩ := cz5 BK109.out; obtain ⟨hfz16_0, hfz16_1, hfz16_2, hfz16_3, hfz16_4⟩ := fz5 BK109.out) | (go_at_call 42; (with_reducible refine (impl_in.calls ((rd_T41 l0_0 x14_1).f3) (-1) (wrap64 (x14_1 - 1)) true _ A9.out).mono ?_); rintro e w' ⟨rfl, ⟨nd, rfl⟩⟩))
      go_roundg k1
      case measure => have := HK1.out; omega
      case rel => exact ⟨(wrap64 (x14_1 + 1)), ez, H', ⟨by have := HK1.out; omega⟩, ⟨by refine kq ?_; exact BK107.out⟩, ⟨(bz2 HB.out GE107.out GE109.out)⟩⟩
     ·replace c10 := Bool.eq_false_iff.mpr c10
      subst c10
      have H1 := hq H
      clear H
      have H := H1
      clear H1
      obtain rfl := Option.some.inj H
      have p108 : 0 <= (x14_1 : Int) := oz
      have q108 : x14_1 < (l0_0.length : Int) := oz
      obtain ⟨ad108, e108, hx108_0, hx108_1, hx108_2, hx108_3, hx108_4⟩ := at_T41 HR0_0.out x14_1 p108 q108
      cases e108
      replace hx108_0 := hz HB.out hx108_0
      replace hx108_1 := hz HB.out hx108_1
      replace hx108_2 := hz HB.out hx108_2
      replace hx108_3 := hz HB.out hx108_3
      replace hx108_4 := hz HB.out hx108_4
      replace p108 := eq_true p108
      replace q108 := eq_true q108
      go_wp2_with (first | ((with_reducible refine gate_dst (N := 4) rfl ?_); refine box_event ?hg (N := 4) ?hd (cs := #[.int .i64 0, .int .i64 0, .int .i64 0, .int .i64 0, .int .i64 0]) (t := 41) ?hr ?_; (case hd => rfl); (case hg => rfl); (case hr => exact vz); intro gb109 hg w17 hbox hb; have BK109 := Aside0.mk (hbox); have GW109 := Aside0.mk ((by rw [hg]; exact (below_size (bz1 HB.out GE107.out)) : w.heap.size <= gb109)); have GE109 := Aside0.mk ((by rw [hg]; exact (below_size (bz1 HB.out GE107.out)) : w.heap.size <= gb109)); replace HB := Aside0.mk (below_step (bz1 HB.out GE107.out) hb); have NB107_109 := Aside0.mk ((by rw [hg]; exact Nat.ne_of_lt (blk_lt (g := gb107) (o := .cells #[.slice (some ad108) l0_0.length c0_0, .slice A0_1 l0_1.length c0_1, .slice A0_2 l0_2.length c0_2, .slice A0_3 l0_3.length c0_3] 29 (0, 0)) (kz BK107.out)) : gb107 ≠ gb109)); have NB109_107 := Aside0.mk ((by rw [hg]; exact Nat.ne_of_gt (blk_lt (g := gb107) (o := .cells #[.slice (some ad108) l0_0.length c0_0, .slice A0_1 l0_1.length c0_1, .slice A0_2 l0_2.length c0_2, .slice A0_3 l0_3.length c0_3] 29 (0, 0)) (kz BK107.out)) : gb109 ≠ gb107)); replace BK107 := Aside0.mk (blk_below (kz BK107.out) hb); clear hb hbox hg; have hnb18 := NB109_107.out; have hnc18 := NB107_109.out; obtain ⟨hcz19_0, hcz19_1, hcz19_2, hcz19_3, hcz19_4⟩ := cz5 BK109.out; obtain ⟨hfz19_0, hfz19_1, hfz19_2, hfz19_3, hfz19_4⟩ := fz5 BK109.out; obtain ⟨hcz20_0, hcz20_1, hcz20_2, hcz20_3⟩ := cz4 BK107.out; obtain ⟨hfz20_0, hfz20_1, hfz20_2, hfz20_3⟩ := fz4 BK107.out) | ((with_reducible refine gate_callee (f := 13) rfl ?_); refine goesL_ (some 22) rfl rfl Tryd.func13 (by kernel_rfl) rfl #[.agg #[.slice (some ad108) l0_0.length c0_0, .slice A0_1 l0_1.length c0_1, .slice A0_2 l0_2.length c0_2, .slice A0_3 l0_3.length c0_3], .agg #[.int .i64 ((rd_T41 l0_0 x14_1).f2.f0), .int .i64 ((rd_T41 l0_0 x14_1).f2.f1)]] rfl lz ?_; (with_reducible refine (impl_ValOk.calls k1 _ _ l0_0 _ _ l0_1 _ _ l0_2 _ _ l0_3 ((rd_T41 l0_0 x14_1).f2.f0) ((rd_T41 l0_0 x14_1).f2.f1) true _ ?side1 ?side2 ?side3 ?side4 ?side5 ?side6 ?side7 ?side8 A7.out).mono ?_); (case side1 => exact Kd.C_below HR0_0.out (bz2 HB.out GE107.out GE109.out)); (case side2 => exact HC0_0.out); (case side3 => exact Kd.C_below HR0_1.out (bz2 HB.out GE107.out GE109.out)); (case side4 => exact HC0_1.out); (case side5 => exact Kd.C_below HR0_2.out (bz2 HB.out GE107.out GE109.out)); (case side6 => exact HC0_2.out); (case side7 => exact Kd.C_below HR0_3.out (bz2 HB.out GE107.out GE109.out)); (case side8 => exact HC0_3.out); rintro e w21 ⟨rfl, hb⟩; refine ⟨_, rfl, ?_⟩; replace BK107 := Aside0.mk (blk_below (g := gb107) (o := .cells #[.slice (some ad108) l0_0.length c0_0, .slice A0_1 l0_1.length c0_1, .slice A0_2 l0_2.length c0_2, .slice A0_3 l0_3.length c0_3] 29 (0, 0)) (by refine kq ?_; refine blk_far ?_ NB107_109.out _; refine kq ?_; refine blk_far ?_ NB107_109.out _; refine kq ?_; refine blk_far ?_ NB107_109.out _; refine kq ?_; refine blk_far ?_ NB107_109.out _; refine kq ?_; refine blk_far ?_ NB107_109.out _; refine kq ?_; exact BK107.out) hb); replace BK109 := Aside0.mk (blk_below (g := gb109) (o := .cells #[.int .i64 ((rd_T41 l0_0 x14_1).f0), .int .i64 ((rd_T41 l0_0 x14_1).f1), .int .i64 ((rd_T41 l0_0 x14_1).f2.f0), .int .i64 ((rd_T41 l0_0 x14_1).f2.f1), .int .i64 ((rd_T41 l0_0 x14_1).f3)] 41 (0, 0)) (by refine kq ?_; refine blk_put (cs := #[.int .i64 ((rd_T41 l0_0 x14_1).f0), .int .i64 ((rd_T41 l0_0 x14_1).f1), .int .i64 ((rd_T41 l0_0 x14_1).f2.f0), .int .i64 ((rd_T41 l0_0 x14_1).f2.f1), .int .i64 0]) ?_ 4 _ rfl; refine kq ?_; refine blk_put (cs := #[.int .i64 ((rd_T41 l0_0 x14_1).f0), .int .i64 ((rd_T41 l0_0 x14_1).f1), .int .i64 ((rd_T41 l0_0 x14_1).f2.f0), .int .i64 0, .int .i64 0]) ?_ 3 _ rfl; refine kq ?_; refine blk_put (cs := #[.int .i64 ((rd_T41 l0_0 x14_1).f0), .int .i64 ((rd_T41 l0_0 x14_1).f1), .int .i64 0, .int .i64 0, .int .i64 0]) ?_ 2 _ rfl; refine kq ?_; refine blk_put (cs := #[.int .i64 ((rd_T41 l0_0 x14_1).f0), .int .i64 0, .int .i64 0, .int .i64 0, .int .i64 0]) ?_ 1 _ rfl; refine kq ?_; refine blk_put (cs := #[.int .i64 0, .int .i64 0, .int .i64 0, .int .i64 0, .int .i64 0]) ?_ 0 _ rfl; refine kq ?_; exact BK109.out) hb); replace HB := Aside0.mk (below_step (bz2 HB.out GE107.out GE109.out) hb); (try clear hb); obtain ⟨hcz22_0, hcz22_1, hcz22_2, hcz22_3, hcz22_4⟩ := cz5 BK109.out; obtain ⟨hfz22_0, hfz22_1, hfz22_2, hfz22_3, hfz22_4⟩ := fz5 BK109.out) | (go_at_call 42; (with_reducible refine (impl_in.calls ((rd_T41 l0_0 x14_1).f3) (-1) (wrap64 (x14_1 - 1)) false _ A9.out).mono ?_); rintro e w' ⟨rfl, ⟨nd, rfl⟩⟩))
      go_ret
      exact ⟨gz, (bz2 HB.out GE107.out GE109.out)⟩
    ·replace c8 := Bool.eq_false_iff.mpr c8
     subst c8
     have H1 := hq H
     clear H
     have H := H1
     clear H1
     obtain rfl := Option.some.inj H
     have p108 : 0 <= (x14_1 : Int) := oz
     have q108 : x14_1 < (l0_0.length : Int) := oz
     obtain ⟨ad108, e108, hx108_0, hx108_1, hx108_2, hx108_3, hx108_4⟩ := at_T41 HR0_0.out x14_1 p108 q108
     cases e108
     replace hx108_0 := hz HB.out hx108_0
     replace hx108_1 := hz HB.out hx108_1
     replace hx108_2 := hz HB.out hx108_2
     replace hx108_3 := hz HB.out hx108_3
     replace hx108_4 := hz HB.out hx108_4
     replace p108 := eq_true p108
     replace q108 := eq_true q108
     go_wp2_with (first | ((with_reducible refine gate_dst (N := 4) rfl ?_); refine box_event ?hg (N := 4) ?hd (cs := #[.int .i64 0, .int .i64 0, .int .i64 0, .int .i64 0, .int .i64 0]) (t := 41) ?hr ?_; (case hd => rfl); (case hg => rfl); (case hr => exact vz); intro gb109 hg w23 hbox hb; have BK109 := Aside0.mk (hbox); have GW109 := Aside0.mk ((by rw [hg]; exact (below_size (bz1 HB.out GE107.out)) : w.heap.size <= gb109)); have GE109 := Aside0.mk ((by rw [hg]; exact (below_size (bz1 HB.out GE107.out)) : w.heap.size <= gb109)); replace HB := Aside0.mk (below_step (bz1 HB.out GE107.out) hb); have NB107_109 := Aside0.mk ((by rw [hg]; exact Nat.ne_of_lt (blk_lt (g := gb107) (o := .cells #[.slice (some ad108) l0_0.length c0_0, .slice A0_1 l0_1.length c0_1, .slice A0_2 l0_2.length c0_2, .slice A0_3 l0_3.length c0_3] 29 (0, 0)) (kz BK107.out)) : gb107 ≠ gb109)); have NB109_107 := Aside0.mk ((by rw [hg]; exact Nat.ne_of_gt (blk_lt (g := gb107) (o := .cells #[.slice (some ad108) l0_0.length c0_0, .slice A0_1 l0_1.length c0_1, .slice A0_2 l0_2.length c0_2, .slice A0_3 l0_3.length c0_3] 29 (0, 0)) (kz BK107.out)) : gb109 ≠ gb107)); replace BK107 := Aside0.mk (blk_below (kz BK107.out) hb); clear hb hbox hg; have hnb24 := NB109_107.out; have hnc24 := NB107_109.out; obtain ⟨hcz25_0, hcz25_1, hcz25_2, hcz25_3, hcz25_4⟩ := cz5 BK109.out; obtain ⟨hfz25_0, hfz25_1, hfz25_2, hfz25_3, hfz25_4⟩ := fz5 BK109.out; obtain ⟨hcz26_0, hcz26_1, hcz26_2, hcz26_3⟩ := cz4 BK107.out; obtain ⟨hfz26_0, hfz26_1, hfz26_2, hfz26_3⟩ := fz4 BK107.out) | ((with_reducible refine gate_callee (f := 13) rfl ?_); refine goesL_ (some 22) rfl rfl Tryd.func13 (by kernel_rfl) rfl #[.agg #[.slice (some ad108) l0_0.length c0_0, .slice A0_1 l0_1.length c0_1, .slice A0_2 l0_2.length c0_2, .slice A0_3 l0_3.length c0_3], .agg #[.int .i64 ((rd_T41 l0_0 x14_1).f2.f0), .int .i64 ((rd_T41 l0_0 x14_1).f2.f1)]] rfl lz ?_; (with_reducible refine (impl_ValOk.calls k1 _ _ l0_0 _ _ l0_1 _ _ l0_2 _ _ l0_3 ((rd_T41 l0_0 x14_1).f2.f0) ((rd_T41 l0_0 x14_1).f2.f1) false _ ?side1 ?side2 ?side3 ?side4 ?side5 ?side6 ?side7 ?side8 A7.out).mono ?_); (case side1 => exact Kd.C_below HR0_0.out (bz2 HB.out GE107.out GE109.out)); (case side2 => exact HC0_0.out); (case side3 => exact Kd.C_below HR0_1.out (bz2 HB.out GE107.out GE109.out)); (case side4 => exact HC0_1.out); (case side5 => exact Kd.C_below HR0_2.out (bz2 HB.out GE107.out GE109.out)); (case side6 => exact HC0_2.out); (case side7 => exact Kd.C_below HR0_3.out (bz2 HB.out GE107.out GE109.out)); (case side8 => exact HC0_3.out); rintro e w27 ⟨rfl, hb⟩; refine ⟨_, rfl, ?_⟩; replace BK107 := Aside0.mk (blk_below (g := gb107) (o := .cells #[.slice (some ad108) l0_0.length c0_0, .slice A0_1 l0_1.length c0_1, .slice A0_2 l0_2.length c0_2, .slice A0_3 l0_3.length c0_3] 29 (0, 0)) (by refine kq ?_; refine blk_far ?_ NB107_109.out _; refine kq ?_; refine blk_far ?_ NB107_109.out _; refine kq ?_; refine blk_far ?_ NB107_109.out _; refine kq ?_; refine blk_far ?_ NB107_109.out _; refine kq ?_; refine blk_far ?_ NB107_109.out _; refine kq ?_; exact BK107.out) hb); replace BK109 := Aside0.mk (blk_below (g := gb109) (o := .cells #[.int .i64 ((rd_T41 l0_0 x14_1).f0), .int .i64 ((rd_T41 l0_0 x14_1).f1), .int .i64 ((rd_T41 l0_0 x14_1).f2.f0), .int .i64 ((rd_T41 l0_0 x14_1).f2.f1), .int .i64 ((rd_T41 l0_0 x14_1).f3)] 41 (0, 0)) (by refine kq ?_; refine blk_put (cs := #[.int .i64 ((rd_T41 l0_0 x14_1).f0), .int .i64 ((rd_T41 l0_0 x14_1).f1), .int .i64 ((rd_T41 l0_0 x14_1).f2.f0), .int .i64 ((rd_T41 l0_0 x14_1).f2.f1), .int .i64 0]) ?_ 4 _ rfl; refine kq ?_; refine blk_put (cs := #[.int .i64 ((rd_T41 l0_0 x14_1).f0), .int .i64 ((rd_T41 l0_0 x14_1).f1), .int .i64 ((rd_T41 l0_0 x14_1).f2.f0), .int .i64 0, .int .i64 0]) ?_ 3 _ rfl; refine kq ?_; refine blk_put (cs := #[.int .i64 ((rd_T41 l0_0 x14_1).f0), .int .i64 ((rd_T41 l0_0 x14_1).f1), .int .i64 0, .int .i64 0, .int .i64 0]) ?_ 2 _ rfl; refine kq ?_; refine blk_put (cs := #[.int .i64 ((rd_T41 l0_0 x14_1).f0), .int .i64 0, .int .i64 0, .int .i64 0, .int .i64 0]) ?_ 1 _ rfl; refine kq ?_; refine blk_put (cs := #[.int .i64 0, .int .i64 0, .int .i64 0, .int .i64 0, .int .i64 0]) ?_ 0 _ rfl; refine kq ?_; exact BK109.out) hb); replace HB := Aside0.mk (below_step (bz2 HB.out GE107.out GE109.out) hb); (try clear hb); (try clear hi)))
     go_ret
     exact ⟨gz, (bz2 HB.out GE107.out GE109.out)⟩
   ·rw [if_neg c4] at H
    have c4b0 := decide_eq_false c4
    clear c4
    have H' := Aside0.mk H
    clear H
    obtain ⟨hcz28_0, hcz28_1, hcz28_2, hcz28_3⟩ := cz4 BK107.out
    obtain ⟨hfz28_0, hfz28_1, hfz28_2, hfz28_3⟩ := fz4 BK107.out
    go_wp2
    go_loopg [36] k1 (fun kq v36 w' => ∃ (x36_2 : Int), v36 = .int .i64 x36_2 /\ Aside0 (impl_HeapOk.l1 kq l0_1 (l0_1.length : Int) x36_2 l0_0 l0_1 l0_2 l0_3 = some r) /\ Aside0 (kq <= k1) /\ Aside0 (w'.heap[gb107]? = some (.cells #[(.slice A0_0 l0_0.length c0_0), (.slice A0_1 l0_1.length c0_1), (.slice A0_2 l0_2.length c0_2), (.slice A0_3 l0_3.length c0_3)] 29 (0, 0))) /\ Aside0 (Below w.heap.size w w'))
    case atStart => exact ⟨(0), ez, H', ⟨Nat.le_refl _⟩, ⟨by refine kq ?_; exact BK107.out⟩, ⟨(bz1 HB.out GE107.out)⟩⟩
    case round =>
     clear H'
     try clear c1
     try clear p1
     try clear q1
     try clear hx1
     try clear c2
     try clear p2
     try clear c4
     try clear c4b0
     try clear c5
     try clear c5b0
     try clear c6
     try clear c6b0
     try clear p6
     try clear c8
     try clear c10
     try clear p10
     try clear q10
     try clear hx10
     try clear c12
     try clear c13
     try clear c18
     try clear c24
     try clear hcz13_0 hcz13_1 hcz13_2 hcz13_3 hcz13_4
     try clear hcz14_0 hcz14_1 hcz14_2 hcz14_3
     try clear hcz16_0 hcz16_1 hcz16_2 hcz16_3 hcz16_4
     try clear hcz19_0 hcz19_1 hcz19_2 hcz19_3 hcz19_4
     try clear hcz20_0 hcz20_1 hcz20_2 hcz20_3
     try clear hcz22_0 hcz22_1 hcz22_2 hcz22_3 hcz22_4
     try clear hcz25_0 hcz25_1 hcz25_2 hcz25_3 hcz25_4
     try clear hcz26_0 hcz26_1 hcz26_2 hcz26_3
     try clear hcz28_0 hcz28_1 hcz28_2 hcz28_3
     try clear hcz3_0 hcz3_1 hcz3_2 hcz3_3
     try clear hfz13_0 hfz13_1 hfz13_2 hfz13_3 hfz13_4
     try clear hfz14_0 hfz14_1 hfz14_2 hfz14_3
     try clear hfz16_0 hfz16_1 hfz16_2 hfz16_3 hfz16_4
     try clear hfz19_0 hfz19_1 hfz19_2 hfz19_3 hfz19_4
     try clear hfz20_0 hfz20_1 hfz20_2 hfz20_3
     try clear hfz22_0 hfz22_1 hfz22_2 hfz22_3 hfz22_4
     try clear hfz25_0 hfz25_1 hfz25_2 hfz25_3 hfz25_4
     try clear hfz26_0 hfz26_1 hfz26_2 hfz26_3
     try clear hfz28_0 hfz28_1 hfz28_2 hfz28_3
     try clear hfz3_0 hfz3_1 hfz3_2 hfz3_3
     try clear hx108_0
     try clear hx108_1
     try clear hx108_2
     try clear hx108_3
     try clear hx108_4
     try clear p108
     try clear p2
     try clear q108
     obtain ⟨x36_2, rfl, HA, HK2, BK107, HB⟩ := hrel
     cases gk with
     | zero => exact absurd HA.out (by simp [impl_HeapOk.l1])
     | succ k2 =>
      have H := HA.out
      clear HA
      simp only [impl_HeapOk.l1] at H
      by_cases c29 : x36_2 < (l0_1.length : Int)
      ·rw [if_pos c29] at H
       have c29b0 := decide_eq_true c29
       clear c29
       replace H := iz H
       obtain ⟨c30, H⟩ := H
       have c30b0 := decide_eq_true c30
       clear c30
       replace H := iz H
       obtain ⟨c31, H⟩ := H
       have c31b0 := decide_eq_true c31
       clear c31
       replace H := bi H
       obtain ⟨t114, A320, H⟩ := H
       try dsimp only at H
       have A32 := Aside0.mk A320
       clear A320
       by_cases c33 : t114 = true
       ·subst c33
        have H1 := hp H
        clear H
        have H := H1
        clear H1
        have H' := Aside0.mk H
        clear H
        have p112 : 0 <= (x36_2 : Int) := oz
        have q112 : x36_2 < (l0_1.length : Int) := oz
        obtain ⟨ad112, e112, hx112_0, hx112_1⟩ := at_T86 HR0_1.out x36_2 p112 q112
        cases e112
        replace hx112_0 := hz HB.out hx112_0
        replace hx112_1 := hz HB.out hx112_1
        replace p112 := eq_true p112
        replace q112 := eq_true q112
        go_wp2_with (first | ((with_reducible refine gate_dst (N := 6) rfl ?_); refine box_event ?hg (N := 6) ?hd (cs := #[.int .i64 0, .int .i64 0]) (t := 86) ?hr ?_; (case hd => rfl); (case hg => rfl); (case hr => exact vz); intro gb113 hg w34 hbox hb; have BK113 := Aside0.mk (hbox); have GW113 := Aside0.mk ((by rw [hg]; exact (below_size (bz1 HB.out GE107.out)) : w.heap.size <= gb113)); have GE113 := Aside0.mk ((by rw [hg]; exact (below_size (bz1 HB.out GE107.out)) : w.heap.size <= gb113)); replace HB := Aside0.mk (below_step (bz1 HB.out GE107.out) hb); have NB107_113 := Aside0.mk ((by rw [hg]; exact Nat.ne_of_lt (blk_lt (g := gb107) (o := .cells #[.slice A0_0 l0_0.length c0_0, .slice (some ad112) l0_1.length c0_1, .slice A0_2 l0_2.length c0_2, .slice A0_3 l0_3.length c0_3] 29 (0, 0)) (kz BK107.out)) : gb107 ≠ gb113)); have NB113_107 := Aside0.mk ((by rw [hg]; exact Nat.ne_of_gt (blk_lt (g := gb107) (o := .cells #[.slice A0_0 l0_0.length c0_0, .slice (some ad112) l0_1.length c0_1, .slice A0_2 l0_2.length c0_2, .slice A0_3 l0_3.length c0_3] 29 (0, 0)) (kz BK107.out)) : gb113 ≠ gb107)); replace BK107 := Aside0.mk (blk_below (kz BK107.out) hb); clear hb hbox hg; have hnb35 := NB113_107.out; have hnc35 := NB107_113.out; obtain ⟨hcz36_0, hcz36_1⟩ := cz2 BK113.out; obtain ⟨hfz36_0, hfz36_1⟩ := fz2 BK113.out; obtain ⟨hcz37_0, hcz37_1, hcz37_2, hcz37_3⟩ := cz4 BK107.out; obtain ⟨hfz37_0, hfz37_1, hfz37_2, hfz37_3⟩ := fz4 BK107.out) | ((with_reducible refine gate_callee (f := 42) rfl ?_); refine goesL_ (some 46) rfl rfl Tryd.func42 (by kernel_rfl) rfl #[.int .i64 ((rd_T86 l0_1 x36_2).f1), .int .i64 (-1), .int .i64 (wrap64 ((l0_0.length : Int) - 1))] rfl lz ?_; (with_reducible refine (impl_in.calls ((rd_T86 l0_1 x36_2).f1) (-1) (wrap64 ((l0_0.length : Int) - 1)) true _ A32.out).mono ?_); rintro e w' ⟨rfl, ⟨nd, rfl⟩⟩; refine ⟨_, rfl, ?_⟩))
        go_roundg k2
        case measure => have := HK1.out; have := HK2.out; omega
        case rel => exact ⟨(wrap64 (x36_2 + 1)), ez, H', ⟨by have := HK1.out; have := HK2.out; omega⟩, ⟨by refine kq ?_; refine blk_far ?_ NB107_113.out _; refine kq ?_; refine blk_far ?_ NB107_113.out _; refine kq ?_; exact BK107.out⟩, ⟨(bz2 HB.out GE107.out GE113.out)⟩⟩
       ·replace c33 := Bool.eq_false_iff.mpr c33
        subst c33
        have H1 := hq H
        clear H
        have H := H1
        clear H1
        obtain rfl := Option.some.inj H
        have p112 : 0 <= (x36_2 : Int) := oz
        have q112 : x36_2 < (l0_1.length : Int) := oz
        obtain ⟨ad112, e112, hx112_0, hx112_1⟩ := at_T86 HR0_1.out x36_2 p112 q112
        cases e112
        replace hx112_0 := hz HB.out hx112_0
        replace hx112_1 := hz HB.out hx112_1
        replace p112 := eq_true p112
        replace q112 := eq_true q112
        go_wp2_with (first | ((with_reducible refine gate_dst (N := 6) rfl ?_); refine box_event ?hg (N := 6) ?hd (cs := #[.int .i64 0, .int .i64 0]) (t := 86) ?hr ?_; (case hd => rfl); (case hg => rfl); (case hr => exact vz); intro gb113 hg w38 hbox hb; have BK113 := Aside0.mk (hbox); have GW113 := Aside0.mk ((by rw [hg]; exact (below_size (bz1 HB.out GE107.out)) : w.heap.size <= gb113)); have GE113 := Aside0.mk ((by rw [hg]; exact (below_size (bz1 HB.out GE107.out)) : w.heap.size <= gb113)); replace HB := Aside0.mk (below_step (bz1 HB.out GE107.out) hb); have NB107_113 := Aside0.mk ((by rw [hg]; exact Nat.ne_of_lt (blk_lt (g := gb107) (o := .cells #[.slice A0_0 l0_0.length c0_0, .slice (some ad112) l0_1.length c0_1, .slice A0_2 l0_2.length c0_2, .slice A0_3 l0_3.length c0_3] 29 (0, 0)) (kz BK107.out)) : gb107 ≠ gb113)); have NB113_107 := Aside0.mk ((by rw [hg]; exact Nat.ne_of_gt (blk_lt (g := gb107) (o := .cells #[.slice A0_0 l0_0.length c0_0, .slice (some ad112) l0_1.length c0_1, .slice A0_2 l0_2.length c0_2, .slice A0_3 l0_3.length c0_3] 29 (0, 0)) (kz BK107.out)) : gb113 ≠ gb107)); replace BK107 := Aside0.mk (blk_below (kz BK107.out) hb); clear hb hbox hg; have hnb39 := NB113_107.out; have hnc39 := NB107_113.out; obtain ⟨hcz40_0, hcz40_1⟩ := cz2 BK113.out; obtain ⟨hfz40_0, hfz40_1⟩ := fz2 BK113.out; obtain ⟨hcz41_0, hcz41_1, hcz41_2, hcz41_3⟩ := cz4 BK107.out; obtain ⟨hfz41_0, hfz41_1, hfz41_2, hfz41_3⟩ := fz4 BK107.out) | ((with_reducible refine gate_callee (f := 42) rfl ?_); refine goesL_ (some 46) rfl rfl Tryd.func42 (by kernel_rfl) rfl #[.int .i64 ((rd_T86 l0_1 x36_2).f1), .int .i64 (-1), .int .i64 (wrap64 ((l0_0.length : Int) - 1))] rfl lz ?_; (with_reducible refine (impl_in.calls ((rd_T86 l0_1 x36_2).f1) (-1) (wrap64 ((l0_0.length : Int) - 1)) false _ A32.out).mono ?_); rintro e w' ⟨rfl, ⟨nd, rfl⟩⟩; refine ⟨_, rfl, ?_⟩))
        go_ret
        exact ⟨gz, (bz2 HB.out GE107.out GE113.out)⟩
      ·rw [if_neg c29] at H
       have c29b0 := decide_eq_false c29
       clear c29
       have H' := Aside0.mk H
       clear H
       obtain ⟨hcz42_0, hcz42_1, hcz42_2, hcz42_3⟩ := cz4 BK107.out
       obtain ⟨hfz42_0, hfz42_1, hfz42_2, hfz42_3⟩ := fz4 BK107.out
       go_wp2
       go_loopg [52] k2 (fun kq v52 w' => ∃ (x52_3 : Int), v52 = .int .i64 x52_3 /\ Aside0 (impl_HeapOk.l2 kq l0_2 (l0_2.length : Int) x52_3 l0_0 l0_1 l0_2 l0_3 = some r) /\ Aside0 (kq <= k2) /\ Aside0 (w'.heap[gb107]? = some (.cells #[(.slice A0_0 l0_0.length c0_0), (.slice A0_1 l0_1.length c0_1), (.slice A0_2 l0_2.length c0_2), (.slice A0_3 l0_3.length c0_3)] 29 (0, 0))) /\ Aside0 (Below w.heap.size w w'))
       case atStart => exact ⟨(0), ez, H', ⟨Nat.le_refl _⟩, ⟨by refine kq ?_; exact BK107.out⟩, ⟨(bz1 HB.out GE107.out)⟩⟩
       case round =>
        clear H'
        try clear c1
        try clear p1
        try clear q1
        try clear hx1
        try clear c2
        try clear p2
        try clear c3
        try clear c4
        try clear c4b0
        try clear c5
        try clear c5b0
        try clear c6
        try clear c6b0
        try clear p6
        try clear c8
        try clear c10
        try clear p10
        try clear q10
        try clear hx10
        try clear p11
        try clear q11
        try clear hx11
        try clear c12
        try clear c13
        try clear c18
        try clear c24
        try clear c29
        try clear c29b0
        try clear c30
        try clear c30b0
        try clear c31
        try clear c31b0
        try clear c33
        try clear c35
        try clear c39
        try clear c41
        try clear c42
        try clear hcz13_0 hcz13_1 hcz13_2 hcz13_3 hcz13_4
        try clear hcz14_0 hcz14_1 hcz14_2 hcz14_3
        try clear hcz16_0 hcz16_1 hcz16_2 hcz16_3 hcz16_4
        try clear hcz19_0 hcz19_1 hcz19_2 hcz19_3 hcz19_4
        try clear hcz20_0 hcz20_1 hcz20_2 hcz20_3
        try clear hcz22_0 hcz22_1 hcz22_2 hcz22_3 hcz22_4
        try clear hcz25_0 hcz25_1 hcz25_2 hcz25_3 hcz25_4
        try clear hcz26_0 hcz26_1 hcz26_2 hcz26_3
        try clear hcz28_0 hcz28_1 hcz28_2 hcz28_3
        try clear hcz36_0 hcz36_1
        try clear hcz37_0 hcz37_1 hcz37_2 hcz37_3
        try clear hcz3_0 hcz3_1 hcz3_2 hcz3_3
        try clear hcz40_0 hcz40_1
        try clear hcz41_0 hcz41_1 hcz41_2 hcz41_3
        try clear hcz42_0 hcz42_1 hcz42_2 hcz42_3
        try clear hfz13_0 hfz13_1 hfz13_2 hfz13_3 hfz13_4
        try clear hfz14_0 hfz14_1 hfz14_2 hfz14_3
        try clear hfz16_0 hfz16_1 hfz16_2 hfz16_3 hfz16_4
        try clear hfz19_0 hfz19_1 hfz19_2 hfz19_3 hfz19_4
        try clear hfz20_0 hfz20_1 hfz20_2 hfz20_3
        try clear hfz22_0 hfz22_1 hfz22_2 hfz22_3 hfz22_4
        try clear hfz25_0 hfz25_1 hfz25_2 hfz25_3 hfz25_4
        try clear hfz26_0 hfz26_1 hfz26_2 hfz26_3
        try clear hfz28_0 hfz28_1 hfz28_2 hfz28_3
        try clear hfz36_0 hfz36_1
        try clear hfz37_0 hfz37_1 hfz37_2 hfz37_3
        try clear hfz3_0 hfz3_1 hfz3_2 hfz3_3
        try clear hfz40_0 hfz40_1
        try clear hfz41_0 hfz41_1 hfz41_2 hfz41_3
        try clear hfz42_0 hfz42_1 hfz42_2 hfz42_3
        try clear hx108_0
        try clear hx108_1
        try clear hx108_2
        try clear hx108_3
        try clear hx108_4
        try clear hx112_0
        try clear hx112_1
        try clear p1
        try clear p10
        try clear p108
        try clear p112
        try clear p2
        try clear p6
        try clear q1
        try clear q10
        try clear q108
        try clear q112
        obtain ⟨x52_3, rfl, HA, HK3, BK107, HB⟩ := hrel
        cases gk with
        | zero => exact absurd HA.out (by simp [impl_HeapOk.l2])
        | succ k3 =>
         have H := HA.out
         clear HA
         simp only [impl_HeapOk.l2] at H
         by_cases c43 : x52_3 < (l0_2.length : Int)
         ·rw [if_pos c43] at H
          have c43b0 := decide_eq_true c43
          clear c43
          replace H := iz H
          obtain ⟨c44, H⟩ := H
          have c44b0 := decide_eq_true c44
          clear c44
          replace H := iz H
          obtain ⟨c45, H⟩ := H
          have c45b0 := decide_eq_true c45
          clear c45
          replace H := bi H
          obtain ⟨t117, A460, H⟩ := H
          try dsimp only at H
          have A46 := Aside0.mk A460
          clear A460
          by_cases c47 : t117 = true
          ·subst c47
           have H1 := hp H
           clear H
           have H := H1
           clear H1
           replace H := bi H
           obtain ⟨t118, A480, H⟩ := H
           try dsimp only at H
           have A48 := Aside0.mk A480
           clear A480
           by_cases c49 : t118 = true
           ·subst c49
            have H1 := hp H
            clear H
            have H := H1
            clear H1
            have H' := Aside0.mk H
            clear H
            have p115 : 0 <= (x52_3 : Int) := oz
            have q115 : x52_3 < (l0_2.length : Int) := oz
            obtain ⟨ad115, e115, hx115_0, hx115_1, hx115_2, hx115_3⟩ := at_T47 HR0_2.out x52_3 p115 q115
            cases e115
            replace hx115_0 := hz HB.out hx115_0
            replace hx115_1 := hz HB.out hx115_1
            replace hx115_2 := hz HB.out hx115_2
            replace hx115_3 := hz HB.out hx115_3
            replace p115 := eq_true p115
            replace q115 := eq_true q115
            go_wp2_with (first | ((with_reducible refine gate_dst (N := 8) rfl ?_); refine box_event ?hg (N := 8) ?hd (cs := #[.int .i64 0, .int .i64 0, .int .i64 0, .int .i64 0]) (t := 47) ?hr ?_; (case hd => rfl); (case hg => rfl); (case hr => exact vz); intro gb116 hg w50 hbox hb; have BK116 := Aside0.mk (hbox); have GW116 := Aside0.mk ((by rw [hg]; exact (below_size (bz1 HB.out GE107.out)) : w.heap.size <= gb116)); have GE116 := Aside0.mk ((by rw [hg]; exact (below_size (bz1 HB.out GE107.out)) : w.heap.size <= gb116)); replace HB := Aside0.mk (below_step (bz1 HB.out GE107.out) hb); have NB107_116 := Aside0.mk ((by rw [hg]; exact Nat.ne_of_lt (blk_lt (g := gb107) (o := .cells #[.slice A0_0 l0_0.length c0_0, .slice A0_1 l0_1.length c0_1, .slice (some ad115) l0_2.length c0_2, .slice A0_3 l0_3.length c0_3] 29 (0, 0)) (kz BK107.out)) : gb107 ≠ gb116)); have NB116_107 := Aside0.mk ((by rw [hg]; exact Nat.ne_of_gt (blk_lt (g := gb107) (o := .cells #[.slice A0_0 l0_0.length c0_0, .slice A0_1 l0_1.length c0_1, .slice (some ad115) l0_2.length c0_2, .slice A0_3 l0_3.length c0_3] 29 (0, 0)) (kz BK107.out)) : gb116 ≠ gb107)); replace BK107 := Aside0.mk (blk_below (kz BK107.out) hb); clear hb hbox hg; have hnb51 := NB116_107.out; have hnc51 := NB107_116.out; obtain ⟨hcz52_0, hcz52_1, hcz52_2, hcz52_3⟩ := cz4 BK116.out; obtain ⟨hfz52_0, hfz52_1, hfz52_2, hfz52_3⟩ := fz4 BK116.out; obtain ⟨hcz53_0, hcz53_1, hcz53_2, hcz53_3⟩ := cz4 BK107.out; obtain ⟨hfz53_0, hfz53_1, hfz53_2, hfz53_3⟩ := fz4 BK107.out) | ((with_reducible refine gate_callee (f := 13) rfl ?_); refine goesL_ (some 59) rfl rfl Tryd.func13 (by kernel_rfl) rfl #[.agg #[.slice A0_0 l0_0.length c0_0, .slice A0_1 l0_1.length c0_1, .slice (some ad115) l0_2.length c0_2, .slice A0_3 l0_3.length c0_3], .agg #[.int .i64 ((rd_T47 l0_2 x52_3).f0.f0), .int .i64 ((rd_T47 l0_2 x52_3).f0.f1)]] rfl lz ?_; (with_reducible refine (impl_ValOk.calls k3 _ _ l0_0 _ _ l0_1 _ _ l0_2 _ _ l0_3 ((rd_T47 l0_2 x52_3).f0.f0) ((rd_T47 l0_2 x52_3).f0.f1) true _ ?side1 ?side2 ?side3 ?side4 ?side5 ?side6 ?side7 ?side8 A46.out).mono ?_); (case side1 => exact Kd.C_below HR0_0.out (bz2 HB.out GE107.out GE116.out)); (case side2 => exact HC0_0.out); (case side3 => exact Kd.C_below HR0_1.out (bz2 HB.out GE107.out GE116.out)); (case side4 => exact HC0_1.out); (case side5 => exact Kd.C_below HR0_2.out (bz2 HB.out GE107.out GE116.out)); (case side6 => exact HC0_2.out); (case side7 => exact Kd.C_below HR0_3.out (bz2 HB.out GE107.out GE116.out)); (case side8 => exact HC0_3.out); rintro e w54 ⟨rfl, hb⟩; refine ⟨_, rfl, ?_⟩; replace BK107 := Aside0.mk (blk_below (g := gb107) (o := .cells #[.slice A0_0 l0_0.length c0_0, .slice A0_1 l0_1.length c0_1, .slice (some ad115) l0_2.length c0_2, .slice A0_3 l0_3.length c0_3] 29 (0, 0)) (by refine kq ?_; refine blk_far ?_ NB107_116.out _; refine kq ?_; refine blk_far ?_ NB107_116.out _; refine kq ?_; refine blk_far ?_ NB107_116.out _; refine kq ?_; refine blk_far ?_ NB107_116.out _; refine kq ?_; exact BK107.out) hb); replace BK116 := Aside0.mk (blk_below (g := gb116) (o := .cells #[.int .i64 ((rd_T47 l0_2 x52_3).f0.f0), .int .i64 ((rd_T47 l0_2 x52_3).f0.f1), .int .i64 ((rd_T47 l0_2 x52_3).f1.f0), .int .i64 ((rd_T47 l0_2 x52_3).f1.f1)] 47 (0, 0)) (by refine kq ?_; refine blk_put (cs := #[.int .i64 ((rd_T47 l0_2 x52_3).f0.f0), .int .i64 ((rd_T47 l0_2 x52_3).f0.f1), .int .i64 ((rd_T47 l0_2 x52_3).f1.f0), .int .i64 0]) ?_ 3 _ rfl; refine kq ?_; refine blk_put (cs := #[.int .i64 ((rd_T47 l0_2 x52_3).f0.f0), .int .i64 ((rd_T47 l0_2 x52_3).f0.f1), .int .i64 0, .int .i64 0]) ?_ 2 _ rfl; refine kq ?_; refine blk_put (cs := #[.int .i64 ((rd_T47 l0_2 x52_3).f0.f0), .int .i64 0, .int .i64 0, .int .i64 0]) ?_ 1 _ rfl; refine kq ?_; refine blk_put (cs := #[.int .i64 0, .int .i64 0, .int .i64 0, .int .i64 0]) ?_ 0 _ rfl; refine kq ?_; exact BK116.out) hb); replace HB := Aside0.mk (below_step (bz2 HB.out GE107.out GE116.out) hb); (try clear hb); obtain ⟨hcz55_0, hcz55_1, hcz55_2, hcz55_3⟩ := cz4 BK107.out; obtain ⟨hfz55_0, hfz55_1, hfz55_2, hfz55_3⟩ := fz4 BK107.out; obtain ⟨hcz56_0, hcz56_1, hcz56_2, hcz56_3⟩ := cz4 BK116.out; obtain ⟨hfz56_0, hfz56_1, hfz56_2, hfz56_3⟩ := fz4 BK116.out) | (go_at_call 13; (with_reducible refine (impl_ValOk.calls k3 _ _ l0_0 _ _ l0_1 _ _ l0_2 _ _ l0_3 ((rd_T47 l0_2 x52_3).f1.f0) ((rd_T47 l0_2 x52_3).f1.f1) true _ ?side1 ?side2 ?side3 ?side4 ?side5 ?side6 ?side7 ?side8 A48.out).mono ?_); (case side1 => exact cz (Kd.C_below HR0_0.out HB.out)); (case side2 => exact HC0_0.out); (case side3 => exact cz (Kd.C_below HR0_1.out HB.out)); (case side4 => exact HC0_1.out); (case side5 => exact cz (Kd.C_below HR0_2.out HB.out)); (case side6 => exact HC0_2.out); (case side7 => exact cz (Kd.C_below HR0_3.out HB.out)); (case side8 => exact HC0_3.out); rintro e w57 ⟨rfl, hb⟩; replace BK107 := Aside0.mk (blk_below (kz BK107.out) hb); replace BK116 := Aside0.mk (blk_below (kz BK116.out) hb); replace HB := Aside0.mk (below_step (bz2 HB.out GE107.out GE116.out) hb); (try clear hb); (try clear hi)))
            go_roundg k3
            case measure => have := HK1.out; have := HK2.out; have := HK3.out; omega
            case rel => exact ⟨(wrap64 (x52_3 + 1)), ez, H', ⟨by have := HK1.out; have := HK2.out; have := HK3.out; omega⟩, ⟨by refine kq ?_; exact BK107.out⟩, ⟨(bz2 HB.out GE107.out GE116.out)⟩⟩
           ·replace c49 := Bool.eq_false_iff.mpr c49
            subst c49
            have H1 := hq H
            clear H
            have H := H1
            clear H1
            obtain rfl := Option.some.inj H
            have p115 : 0 <= (x52_3 : Int) := oz
            have q115 : x52_3 < (l0_2.length : Int) := oz
            obtain ⟨ad115, e115, hx115_0, hx115_1, hx115_2, hx115_3⟩ := at_T47 HR0_2.out x52_3 p115 q115
            cases e115
            replace hx115_0 := hz HB.out hx115_0
            replace hx115_1 := hz HB.out hx115_1
            replace hx115_2 := hz HB.out hx115_2
            replace hx115_3 := hz HB.out hx115_3
            replace p115 := eq_true p115
            replace q115 := eq_true q115
            go_wp2_with (first | ((with_reducible refine gate_dst (N := 8) rfl ?_); refine box_event ?hg (N := 8) ?hd (cs := #[.int .i64 0, .int .i64 0, .int .i64 0, .int .i64 0]) (t := 47) ?hr ?_; (case hd => rfl); (case hg => rfl); (case hr => exact vz); intro gb116 hg w58 hbox hb; have BK116 := Aside0.mk (hbox); have GW116 := Aside0.mk ((by rw [hg]; exact (below_size (bz1 HB.out GE107.out)) : w.heap.size <= gb116)); have GE116 := Aside0.mk ((by rw [hg]; exact (below_size (bz1 HB.out GE107.out)) : w.heap.size <= gb116)); replace HB := Aside0.mk (below_step (bz1 HB.out GE107.out) hb); have NB107_116 := Aside0.mk ((by rw [hg]; exact Nat.ne_of_lt (blk_lt (g := gb107) (o := .cells #[.slice A0_0 l0_0.length c0_0, .slice A0_1 l0_1.length c0_1, .slice (some ad115) l0_2.length c0_2, .slice A0_3 l0_3.length c0_3] 29 (0, 0)) (kz BK107.out)) : gb107 ≠ gb116)); have NB116_107 := Aside0.mk ((by rw [hg]; exact Nat.ne_of_gt (blk_lt (g := gb107) (o := .cells #[.slice A0_0 l0_0.length c0_0, .slice A0_1 l0_1.length c0_1, .slice (some ad115) l0_2.length c0_2, .slice A0_3 l0_3.length c0_3] 29 (0, 0)) (kz BK107.out)) : gb116 ≠ gb107)); replace BK107 := Aside0.mk (blk_below (kz BK107.out) hb); clear hb hbox hg; have hnb59 := NB116_107.out; have hnc59 := NB107_116.out; obtain ⟨hcz60_0, hcz60_1, hcz60_2, hcz60_3⟩ := cz4 BK116.out; obtain ⟨hfz60_0, hfz60_1, hfz60_2, hfz60_3⟩ := fz4 BK116.out; obtain ⟨hcz61_0, hcz61_1, hcz61_2, hcz61_3⟩ := cz4 BK107.out; obtain ⟨hfz61_0, hfz61_1, hfz61_2, hfz61_3⟩ := fz4 BK107.out) | ((with_reducible refine gate_callee (f := 13) rfl ?_); refine goesL_ (some 59) rfl rfl Tryd.func13 (by kernel_rfl) rfl #[.agg #[.slice A0_0 l0_0.length c0_0, .slice A0_1 l0_1.length c0_1, .slice (some ad115) l0_2.length c0_2, .slice A0_3 l0_3.length c0_3], .agg #[.int .i64 ((rd_T47 l0_2 x52_3).f0.f0), .int .i64 ((rd_T47 l0_2 x52_3).f0.f1)]] rfl lz ?_; (with_reducible refine (impl_ValOk.calls k3 _ _ l0_0 _ _ l0_1 _ _ l0_2 _ _ l0_3 ((rd_T47 l0_2 x52_3).f0.f0) ((rd_T47 l0_2 x52_3).f0.f1) true _ ?side1 ?side2 ?side3 ?side4 ?side5 ?side6 ?side7 ?side8 A46.out).mono ?_); (case side1 => exact Kd.C_below HR0_0.out (bz2 HB.out GE107.out GE116.out)); (case side2 => exact HC0_0.out); (case side3 => exact Kd.C_below HR0_1.out (bz2 HB.out GE107.out GE116.out)); (case side4 => exact HC0_1.out); (case side5 => exact Kd.C_below HR0_2.out (bz2 HB.out GE107.out GE116.out)); (case side6 => exact HC0_2.out); (case side7 => exact Kd.C_below HR0_3.out (bz2 HB.out GE107.out GE116.out)); (case side8 => exact HC0_3.out); rintro e w62 ⟨rfl, hb⟩; refine ⟨_, rfl, ?_⟩; replace BK107 := Aside0.mk (blk_below (g := gb107) (o := .cells #[.slice A0_0 l0_0.length c0_0, .slice A0_1 l0_1.length c0_1, .slice (some ad115) l0_2.length c0_2, .slice A0_3 l0_3.length c0_3] 29 (0, 0)) (by refine kq ?_; refine blk_far ?_ NB107_116.out _; refine kq ?_; refine blk_far ?_ NB107_116.out _; refine kq ?_; refine blk_far ?_ NB107_116.out _; refine kq ?_; refine blk_far ?_ NB107_116.out _; refine kq ?_; exact BK107.out) hb); replace BK116 := Aside0.mk (blk_below (g := gb116) (o := .cells #[.int .i64 ((rd_T47 l0_2 x52_3).f0.f0), .int .i64 ((rd_T47 l0_2 x52_3).f0.f1), .int .i64 ((rd_T47 l0_2 x52_3).f1.f0), .int .i64 ((rd_T47 l0_2 x52_3).f1.f1)] 47 (0, 0)) (by refine kq ?_; refine blk_put (cs := #[.int .i64 ((rd_T47 l0_2 x52_3).f0.f0), .int .i64 ((rd_T47 l0_2 x52_3).f0.f1), .int .i64 ((rd_T47 l0_2 x52_3).f1.f0), .int .i64 0]) ?_ 3 _ rfl; refine kq ?_; refine blk_put (cs := #[.int .i64 ((rd_T47 l0_2 x52_3).f0.f0), .int .i64 ((rd_T47 l0_2 x52_3).f0.f1), .int .i64 0, .int .i64 0]) ?_ 2 _ rfl; refine kq ?_; refine blk_put (cs := #[.int .i64 ((rd_T47 l0_2 x52_3).f0.f0), .int .i64 0, .int .i64 0, .int .i64 0]) ?_ 1 _ rfl; refine kq ?_; refine blk_put (cs := #[.int .i64 0, .int .i64 0, .int .i64 0, .int .i64 0]) ?_ 0 _ rfl; refine kq ?_; exact BK116.out) hb); replace HB := Aside0.mk (below_step (bz2 HB.out GE107.out GE116.out) hb); (try clear hb); obtain ⟨hcz63_0, hcz63_1, hcz63_2, hcz63_3⟩ := cz4 BK107.out; obtain ⟨hfz63_0, hfz63_1, hfz63_2, hfz63_3⟩ := fz4 BK107.out; obtain ⟨hcz64_0, hcz64_1, hcz64_2, hcz64_3⟩ := cz4 BK116.out; obtain ⟨hfz64_0, hfz64_1, hfz64_2, hfz64_3⟩ := fz4 BK116.out) | (go_at_call 13; (with_reducible refine (impl_ValOk.calls k3 _ _ l0_0 _ _ l0_1 _ _ l0_2 _ _ l0_3 ((rd_T47 l0_2 x52_3).f1.f0) ((rd_T47 l0_2 x52_3).f1.f1) false _ ?side1 ?side2 ?side3 ?side4 ?side5 ?side6 ?side7 ?side8 A48.out).mono ?_); (case side1 => exact cz (Kd.C_below HR0_0.out HB.out)); (case side2 => exact HC0_0.out); (case side3 => exact cz (Kd.C_below HR0_1.out HB.out)); (case side4 => exact HC0_1.out); (case side5 => exact cz (Kd.C_below HR0_2.out HB.out)); (case side6 => exact HC0_2.out); (case side7 => exact cz (Kd.C_below HR0_3.out HB.out)); (case side8 => exact HC0_3.out); rintro e w65 ⟨rfl, hb⟩; replace BK107 := Aside0.mk (blk_below (kz BK107.out) hb); replace BK116 := Aside0.mk (blk_below (kz BK116.out) hb); replace HB := Aside0.mk (below_step (bz2 HB.out GE107.out GE116.out) hb); (try clear hb); (try clear hi)))
            go_ret
            exact ⟨gz, (bz2 HB.out GE107.out GE116.out)⟩
          ·replace c47 := Bool.eq_false_iff.mpr c47
           subst c47
           have H1 := hq H
           clear H
           have H := H1
           clear H1
           obtain rfl := Option.some.inj H
           have p115 : 0 <= (x52_3 : Int) := oz
           have q115 : x52_3 < (l0_2.length : Int) := oz
           obtain ⟨ad115, e115, hx115_0, hx115_1, hx115_2, hx115_3⟩ := at_T47 HR0_2.out x52_3 p115 q115
           cases e115
           replace hx115_0 := hz HB.out hx115_0
           replace hx115_1 := hz HB.out hx115_1
           replace hx115_2 := hz HB.out hx115_2
           replace hx115_3 := hz HB.out hx115_3
           replace p115 := eq_true p115
           replace q115 := eq_true q115
           go_wp2_with (first | ((with_reducible refine gate_dst (N := 8) rfl ?_); refine box_event ?hg (N := 8) ?hd (cs := #[.int .i64 0, .int .i64 0, .int .i64 0, .int .i64 0]) (t := 47) ?hr ?_; (case hd => rfl); (case hg => rfl); (case hr => exact vz); intro gb116 hg w66 hbox hb; have BK116 := Aside0.mk (hbox); have GW116 := Aside0.mk ((by rw [hg]; exact (below_size (bz1 HB.out GE107.out)) : w.heap.size <= gb116)); have GE116 := Aside0.mk ((by rw [hg]; exact (below_size (bz1 HB.out GE107.out)) : w.heap.size <= gb116)); replace HB := Aside0.mk (below_step (bz1 HB.out GE107.out) hb); have NB107_116 := Aside0.mk ((by rw [hg]; exact Nat.ne_of_lt (blk_lt (g := gb107) (o := .cells #[.slice A0_0 l0_0.length c0_0, .slice A0_1 l0_1.length c0_1, .slice (some ad115) l0_2.length c0_2, .slice A0_3 l0_3.length c0_3] 29 (0, 0)) (kz BK107.out)) : gb107 ≠ gb116)); have NB116_107 := Aside0.mk ((by rw [hg]; exact Nat.ne_of_gt (blk_lt (g := gb107) (o := .cells #[.slice A0_0 l0_0.length c0_0, .slice A0_1 l0_1.length c0_1, .slice (some ad115) l0_2.length c0_2, .slice A0_3 l0_3.length c0_3] 29 (0, 0)) (kz BK107.out)) : gb116 ≠ gb107)); replace BK107 := Aside0.mk (blk_below (kz BK107.out) hb); clear hb hbox hg; have hnb67 := NB116_107.out; have hnc67 := NB107_116.out; obtain ⟨hcz68_0, hcz68_1, hcz68_2, hcz68_3⟩ := cz4 BK116.out; obtain ⟨hfz68_0, hfz68_1, hfz68_2, hfz68_3⟩ := fz4 BK116.out; obtain ⟨hcz69_0, hcz69_1, hcz69_2, hcz69_3⟩ := cz4 BK107.out; obtain ⟨hfz69_0, hfz69_1, hfz69_2, hfz69_3⟩ := fz4 BK107.out) | ((with_reducible refine gate_callee (f := 13) rfl ?_); refine goesL_ (some 59) rfl rfl Tryd.func13 (by kernel_rfl) rfl #[.agg #[.slice A0_0 l0_0.length c0_0, .slice A0_1 l0_1.length c0_1, .slice (some ad115) l0_2.length c0_2, .slice A0_3 l0_3.length c0_3], .agg #[.int .i64 ((rd_T47 l0_2 x52_3).f0.f0), .int .i64 ((rd_T47 l0_2 x52_3).f0.f1)]] rfl lz ?_; (with_reducible refine (impl_ValOk.calls k3 _ _ l0_0 _ _ l0_1 _ _ l0_2 _ _ l0_3 ((rd_T47 l0_2 x52_3).f0.f0) ((rd_T47 l0_2 x52_3).f0.f1) false _ ?side1 ?side2 ?side3 ?side4 ?side5 ?side6 ?side7 ?side8 A46.out).mono ?_); (case side1 => exact Kd.C_below HR0_0.out (bz2 HB.out GE107.out GE116.out)); (case side2 => exact HC0_0.out); (case side3 => exact Kd.C_below HR0_1.out (bz2 HB.out GE107.out GE116.out)); (case side4 => exact HC0_1.out); (case side5 => exact Kd.C_below HR0_2.out (bz2 HB.out GE107.out GE116.out)); (case side6 => exact HC0_2.out); (case side7 => exact Kd.C_below HR0_3.out (bz2 HB.out GE107.out GE116.out)); (case side8 => exact HC0_3.out); rintro e w70 ⟨rfl, hb⟩; refine ⟨_, rfl, ?_⟩; replace BK107 := Aside0.mk (blk_below (g := gb107) (o := .cells #[.slice A0_0 l0_0.length c0_0, .slice A0_1 l0_1.length c0_1, .slice (some ad115) l0_2.length c0_2, .slice A0_3 l0_3.length c0_3] 29 (0, 0)) (by refine kq ?_; refine blk_far ?_ NB107_116.out _; refine kq ?_; refine blk_far ?_ NB107_116.out _; refine kq ?_; refine blk_far ?_ NB107_116.out _; refine kq ?_; refine blk_far ?_ NB107_116.out _; refine kq ?_; exact BK107.out) hb); replace BK116 := Aside0.mk (blk_below (g := gb116) (o := .cells #[.int .i64 ((rd_T47 l0_2 x52_3).f0.f0), .int .i64 ((rd_T47 l0_2 x52_3).f0.f1), .int .i64 ((rd_T47 l0_2 x52_3).f1.f0), .int .i64 ((rd_T47 l0_2 x52_3).f1.f1)] 47 (0, 0)) (by refine kq ?_; refine blk_put (cs := #[.int .i64 ((rd_T47 l0_2 x52_3).f0.f0), .int .i64 ((rd_T47 l0_2 x52_3).f0.f1), .int .i64 ((rd_T47 l0_2 x52_3).f1.f0), .int .i64 0]) ?_ 3 _ rfl; refine kq ?_; refine blk_put (cs := #[.int .i64 ((rd_T47 l0_2 x52_3).f0.f0), .int .i64 ((rd_T47 l0_2 x52_3).f0.f1), .int .i64 0, .int .i64 0]) ?_ 2 _ rfl; refine kq ?_; refine blk_put (cs := #[.int .i64 ((rd_T47 l0_2 x52_3).f0.f0), .int .i64 0, .int .i64 0, .int .i64 0]) ?_ 1 _ rfl; refine kq ?_; refine blk_put (cs := #[.int .i64 0, .int .i64 0, .int .i64 0, .int .i64 0]) ?_ 0 _ rfl; refine kq ?_; exact BK116.out) hb); replace HB := Aside0.mk (below_step (bz2 HB.out GE107.out GE116.out) hb); (try clear hb); (try clear hi)))
           go_ret
           exact ⟨gz, (bz2 HB.out GE107.out GE116.out)⟩
         ·rw [if_neg c43] at H
          have c43b0 := decide_eq_false c43
          clear c43
          have H' := Aside0.mk H
          clear H
          obtain ⟨hcz71_0, hcz71_1, hcz71_2, hcz71_3⟩ := cz4 BK107.out
          obtain ⟨hfz71_0, hfz71_1, hfz71_2, hfz71_3⟩ := fz4 BK107.out
          go_wp2
          go_loopg [72] k3 (fun kq v72 w' => ∃ (x72_4 : Int), v72 = .int .i64 x72_4 /\ Aside0 (impl_HeapOk.l3 kq l0_3 (l0_3.length : Int) x72_4 l0_0 l0_1 l0_2 l0_3 = some r) /\ Aside0 (kq <= k3) /\ Aside0 (w'.heap[gb107]? = some (.cells #[(.slice A0_0 l0_0.length c0_0), (.slice A0_1 l0_1.length c0_1), (.slice A0_2 l0_2.length c0_2), (.slice A0_3 l0_3.length c0_3)] 29 (0, 0))) /\ Aside0 (Below w.heap.size w w'))
          case atStart => exact ⟨(0), ez, H', ⟨Nat.le_refl _⟩, ⟨by refine kq ?_; exact BK107.out⟩, ⟨(bz1 HB.out GE107.out)⟩⟩
          case round =>
           clear H'
           try clear c1
           try clear p1
           try clear q1
           try clear hx1
           try clear c2
           try clear p2
           try clear c3
           try clear c4
           try clear c4b0
           try clear c5
           try clear c5b0
           try clear c6
           try clear c6b0
           try clear p6
           try clear c8
           try clear c10
           try clear p10
           try clear q10
           try clear hx10
           try clear p11
           try clear q11
           try clear hx11
           try clear c12
           try clear c13
           try clear c18
           try clear c24
           try clear c29
           try clear c29b0
           try clear c30
           try clear c30b0
           try clear c31
           try clear c31b0
           try clear c33
           try clear c35
           try clear c39
           try clear c41
           try clear c42
           try clear c43
           try clear c43b0
           try clear c44
           try clear c44b0
           try clear c45
           try clear c45b0
           try clear c47
           try clear c49
           try clear c51
           try clear c59
           try clear p64
           try clear c67
           try clear hcz13_0 hcz13_1 hcz13_2 hcz13_3 hcz13_4
           try clear hcz14_0 hcz14_1 hcz14_2 hcz14_3
           try clear hcz16_0 hcz16_1 hcz16_2 hcz16_3 hcz16_4
           try clear hcz19_0 hcz19_1 hcz19_2 hcz19_3 hcz19_4
           try clear hcz20_0 hcz20_1 hcz20_2 hcz20_3
           try clear hcz22_0 hcz22_1 hcz22_2 hcz22_3 hcz22_4
           try clear hcz25_0 hcz25_1 hcz25_2 hcz25_3 hcz25_4
           try clear hcz26_0 hcz26_1 hcz26_2 hcz26_3
           try clear hcz28_0 hcz28_1 hcz28_2 hcz28_3
           try clear hcz36_0 hcz36_1
           try clear hcz37_0 hcz37_1 hcz37_2 hcz37_3
           try clear hcz3_0 hcz3_1 hcz3_2 hcz3_3
           try clear hcz40_0 hcz40_1
           try clear hcz41_0 hcz41_1 hcz41_2 hcz41_3
           try clear hcz42_0 hcz42_1 hcz42_2 hcz42_3
           try clear hcz52_0 hcz52_1 hcz52_2 hcz52_3
           try clear hcz53_0 hcz53_1 hcz53_2 hcz53_3
           try clear hcz55_0 hcz55_1 hcz55_2 hcz55_3
           try clear hcz56_0 hcz56_1 hcz56_2 hcz56_3
           try clear hcz60_0 hcz60_1 hcz60_2 hcz60_3
           try clear hcz61_0 hcz61_1 hcz61_2 hcz61_3
           try clear hcz63_0 hcz63_1 hcz63_2 hcz63_3
           try clear hcz64_0 hcz64_1 hcz64_2 hcz64_3
           try clear hcz68_0 hcz68_1 hcz68_2 hcz68_3
           try clear hcz69_0 hcz69_1 hcz69_2 hcz69_3
           try clear hcz71_0 hcz71_1 hcz71_2 hcz71_3
           try clear hfz13_0 hfz13_1 hfz13_2 hfz13_3 hfz13_4
           try clear hfz14_0 hfz14_1 hfz14_2 hfz14_3
           try clear hfz16_0 hfz16_1 hfz16_2 hfz16_3 hfz16_4
           try clear hfz19_0 hfz19_1 hfz19_2 hfz19_3 hfz19_4
           try clear hfz20_0 hfz20_1 hfz20_2 hfz20_3
           try clear hfz22_0 hfz22_1 hfz22_2 hfz22_3 hfz22_4
           try clear hfz25_0 hfz25_1 hfz25_2 hfz25_3 hfz25_4
           try clear hfz26_0 hfz26_1 hfz26_2 hfz26_3
           try clear hfz28_0 hfz28_1 hfz28_2 hfz28_3
           try clear hfz36_0 hfz36_1
           try clear hfz37_0 hfz37_1 hfz37_2 hfz37_3
           try clear hfz3_0 hfz3_1 hfz3_2 hfz3_3
           try clear hfz40_0 hfz40_1
           try clear hfz41_0 hfz41_1 hfz41_2 hfz41_3
           try clear hfz42_0 hfz42_1 hfz42_2 hfz42_3
           try clear hfz52_0 hfz52_1 hfz52_2 hfz52_3
           try clear hfz53_0 hfz53_1 hfz53_2 hfz53_3
           try clear hfz55_0 hfz55_1 hfz55_2 hfz55_3
           try clear hfz56_0 hfz56_1 hfz56_2 hfz56_3
           try clear hfz60_0 hfz60_1 hfz60_2 hfz60_3
           try clear hfz61_0 hfz61_1 hfz61_2 hfz61_3
           try clear hfz63_0 hfz63_1 hfz63_2 hfz63_3
           try clear hfz64_0 hfz64_1 hfz64_2 hfz64_3
           try clear hfz68_0 hfz68_1 hfz68_2 hfz68_3
           try clear hfz69_0 hfz69_1 hfz69_2 hfz69_3
           try clear hfz71_0 hfz71_1 hfz71_2 hfz71_3
           try clear hx108_0
           try clear hx108_1
           try clear hx108_2
           try clear hx108_3
           try clear hx108_4
           try clear hx112_0
           try clear hx112_1
           try clear hx115_0
           try clear hx115_1
           try clear hx115_2
           try clear hx115_3
           try clear p1
           try clear p10
           try clear p108
           try clear p11
           try clear p112
           try clear p115
           try clear p2
           try clear p6
           try clear q1
           try clear q10
           try clear q108
           try clear q11
           try clear q112
           try clear q115
           obtain ⟨x72_4, rfl, HA, HK4, BK107, HB⟩ := hrel
           cases gk with
           | zero => exact absurd HA.out (by simp [impl_HeapOk.l3])
           | succ k4 =>
            have H := HA.out
            clear HA
            simp only [impl_HeapOk.l3] at H
            by_cases c72 : x72_4 < (l0_3.length : Int)
            ·rw [if_pos c72] at H
             have c72b0 := decide_eq_true c72
             clear c72
             replace H := iz H
             obtain ⟨c73, H⟩ := H
             have c73b0 := decide_eq_true c73
             clear c73
             replace H := iz H
             obtain ⟨c74, H⟩ := H
             have c74b0 := decide_eq_true c74
             clear c74
             replace H := bi H
             obtain ⟨t121, A750, H⟩ := H
             try dsimp only at H
             have A75 := Aside0.mk A750
             clear A750
             by_cases c76 : t121 = true
             ·subst c76
              have H1 := hp H
              clear H
              have H := H1
              clear H1
              have H' := Aside0.mk H
              clear H
              have p119 : 0 <= (x72_4 : Int) := oz
              have q119 : x72_4 < (l0_3.length : Int) := oz
              obtain ⟨ad119, e119, hx119_0, hx119_1⟩ := at_T35 HR0_3.out x72_4 p119 q119
              cases e119
              replace hx119_0 := hz HB.out hx119_0
              replace hx119_1 := hz HB.out hx119_1
              replace p119 := eq_true p119
              replace q119 := eq_true q119
              go_wp2_with (first | ((with_reducible refine gate_dst (N := 10) rfl ?_); refine box_event ?hg (N := 10) ?hd (cs := #[.int .i64 0, .int .i64 0]) (t := 35) ?hr ?_; (case hd => rfl); (case hg => rfl); (case hr => exact vz); intro gb120 hg w77 hbox hb; have BK120 := Aside0.mk (hbox); have GW120 := Aside0.mk ((by rw [hg]; exact (below_size (bz1 HB.out GE107.out)) : w.heap.size <= gb120)); have GE120 := Aside0.mk ((by rw [hg]; exact (below_size (bz1 HB.out GE107.out)) : w.heap.size <= gb120)); replace HB := Aside0.mk (below_step (bz1 HB.out GE107.out) hb); have NB107_120 := Aside0.mk ((by rw [hg]; exact Nat.ne_of_lt (blk_lt (g := gb107) (o := .cells #[.slice A0_0 l0_0.length c0_0, .slice A0_1 l0_1.length c0_1, .slice A0_2 l0_2.length c0_2, .slice (some ad119) l0_3.length c0_3] 29 (0, 0)) (kz BK107.out)) : gb107 ≠ gb120)); have NB120_107 := Aside0.mk ((by rw [hg]; exact Nat.ne_of_gt (blk_lt (g := gb107) (o := .cells #[.slice A0_0 l0_0.length c0_0, .slice A0_1 l0_1.length c0_1, .slice A0_2 l0_2.length c0_2, .slice (some ad119) l0_3.length c0_3] 29 (0, 0)) (kz BK107.out)) : gb120 ≠ gb107)); replace BK107 := Aside0.mk (blk_below (kz BK107.out) hb); clear hb hbox hg; have hnb78 := NB120_107.out; have hnc78 := NB107_120.out; obtain ⟨hcz79_0, hcz79_1⟩ := cz2 BK120.out; obtain ⟨hfz79_0, hfz79_1⟩ := fz2 BK120.out; obtain ⟨hcz80_0, hcz80_1, hcz80_2, hcz80_3⟩ := cz4 BK107.out; obtain ⟨hfz80_0, hfz80_1, hfz80_2, hfz80_3⟩ := fz4 BK107.out) | ((with_reducible refine gate_callee (f := 13) rfl ?_); refine goesL_ (some 78) rfl rfl Tryd.func13 (by kernel_rfl) rfl #[.agg #[.slice A0_0 l0_0.length c0_0, .slice A0_1 l0_1.length c0_1, .slice A0_2 l0_2.length c0_2, .slice (some ad119) l0_3.length c0_3], .agg #[.int .i64 ((rd_T35 l0_3 x72_4).f0), .int .i64 ((rd_T35 l0_3 x72_4).f1)]] rfl lz ?_; (with_reducible refine (impl_ValOk.calls k4 _ _ l0_0 _ _ l0_1 _ _ l0_2 _ _ l0_3 ((rd_T35 l0_3 x72_4).f0) ((rd_T35 l0_3 x72_4).f1) true _ ?side1 ?side2 ?side3 ?side4 ?side5 ?side6 ?side7 ?side8 A75.out).mono ?_); (case side1 => exact Kd.C_below HR0_0.out (bz2 HB.out GE107.out GE120.out)); (case side2 => exact HC0_0.out); (case side3 => exact Kd.C_below HR0_1.out (bz2 HB.out GE107.out GE120.out)); (case side4 => exact HC0_1.out); (case side5 => exact Kd.C_below HR0_2.out (bz2 HB.out GE107.out GE120.out)); (case side6 => exact HC0_2.out); (case side7 => exact Kd.C_below HR0_3.out (bz2 HB.out GE107.out GE120.out)); (case side8 => exact HC0_3.out); rintro e w81 ⟨rfl, hb⟩; refine ⟨_, rfl, ?_⟩; replace BK107 := Aside0.mk (blk_below (g := gb107) (o := .cells #[.slice A0_0 l0_0.length c0_0, .slice A0_1 l0_1.length c0_1, .slice A0_2 l0_2.length c0_2, .slice (some ad119) l0_3.length c0_3] 29 (0, 0)) (by refine kq ?_; refine blk_far ?_ NB107_120.out _; refine kq ?_; refine blk_far ?_ NB107_120.out _; refine kq ?_; exact BK107.out) hb); replace BK120 := Aside0.mk (blk_below (g := gb120) (o := .cells #[.int .i64 ((rd_T35 l0_3 x72_4).f0), .int .i64 ((rd_T35 l0_3 x72_4).f1)] 35 (0, 0)) (by refine kq ?_; refine blk_put (cs := #[.int .i64 ((rd_T35 l0_3 x72_4).f0), .int .i64 0]) ?_ 1 _ rfl; refine kq ?_; refine blk_put (cs := #[.int .i64 0, .int .i64 0]) ?_ 0 _ rfl; refine kq ?_; exact BK120.out) hb); replace HB := Aside0.mk (below_step (bz2 HB.out GE107.out GE120.out) hb); (try clear hb); (try clear hi)))
              go_roundg k4
              case measure => have := HK1.out; have := HK2.out; have := HK3.out; have := HK4.out; omega
              case rel => exact ⟨(wrap64 (x72_4 + 1)), ez, H', ⟨by have := HK1.out; have := HK2.out; have := HK3.out; have := HK4.out; omega⟩, ⟨by refine kq ?_; exact BK107.out⟩, ⟨(bz2 HB.out GE107.out GE120.out)⟩⟩
             ·replace c76 := Bool.eq_false_iff.mpr c76
              subst c76
              have H1 := hq H
              clear H
              have H := H1
              clear H1
              obtain rfl := Option.some.inj H
              have p119 : 0 <= (x72_4 : Int) := oz
              have q119 : x72_4 < (l0_3.length : Int) := oz
              obtain ⟨ad119, e119, hx119_0, hx119_1⟩ := at_T35 HR0_3.out x72_4 p119 q119
              cases e119
              replace hx119_0 := hz HB.out hx119_0
              replace hx119_1 := hz HB.out hx119_1
              replace p119 := eq_true p119
              replace q119 := eq_true q119
              go_wp2_with (first | ((with_reducible refine gate_dst (N := 10) rfl ?_); refine box_event ?hg (N := 10) ?hd (cs := #[.int .i64 0, .int .i64 0]) (t := 35) ?hr ?_; (case hd => rfl); (case hg => rfl); (case hr => exact vz); intro gb120 hg w82 hbox hb; have BK120 := Aside0.mk (hbox); have GW120 := Aside0.mk ((by rw [hg]; exact (below_size (bz1 HB.out GE107.out)) : w.heap.size <= gb120)); have GE120 := Aside0.mk ((by rw [hg]; exact (below_size (bz1 HB.out GE107.out)) : w.heap.size <= gb120)); replace HB := Aside0.mk (below_step (bz1 HB.out GE107.out) hb); have NB107_120 := Aside0.mk ((by rw [hg]; exact Nat.ne_of_lt (blk_lt (g := gb107) (o := .cells #[.slice A0_0 l0_0.length c0_0, .slice A0_1 l0_1.length c0_1, .slice A0_2 l0_2.length c0_2, .slice (some ad119) l0_3.length c0_3] 29 (0, 0)) (kz BK107.out)) : gb107 ≠ gb120)); have NB120_107 := Aside0.mk ((by rw [hg]; exact Nat.ne_of_gt (blk_lt (g := gb107) (o := .cells #[.slice A0_0 l0_0.length c0_0, .slice A0_1 l0_1.length c0_1, .slice A0_2 l0_2.length c0_2, .slice (some ad119) l0_3.length c0_3] 29 (0, 0)) (kz BK107.out)) : gb120 ≠ gb107)); replace BK107 := Aside0.mk (blk_below (kz BK107.out) hb); clear hb hbox hg; have hnb83 := NB120_107.out; have hnc83 := NB107_120.out; obtain ⟨hcz84_0, hcz84_1⟩ := cz2 BK120.out; obtain ⟨hfz84_0, hfz84_1⟩ := fz2 BK120.out; obtain ⟨hcz85_0, hcz85_1, hcz85_2, hcz85_3⟩ := cz4 BK107.out; obtain ⟨hfz85_0, hfz85_1, hfz85_2, hfz85_3⟩ := fz4 BK107.out) | ((with_reducible refine gate_callee (f := 13) rfl ?_); refine goesL_ (some 78) rfl rfl Tryd.func13 (by kernel_rfl) rfl #[.agg #[.slice A0_0 l0_0.length c0_0, .slice A0_1 l0_1.length c0_1, .slice A0_2 l0_2.length c0_2, .slice (some ad119) l0_3.length c0_3], .agg #[.int .i64 ((rd_T35 l0_3 x72_4).f0), .int .i64 ((rd_T35 l0_3 x72_4).f1)]] rfl lz ?_; (with_reducible refine (impl_ValOk.calls k4 _ _ l0_0 _ _ l0_1 _ _ l0_2 _ _ l0_3 ((rd_T35 l0_3 x72_4).f0) ((rd_T35 l0_3 x72_4).f1) false _ ?side1 ?side2 ?side3 ?side4 ?side5 ?side6 ?side7 ?side8 A75.out).mono ?_); (case side1 => exact Kd.C_below HR0_0.out (bz2 HB.out GE107.out GE120.out)); (case side2 => exact HC0_0.out); (case side3 => exact Kd.C_below HR0_1.out (bz2 HB.out GE107.out GE120.out)); (case side4 => exact HC0_1.out); (case side5 => exact Kd.C_below HR0_2.out (bz2 HB.out GE107.out GE120.out)); (case side6 => exact HC0_2.out); (case side7 => exact Kd.C_below HR0_3.out (bz2 HB.out GE107.out GE120.out)); (case side8 => exact HC0_3.out); rintro e w86 ⟨rfl, hb⟩; refine ⟨_, rfl, ?_⟩; replace BK107 := Aside0.mk (blk_below (g := gb107) (o := .cells #[.slice A0_0 l0_0.length c0_0, .slice A0_1 l0_1.length c0_1, .slice A0_2 l0_2.length c0_2, .slice (some ad119) l0_3.length c0_3] 29 (0, 0)) (by refine kq ?_; refine blk_far ?_ NB107_120.out _; refine kq ?_; refine blk_far ?_ NB107_120.out _; refine kq ?_; exact BK107.out) hb); replace BK120 := Aside0.mk (blk_below (g := gb120) (o := .cells #[.int .i64 ((rd_T35 l0_3 x72_4).f0), .int .i64 ((rd_T35 l0_3 x72_4).f1)] 35 (0, 0)) (by refine kq ?_; refine blk_put (cs := #[.int .i64 ((rd_T35 l0_3 x72_4).f0), .int .i64 0]) ?_ 1 _ rfl; refine kq ?_; refine blk_put (cs := #[.int .i64 0, .int .i64 0]) ?_ 0 _ rfl; refine kq ?_; exact BK120.out) hb); replace HB := Aside0.mk (below_step (bz2 HB.out GE107.out GE120.out) hb); (try clear hb); (try clear hi)))
              go_ret
              exact ⟨gz, (bz2 HB.out GE107.out GE120.out)⟩
            ·rw [if_neg c72] at H
             have c72b0 := decide_eq_false c72
             clear c72
             obtain rfl := Option.some.inj H
             go_wp2
             go_ret
             exact ⟨gz, (bz1 HB.out GE107.out)⟩
end Go.Proofs.YtlhofeikcaejpaaDoor.PFnExactShowVal
