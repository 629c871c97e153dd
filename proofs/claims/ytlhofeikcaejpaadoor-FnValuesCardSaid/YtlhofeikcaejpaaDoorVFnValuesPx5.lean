/- PFnValuesx5, of the words and walks that the law FnValues needs; made by this session's program out of printed texts. -/

import Derived.Test.YtlhofeikcaejpaaDoorVFnValuesPx0
import Derived.Test.YtlhofeikcaejpaaDoorVFnValuesPx4
namespace Go.Proofs.YtlhofeikcaejpaaDoor.PFnValues
open Go.RowKit Go.Proofs.YtlhofeikcaejpaaDoorW.PrintWords Go.Proofs.YtlhofeikcaejpaaDoorW.PrintLast Go.Proofs.YtlhofeikcaejpaaDoorW.PrintMore
attribute [local go_sem] max2_int min2_int max_two min_two max_three min_three max_four min_four
set_option linter.unusedVariables false
set_option linter.unusedSimpArgs false
mutual
def impl_HeapOk.l0 : Nat -> List (S41) -> Int -> Int -> List (S41) -> List (S86) -> List (S47) -> List (S35) -> Option (Bool)
 | 0, _, _, _, _, _, _, _ => none
 | k + 1, x12, x13, x14, x261000, x261001, x261002, x261003 => if x14 < x13 then (if 0 <= x14 then (if x14 < (x12.length : Int) then ((impl_ValOk.f k x261000 x261001 x261002 x261003 ((rd_T41 x12 x14).f2.f0) ((rd_T41 x12 x14).f2.f1)).bind fun t263 => (if t263 = true then ((impl_in.f ((rd_T41 x12 x14).f3) (-1) (wrap64 (x14 - 1))).bind fun t264 => (if t264 = true then (impl_HeapOk.l0 k x12 x13 (wrap64 (x14 + 1)) x261000 x261001 x261002 x261003) else (some false))) else (some false))) else (none)) else (none)) else (impl_HeapOk.l1 k x261001 (x261001.length : Int) 0 x261000 x261001 x261002 x261003)
def impl_HeapOk.l1 : Nat -> List (S86) -> Int -> Int -> List (S41) -> List (S86) -> List (S47) -> List (S35) -> Option (Bool)
 | 0, _, _, _, _, _, _, _ => none
 | k + 1, x34, x35, x36, x261000, x261001, x261002, x261003 => if x36 < x35 then (if 0 <= x36 then (if x36 < (x34.length : Int) then ((impl_in.f ((rd_T86 x34 x36).f1) (-1) (wrap64 ((x261000.length : Int) - 1))).bind fun t267 => (if t267 = true then (impl_HeapOk.l1 k x34 x35 (wrap64 (x36 + 1)) x261000 x261001 x261002 x261003) else (some false))) else (none)) else (none)) else (impl_HeapOk.l2 k x261002 (x261002.length : Int) 0 x261000 x261001 x261002 x261003)
def impl_HeapOk.l2 : Nat -> List (S47) -> Int -> Int -> List (S41) -> List (S86) -> List (S47) -> List (S35) -> Option (Bool)
 | 0, _, _, _, _, _, _, _ => none
 | k + 1, x50, x51, x52, x261000, x261001, x261002, x261003 => if x52 < x51 then (if 0 <= x52 then (if x52 < (x50.length : Int) then ((impl_ValOk.f k x261000 x261001 x261002 x261003 ((rd_T47 x50 x52).f0.f0) ((rd_T47 x50 x52).f0.f1)).bind fun t270 => (if t270 = true then ((impl_ValOk.f k x261000 x261001 x261002 x261003 ((rd_T47 x50 x52).f1.f0) ((rd_T47 x50 x52).f1.f1)).bind fun t271 => (if t271 = true then (impl_HeapOk.l2 k x50 x51 (wrap64 (x52 + 1)) x261000 x261001 x261002 x261003) else (some false))) else (some false))) else (none)) else (none)) else (impl_HeapOk.l3 k x261003 (x261003.length : Int) 0 x261000 x261001 x261002 x261003)
def impl_HeapOk.l3 : Nat -> List (S35) -> Int -> Int -> List (S41) -> List (S86) -> List (S47) -> List (S35) -> Option (Bool)
 | 0, _, _, _, _, _, _, _ => none
 | k + 1, x70, x71, x72, x261000, x261001, x261002, x261003 => if x72 < x71 then (if 0 <= x72 then (if x72 < (x70.length : Int) then ((impl_ValOk.f k x261000 x261001 x261002 x261003 ((rd_T35 x70 x72).f0) ((rd_T35 x70 x72).f1)).bind fun t274 => (if t274 = true then (impl_HeapOk.l3 k x70 x71 (wrap64 (x72 + 1)) x261000 x261001 x261002 x261003) else (some false))) else (none)) else (none)) else (some true)
end
def impl_HeapOk.f (k : Nat) (l0_0 : List (S41)) (l0_1 : List (S86)) (l0_2 : List (S47)) (l0_3 : List (S35)) : Option (Bool) := impl_HeapOk.l0 k l0_0 (l0_0.length : Int) 0 l0_0 l0_1 l0_2 l0_3
theorem impl_HeapOk.mono_l : ∀ k, (∀ y0 y1 y2 y3 y4 y5 y6, LeO (impl_HeapOk.l0 k y0 y1 y2 y3 y4 y5 y6) (impl_HeapOk.l0 (k + 1) y0 y1 y2 y3 y4 y5 y6)) /\ (∀ y0 y1 y2 y3 y4 y5 y6, LeO (impl_HeapOk.l1 k y0 y1 y2 y3 y4 y5 y6) (impl_HeapOk.l1 (k + 1) y0 y1 y2 y3 y4 y5 y6)) /\ (∀ y0 y1 y2 y3 y4 y5 y6, LeO (impl_HeapOk.l2 k y0 y1 y2 y3 y4 y5 y6) (impl_HeapOk.l2 (k + 1) y0 y1 y2 y3 y4 y5 y6)) /\ (∀ y0 y1 y2 y3 y4 y5 y6, LeO (impl_HeapOk.l3 k y0 y1 y2 y3 y4 y5 y6) (impl_HeapOk.l3 (k + 1) y0 y1 y2 y3 y4 y5 y6))
 | 0 => ⟨fun _ _ _ _ _ _ _ r h => by simp [impl_HeapOk.l0] at h, fun _ _ _ _ _ _ _ r h => by simp [impl_HeapOk.l1] at h, fun _ _ _ _ _ _ _ r h => by simp [impl_HeapOk.l2] at h, fun _ _ _ _ _ _ _ r h => by simp [impl_HeapOk.l3] at h⟩
 | k + 1 => by
  obtain ⟨ih0, ih1, ih2, ih3⟩ := impl_HeapOk.mono_l k
  refine ⟨?_, ?_, ?_, ?_⟩
  ·intro y0 y1 y2 y3 y4 y5 y6
   unfold impl_HeapOk.l0
   with_reducible repeat' first | exact ih0 _ _ _ _ _ _ _ | exact ih1 _ _ _ _ _ _ _ | exact ih2 _ _ _ _ _ _ _ | exact ih3 _ _ _ _ _ _ _ | exact impl_ValOk.mono _ _ _ _ _ _ _ | exact lrz _ | exact lnz _ | refine liz ?_ ?_ | refine lbz ?_ fun _ => ?_
  ·intro y0 y1 y2 y3 y4 y5 y6
   unfold impl_HeapOk.l1
   with_reducible repeat' first | exact ih0 _ _ _ _ _ _ _ | exact ih1 _ _ _ _ _ _ _ | exact ih2 _ _ _ _ _ _ _ | exact ih3 _ _ _ _ _ _ _ | exact impl_ValOk.mono _ _ _ _ _ _ _ | exact lrz _ | exact lnz _ | refine liz ?_ ?_ | refine lbz ?_ fun _ => ?_
  ·intro y0 y1 y2 y3 y4 y5 y6
   unfold impl_HeapOk.l2
   with_reducible repeat' first | exact ih0 _ _ _ _ _ _ _ | exact ih1 _ _ _ _ _ _ _ | exact ih2 _ _ _ _ _ _ _ | exact ih3 _ _ _ _ _ _ _ | exact impl_ValOk.mono _ _ _ _ _ _ _ | exact lrz _ | exact lnz _ | refine liz ?_ ?_ | refine lbz ?_ fun _ => ?_
  ·intro y0 y1 y2 y3 y4 y5 y6
   unfold impl_HeapOk.l3
   with_reducible repeat' first | exact ih0 _ _ _ _ _ _ _ | exact ih1 _ _ _ _ _ _ _ | exact ih2 _ _ _ _ _ _ _ | exact ih3 _ _ _ _ _ _ _ | exact impl_ValOk.mono _ _ _ _ _ _ _ | exact lrz _ | exact lnz _ | refine liz ?_ ?_ | refine lbz ?_ fun _ => ?_
theorem impl_HeapOk.mono : ∀ a0 a1 a2 a3 k, LeO (impl_HeapOk.f k a0 a1 a2 a3) (impl_HeapOk.f (k + 1) a0 a1 a2 a3) := by
 intro a0 a1 a2 a3 k
 obtain ⟨ih0, ih1, ih2, ih3⟩ := impl_HeapOk.mono_l k
 unfold impl_HeapOk.f
 with_reducible repeat' first | exact ih0 _ _ _ _ _ _ _ | exact ih1 _ _ _ _ _ _ _ | exact ih2 _ _ _ _ _ _ _ | exact ih3 _ _ _ _ _ _ _ | exact impl_ValOk.mono _ _ _ _ _ _ _ | exact lrz _ | exact lnz _ | refine liz ?_ ?_ | refine lbz ?_ fun _ => ?_
set_option maxHeartbeats 80000000 in
set_option maxRecDepth 100000 in
theorem impl_HeapOk.calls (k : Nat) (A0_0 : Option Addr) (c0_0 : Nat) (l0_0 : List (S41)) (A0_1 : Option Addr) (c0_1 : Nat) (l0_1 : List (S86)) (A0_2 : Option Addr) (c0_2 : Nat) (l0_2 : List (S47)) (A0_3 : Option Addr) (c0_3 : Nat) (l0_3 : List (S35)) (r : Bool) (w : World) (hr0_0 : Kd.C k41 w A0_0 l0_0.length l0_0) (hc0_0 : l0_0.length <= c0_0) (hr0_1 : Kd.C k86 w A0_1 l0_1.length l0_1) (hc0_1 : l0_1.length <= c0_1) (hr0_2 : Kd.C k47 w A0_2 l0_2.length l0_2) (hc0_2 : l0_2.length <= c0_2) (hr0_3 : Kd.C k35 w A0_3 l0_3.length l0_3) (hc0_3 : l0_3.length <= c0_3) (h : impl_HeapOk.f k l0_0 l0_1 l0_2 l0_3 = some r) :
  Calls Tryd.prog 41 #[.agg #[.slice A0_0 l0_0.length c0_0, .slice A0_1 l0_1.length c0_1, .slice A0_2 l0_2.length c0_2, .slice A0_3 l0_3.length c0_3]] w fun e w' => e = .returned (.bool r) /\ Below w.heap.size w w' := by
 have hu29 := Tryd.underlying29
 have hu41 := Tryd.underlying41
 have hu35 := Tryd.underlying35
 have hu86 := Tryd.underlying86
 have hu47 := Tryd.underlying47
 have HR0_0 := Aside0.mk hr0_0
 have HC0_0 := Aside0.mk hc0_0
 clear hr0_0 hc0_0
 have HR0_1 := Aside0.mk hr0_1
 have HC0_1 := Aside0.mk hc0_1
 clear hr0_1 hc0_1
 have HR0_2 := Aside0.mk hr0_2
 have HC0_2 := Aside0.mk hc0_2
 clear hr0_2 hc0_2
 have HR0_3 := Aside0.mk hr0_3
 have HC0_3 := Aside0.mk hc0_3
 clear hr0_3 hc0_3
 have HB := Aside0.mk (Below.refl w.heap.size w)
 have H : (impl_HeapOk.l0 k l0_0 (l0_0.length : Int) 0 l0_0 l0_1 l0_2 l0_3) = some r := h
 clear h
 have H' := Aside0.mk H
 clear H
 go_enter Tryd.func41, Tryd.ntmps41
 go_wp2_with (first | ((with_reducible refine gate_dst (N := 1) rfl ?_); refine box_event ?hg (N := 1) ?hd (cs := #[.slice A0_0 l0_0.length c0_0, .slice A0_1 l0_1.length c0_1, .slice A0_2 l0_2.length c0_2, .slice A0_3 l0_3.length c0_3]) (t := 29) ?hr ?_; (case hd => rfl); (case hg => rfl); (case hr => exact vz); intro gb260 hg w2 hbox hb; have BK260 := Aside0.mk (hbox); have GW260 := Aside0.mk ((by rw [hg]; exact (below_size (bz0 HB.out)) : w.heap.size <= gb260)); have GE260 := GW260; replace HB := Aside0.mk (below_step (bz0 HB.out) hb); clear hb hbox hg; obtain ⟨hcz3_0, hcz3_1, hcz3_2, hcz3_3⟩ := cz4 BK260.out; obtain ⟨hfz3_0, hfz3_1, hfz3_2, hfz3_3⟩ := fz4 BK260.out))
 (try simp only [Act.put, sz1, sz2, sz3])
 go_loopg [14] k (fun kq v14 w' => ∃ (x14_1 : Int), v14 = .int .i64 x14_1 /\ Aside0 (impl_HeapOk.l0 kq l0_0 (l0_0.length : Int) x14_1 l0_0 l0_1 l0_2 l0_3 = some r) /\ Aside0 (kq <= k) /\ Aside0 (w'.heap[gb260]? = some (.cells #[(.slice A0_0 l0_0.length c0_0), (.slice A0_1 l0_1.length c0_1), (.slice A0_2 l0_2.length c0_2), (.slice A0_3 l0_3.length c0_3)] 29 (0, 0))) /\ Aside0 (Below w.heap.size w w'))
 case atStart => exact ⟨(0), ez, H', ⟨Nat.le_refl _⟩, ⟨by refine kq ?_; exact BK260.out⟩, ⟨(bz1 HB.out GE260.out)⟩⟩
 case round =>
  clear H'
  try clear p2
  try clear hcz3_0 hcz3_1 hcz3_2 hcz3_3
  try clear hfz3_0 hfz3_1 hfz3_2 hfz3_3
  obtain ⟨x14_1, rfl, HA, HK1, BK260, HB⟩ := hrel
  cases gk with
  | zero => exact absurd HA.out (by simp [impl_HeapOk.l0])
  | succ k1 =>
   have H := HA.out
   clear HA
   simp only [impl_HeapOk.l0] at H
   by_cases c4 : x14_1 < (l0_0.length : Int)
   ·rw [if_pos c4] at H
    have c4b0 := decide_eq_true c4
    clear c4
    replace H := iz H
    obtain ⟨c5, H⟩ := H
    have c5b0 := decide_eq_true c5
    clear c5
    replace H := iz H
    obtain ⟨c6, H⟩ := H
    have c6b0 := decide_eq_true c6
    clear c6
    replace H := bi H
    obtain ⟨t263, A70, H⟩ := H
    try dsimp only at H
    have A7 := Aside0.mk A70
    clear A70
    by_cases c8 : t263 = true
    ·subst c8
     have H1 := hp H
     clear H
     have H := H1
     clear H1
     replace H := bi H
     obtain ⟨t264, A90, H⟩ := H
     try dsimp only at H
     have A9 := Aside0.mk A90
     clear A90
     by_cases c10 : t264 = true
     ·subst c10
      have H1 := hp H
      clear H
      have H := H1
      clear H1
      have H' := Aside0.mk H
      clear H
      have p261 : 0 <= (x14_1 : Int) := oz
      have q261 : x14_1 < (l0_0.length : Int) := oz
      obtain ⟨ad261, e261, hx261_0, hx261_1, hx261_2, hx261_3, hx261_4⟩ := at_T41 HR0_0.out x14_1 p261 q261
      cases e261
      replace hx261_0 := hz HB.out hx261_0
      replace hx261_1 := hz HB.out hx261_1
      replace hx261_2 := hz HB.out hx261_2
      replace hx261_3 := hz HB.out hx261_3
      replace hx261_4 := hz HB.out hx261_4
      replace p261 := eq_true p261
      replace q261 := eq_true q261
      go_wp2_with (first | ((with_reducible refine gate_dst (N := 4) rfl ?_); refine box_event ?hg (N := 4) ?hd (cs := #[.int .i64 0, .int .i64 0, .int .i64 0, .int .i64 0, .int .i64 0]) (t := 41) ?hr ?_; (case hd => rfl); (case hg => rfl); (case hr => exact vz); intro gb262 hg w11 hbox hb; have BK262 := Aside0.mk (hbox); have GW262 := Aside0.mk ((by rw [hg]; exact (below_size (bz1 HB.out GE260.out)) : w.heap.size <= gb262)); have GE262 := GW262; replace HB := Aside0.mk (below_step (bz1 HB.out GE260.out) hb); have NB260_262 := Aside0.mk ((by rw [hg]; exact Nat.ne_of_lt (blk_lt (kz BK260.out)) : gb260 ≠ gb262)); have NB262_260 := Aside0.mk ((by rw [hg]; exact Nat.ne_of_gt (blk_lt (kz BK260.out)) : gb262 ≠ gb260)); replace BK260 := Aside0.mk (blk_below (kz BK260.out) hb); clear hb hbox hg; have hnb12 := NB262_260.out; have hnc12 := NB260_262.out; obtain ⟨hcz13_0, hcz13_1, hcz13_2, hcz13_3, hcz13_4⟩ := cz5 BK262.out; obtain ⟨hfz13_0, hfz13_1, hfz13_2, hfz13_3, hfz13_4⟩ := fz5 BK262.out; obtain ⟨hcz14_0, hcz14_1, hcz14_2, hcz14_3⟩ := cz4 BK260.out; obtain ⟨hfz14_0, hfz14_1, hfz14_2, hfz14_3⟩ := fz4 BK260.out) | ((with_reducible refine gate_callee (f := 13) rfl ?_); refine goesL_ (some 22) rfl rfl Tryd.func13 (by kernel_rfl) rfl #[.agg #[.slice (some ad261) l0_0.length c0_0, .slice A0_1 l0_1.length c0_1, .slice A0_2 l0_2.length c0_2, .slice A0_3 l0_3.length c0_3], .agg #[.int .i64 ((rd_T41 l0_0 x14_1).f2.f0), .int .i64 ((rd_T41 l0_0 x14_1).f2.f1)]] rfl lz ?_; (with_reducible refine (impl_ValOk.calls k1 _ _ l0_0 _ _ l0_1 _ _ l0_2 _ _ l0_3 ((rd_T41 l0_0 x14_1).f2.f0) ((rd_T41 l0_0 x14_1).f2.f1) true _ ?side1 ?side2 ?side3 ?side4 ?side5 ?side6 ?side7 ?side8 A7.out).mono ?_); (case side1 => exact Kd.C_below HR0_0.out (bz2 HB.out GE260.out GE262.out)); (case side2 => exact HC0_0.out); (case side3 => exact Kd.C_below HR0_1.out (bz2 HB.out GE260.out GE262.out)); (case side4 => exact HC0_1.out); (case side5 => exact Kd.C_below HR0_2.out (bz2 HB.out GE260.out GE262.out)); (case side6 => exact HC0_2.out); (case side7 => exact Kd.C_below HR0_3.out (bz2 HB.out GE260.out GE262.out)); (case side8 => exact HC0_3.out); rintro e w15 ⟨rfl, hb⟩; refine ⟨_, rfl, ?_⟩; replace BK260 := Aside0.mk (blk_below (g := gb260) (o := .cells #[.slice (some ad261) l0_0.length c0_0, .slice A0_1 l0_1.length c0_1, .slice A0_2 l0_2.length c0_2, .slice A0_3 l0_3.length c0_3] 29 (0, 0)) (by refine kq ?_; refine blk_far ?_ NB260_262.out _; refine kq ?_; refine blk_far ?_ NB260_262.out _; refine kq ?_; refine blk_far ?_ NB260_262.out _; refine kq ?_; refine blk_far ?_ NB260_262.out _; refine kq ?_; refine blk_far ?_ NB260_262.out _; refine kq ?_; exact BK260.out) hb); replace BK262 := Aside0.mk (blk_below (g := gb262) (o := .cells #[.int .i64 ((rd_T41 l0_0 x14_1).f0), .int .i64 ((rd_T41 l0_0 x14_1).f1), .int .i64 ((rd_T41 l0_0 x14_1).f2.f0), .int .i64 ((rd_T41 l0_0 x14_1).f2.f1), .int .i64 ((rd_T41 l0_0 x14_1).f3)] 41 (0, 0)) (by refine kq ?_; refine blk_put (cs := #[.int .i64 ((rd_T41 l0_0 x14_1).f0), .int .i64 ((rd_T41 l0_0 x14_1).f1), .int .i64 ((rd_T41 l0_0 x14_1).f2.f0), .int .i64 ((rd_T41 l0_0 x14_1).f2.f1), .int .i64 0]) ?_ 4 _ rfl; refine kq ?_; refine blk_put (cs := #[.int .i64 ((rd_T41 l0_0 x14_1).f0), .int .i64 ((rd_T41 l0_0 x14_1).f1), .int .i64 ((rd_T41 l0_0 x14_1).f2.f0), .int .i64 0, .int .i64 0]) ?_ 3 _ rfl; refine kq ?_; refine blk_put (cs := #[.int .i64 ((rd_T41 l0_0 x14_1).f0), .int .i64 ((rd_T41 l0_0 x14_1).f1), .int .i64 0, .int .i64 0, .int .i64 0]) ?_ 2 _ rfl; refine kq ?_; refine blk_put (cs := #[.int .i64 ((rd_T41 l0_0 x14_1).f0), .int .i64 0, .int .i64 0, .int .i64 0, .int .i64 0]) ?_ 1 _ rfl; refine kq ?_; refine blk_put (cs := #[.int .i64 0, .int .i64 0, .int .i64 0, .int .i64 0, .int .i64 0]) ?_ 0 _ rfl; refine kq ?_; exact BK262.out) hb); replace HB := Aside0.mk (below_step (bz2 HB.out GE260.out GE262.out) hb); (try clear hb); obtain ⟨hcz16_0, hcz16_1, hcz16_2, hcz16_3, hcz16_4⟩ := cz5 BK262.out; obtain ⟨hfz16_0, hfz16_1, hfz16_2, hfz16_3, hfz16_4⟩ := fz5 BK262.out) | (go_at_call 42; (with_reducible refine (impl_in.calls ((rd_T41 l0_0 x14_1).f3) (-1) (wrap64 (x14_1 - 1)) true _ A9.out).mono ?_); rintro e w' ⟨rfl, ⟨nd, rfl⟩⟩))
      go_roundg k1
      case measure => have := HK1.out; omega
      case rel => exact ⟨(wrap64 (x14_1 + 1)), ez, H', ⟨by have := HK1.out; omega⟩, ⟨by refine kq ?_; exact BK260.out⟩, ⟨(bz2 HB.out GE260.out GE262.out)⟩⟩
     ·replace c10 := Bool.eq_false_iff.mpr c10
      subst c10
      have H1 := hq H
      clear H
      have H := H1
      clear H1
      obtain rfl := Option.some.inj H
      have p261 : 0 <= (x14_1 : Int) := oz
      have q261 : x14_1 < (l0_0.length : Int) := oz
      obtain ⟨ad261, e261, hx261_0, hx261_1, hx261_2, hx261_3, hx261_4⟩ := at_T41 HR0_0.out x14_1 p261 q261
      cases e261
      replace hx261_0 := hz HB.out hx261_0
      replace hx261_1 := hz HB.out hx261_1
      replace hx261_2 := hz HB.out hx261_2
      replace hx261_3 := hz HB.out hx261_3
      replace hx261_4 := hz HB.out hx261_4
      replace p261 := eq_true p261
      replace q261 := eq_true q261
      go_wp2_with (first | ((with_reducible refine gate_dst (N := 4) rfl ?_); refine box_event ?hg (N := 4) ?hd (cs := #[.int .i64 0, .int .i64 0, .int .i64 0, .int .i64 0, .int .i64 0]) (t := 41) ?hr ?_; (case hd => rfl); (case hg => rfl); (case hr => exact vz); intro gb262 hg w17 hbox hb; have BK262 := Aside0.mk (hbox); have GW262 := Aside0.mk ((by rw [hg]; exact (below_size (bz1 HB.out GE260.out)) : w.heap.size <= gb262)); have GE262 := GW262; replace HB := Aside0.mk (below_step (bz1 HB.out GE260.out) hb); have NB260_262 := Aside0.mk ((by rw [hg]; exact Nat.ne_of_lt (blk_lt (kz BK260.out)) : gb260 ≠ gb262)); have NB262_260 := Aside0.mk ((by rw [hg]; exact Nat.ne_of_gt (blk_lt (kz BK260.out)) : gb262 ≠ gb260)); replace BK260 := Aside0.mk (blk_below (kz BK260.out) hb); clear hb hbox hg; have hnb18 := NB262_260.out; have hnc18 := NB260_262.out; obtain ⟨hcz19_0, hcz19_1, hcz19_2, hcz19_3, hcz19_4⟩ := cz5 BK262.out; obtain ⟨hfz19_0, hfz19_1, hfz19_2, hfz19_3, hfz19_4⟩ := fz5 BK262.out; obtain ⟨hcz20_0, hcz20_1, hcz20_2, hcz20_3⟩ := cz4 BK260.out; obtain ⟨hfz20_0, hfz20_1, hfz20_2, hfz20_3⟩ := fz4 BK260.out) | ((with_reducible refine gate_callee (f := 13) rfl ?_); refine goesL_ (some 22) rfl rfl Tryd.func13 (by kernel_rfl) rfl #[.agg #[.slice (some ad261) l0_0.length c0_0, .slice A0_1 l0_1.length c0_1, .slice A0_2 l0_2.length c0_2, .slice A0_3 l0_3.length c0_3], .agg #[.int .i64 ((rd_T41 l0_0 x14_1).f2.f0), .int .i64 ((rd_T41 l0_0 x14_1).f2.f1)]] rfl lz ?_; (with_reducible refine (impl_ValOk.calls k1 _ _ l0_0 _ _ l0_1 _ _ l0_2 _ _ l0_3 ((rd_T41 l0_0 x14_1).f2.f0) ((rd_T41 l0_0 x14_1).f2.f1) true _ ?side1 ?side2 ?side3 ?side4 ?side5 ?side6 ?side7 ?side8 A7.out).mono ?_); (case side1 => exact Kd.C_below HR0_0.out (bz2 HB.out GE260.out GE262.out)); (case side2 => exact HC0_0.out); (case side3 => exact Kd.C_below HR0_1.out (bz2 HB.out GE260.out GE262.out)); (case side4 => exact HC0_1.out); (case side5 => exact Kd.C_below HR0_2.out (bz2 HB.out GE260.out GE262.out)); (case side6 => exact HC0_2.out); (case side7 => exact Kd.C_below HR0_3.out (bz2 HB.out GE260.out GE262.out)); (case side8 => exact HC0_3.out); rintro e w21 ⟨rfl, hb⟩; refine ⟨_, rfl, ?_⟩; replace BK260 := Aside0.mk (blk_below (g := gb260) (o := .cells #[.slice (some ad261) l0_0.length c0_0, .slice A0_1 l0_1.length c0_1, .slice A0_2 l0_2.length c0_2, .slice A0_3 l0_3.length c0_3] 29 (0, 0)) (by refine kq ?_; refine blk_far ?_ NB260_262.out _; refine kq ?_; refine blk_far ?_ NB260_262.out _; refine kq ?_; refine blk_far ?_ NB260_262.out _; refine kq ?_; refine blk_far ?_ NB260_262.out _; refine kq ?_; refine blk_far ?_ NB260_262.out _; refine kq ?_; exact BK260.out) hb); replace BK262 := Aside0.mk (blk_below (g := gb262) (o := .cells #[.int .i64 ((rd_T41 l0_0 x14_1).f0), .int .i64 ((rd_T41 l0_0 x14_1).f1), .int .i64 ((rd_T41 l0_0 x14_1).f2.f0), .int .i64 ((rd_T41 l0_0 x14_1).f2.f1), .int .i64 ((rd_T41 l0_0 x14_1).f3)] 41 (0, 0)) (by refine kq ?_; refine blk_put (cs := #[.int .i64 ((rd_T41 l0_0 x14_1).f0), .int .i64 ((rd_T41 l0_0 x14_1).f1), .int .i64 ((rd_T41 l0_0 x14_1).f2.f0), .int .i64 ((rd_T41 l0_0 x14_1).f2.f1), .int .i64 0]) ?_ 4 _ rfl; refine kq ?_; refine blk_put (cs := #[.int .i64 ((rd_T41 l0_0 x14_1).f0), .int .i64 ((rd_T41 l0_0 x14_1).f1), .int .i64 ((rd_T41 l0_0 x14_1).f2.f0), .int .i64 0, .int .i64 0]) ?_ 3 _ rfl; refine kq ?_; refine blk_put (cs := #[.int .i64 ((rd_T41 l0_0 x14_1).f0), .int .i64 ((rd_T41 l0_0 x14_1).f1), .int .i64 0, .int .i64 0, .int .i64 0]) ?_ 2 _ rfl; refine kq ?_; refine blk_put (cs := #[.int .i64 ((rd_T41 l0_0 x14_1).f0), .int .i64 0, .int .i64 0, .int .i64 0, .int .i64 0]) ?_ 1 _ rfl; refine kq ?_; refine blk_put (cs := #[.int .i64 0, .int .i64 0, .int .i64 0, .int .i64 0, .int .i64 0]) ?_ 0 _ rfl; refine kq ?_; exact BK262.out) hb); replace HB := Aside0.mk (below_step (bz2 HB.out GE260.out GE262.out) hb); (try clear hb); obtain ⟨hcz22_0, hcz22_1, hcz22_2, hcz22_3, hcz22_4⟩ := cz5 BK262.out; obtain ⟨hfz22_0, hfz22_1, hfz22_2, hfz22_3, hfz22_4⟩ := fz5 BK262.out) | (go_at_call 42; (with_reducible refine (impl_in.calls ((rd_T41 l0_0 x14_1).f3) (-1) (wrap64 (x14_1 - 1)) false _ A9.out).mono ?_); rintro e w' ⟨rfl, ⟨nd, rfl⟩⟩))
      go_ret
      exact ⟨gz, (bz2 HB.out GE260.out GE262.out)⟩
    ·replace c8 := Bool.eq_false_iff.mpr c8
     subst c8
     have H1 := hq H
     clear H
     have H := H1
     clear H1
     obtain rfl := Option.some.inj H
     have p261 : 0 <= (x14_1 : Int) := oz
     have q261 : x14_1 < (l0_0.length : Int) := oz
     obtain ⟨ad261, e261, hx261_0, hx261_1, hx261_2, hx261_3, hx261_4⟩ := at_T41 HR0_0.out x14_1 p261 q261
     cases e261
     replace hx261_0 := hz HB.out hx261_0
     replace hx261_1 := hz HB.out hx261_1
     replace hx261_2 := hz HB.out hx261_2
     replace hx261_3 := hz HB.out hx261_3
     replace hx261_4 := hz HB.out hx261_4
     replace p261 := eq_true p261
     replace q261 := eq_true q261
     go_wp2_with (first | ((with_reducible refine gate_dst (N := 4) rfl ?_); refine box_event ?hg (N := 4) ?hd (cs := #[.int .i64 0, .int .i64 0, .int .i64 0, .int .i64 0, .int .i64 0]) (t := 41) ?hr ?_; (case hd => rfl); (case hg => rfl); (case hr => exact vz); intro gb262 hg w23 hbox hb; have BK262 := Aside0.mk (hbox); have GW262 := Aside0.mk ((by rw [hg]; exact (below_size (bz1 HB.out GE260.out)) : w.heap.size <= gb262)); have GE262 := GW262; replace HB := Aside0.mk (below_step (bz1 HB.out GE260.out) hb); have NB260_262 := Aside0.mk ((by rw [hg]; exact Nat.ne_of_lt (blk_lt (kz BK260.out)) : gb260 ≠ gb262)); have NB262_260 := Aside0.mk ((by rw [hg]; exact Nat.ne_of_gt (blk_lt (kz BK260.out)) : gb262 ≠ gb260)); replace BK260 := Aside0.mk (blk_below (kz BK260.out) hb); clear hb hbox hg; have hnb24 := NB262_260.out; have hnc24 := NB260_262.out; obtain ⟨hcz25_0, hcz25_1, hcz25_2, hcz25_3, hcz25_4⟩ := cz5 BK262.out; obtain ⟨hfz25_0, hfz25_1, hfz25_2, hfz25_3, hfz25_4⟩ := fz5 BK262.out; obtain ⟨hcz26_0, hcz26_1, hcz26_2, hcz26_3⟩ := cz4 BK260.out; obtain ⟨hfz26_0, hfz26_1, hfz26_2, hfz26_3⟩ := fz4 BK260.out) | ((with_reducible refine gate_callee (f := 13) rfl ?_); refine goesL_ (some 22) rfl rfl Tryd.func13 (by kernel_rfl) rfl #[.agg #[.slice (some ad261) l0_0.length c0_0, .slice A0_1 l0_1.length c0_1, .slice A0_2 l0_2.length c0_2, .slice A0_3 l0_3.length c0_3], .agg #[.int .i64 ((rd_T41 l0_0 x14_1).f2.f0), .int .i64 ((rd_T41 l0_0 x14_1).f2.f1)]] rfl lz ?_; (with_reducible refine (impl_ValOk.calls k1 _ _ l0_0 _ _ l0_1 _ _ l0_2 _ _ l0_3 ((rd_T41 l0_0 x14_1).f2.f0) ((rd_T41 l0_0 x14_1).f2.f1) false _ ?side1 ?side2 ?side3 ?side4 ?side5 ?side6 ?side7 ?side8 A7.out).mono ?_); (case side1 => exact Kd.C_below HR0_0.out (bz2 HB.out GE260.out GE262.out)); (case side2 => exact HC0_0.out); (case side3 => exact Kd.C_below HR0_1.out (bz2 HB.out GE260.out GE262.out)); (case side4 => exact HC0_1.out); (case side5 => exact Kd.C_below HR0_2.out (bz2 HB.out GE260.out GE262.out)); (case side6 => exact HC0_2.out); (case side7 => exact Kd.C_below HR0_3.out (bz2 HB.out GE260.out GE262.out)); (case side8 => exact HC0_3.out); rintro e w27 ⟨rfl, hb⟩; refine ⟨_, rfl, ?_⟩; replace BK260 := Aside0.mk (blk_below (g := gb260) (o := .cells #[.slice (some ad261) l0_0.length c0_0, .slice A0_1 l0_1.length c0_1, .slice A0_2 l0_2.length c0_2, .slice A0_3 l0_3.length c0_3] 29 (0, 0)) (by refine kq ?_; refine blk_far ?_ NB260_262.out _; refine kq ?_; refine blk_far ?_ NB260_262.out _; refine kq ?_; refine blk_far ?_ NB260_262.out _; refine kq ?_; refine blk_far ?_ NB260_262.out _; refine kq ?_; refine blk_far ?_ NB260_262.out _; refine kq ?_; exact BK260.out) hb); replace BK262 := Aside0.mk (blk_below (g := gb262) (o := .cells #[.int .i64 ((rd_T41 l0_0 x14_1).f0), .int .i64 ((rd_T41 l0_0 x14_1).f1), .int .i64 ((rd_T41 l0_0 x14_1).f2.f0), .int .i64 ((rd_T41 l0_0 x14_1).f2.f1), .int .i64 ((rd_T41 l0_0 x14_1).f3)] 41 (0, 0)) (by refine kq ?_; refine blk_put (cs := #[.int .i64 ((rd_T41 l0_0 x14_1).f0), .int .i64 ((rd_T41 l0_0 x14_1).f1), .int .i64 ((rd_T41 l0_0 x14_1).f2.f0), .int .i64 ((rd_T41 l0_0 x14_1).f2.f1), .int .i64 0]) ?_ 4 _ rfl; refine kq ?_; refine blk_put (cs := #[.int .i64 ((rd_T41 l0_0 x14_1).f0), .int .i64 ((rd_T41 l0_0 x14_1).f1), .int .i64 ((rd_T41 l0_0 x14_1).f2.f0), .int .i64 0, .int .i64 0]) ?_ 3 _ rfl; refine kq ?_; refine blk_put (cs := #[.int .i64 ((rd_T41 l0_0 x14_1).f0), .int .i64 ((rd_T41 l0_0 x14_1).f1), .int .i64 0, .int .i64 0, .int .i64 0]) ?_ 2 _ rfl; refine kq ?_; refine blk_put (cs := #[.int .i64 ((rd_T41 l0_0 x14_1).f0), .int .i64 0, .int .i64 0, .int .i64 0, .int .i64 0]) ?_ 1 _ rfl; refine kq ?_; refine blk_put (cs := #[.int .i64 0, .int .i64 0, .int .i64 0, .int .i64 0, .int .i64 0]) ?_ 0 _ rfl; refine kq ?_; exact BK262.out) hb); replace HB := Aside0.mk (below_step (bz2 HB.out GE260.out GE262.out) hb); (try clear hb); (try clear hi)))
     go_ret
     exact ⟨gz, (bz2 HB.out GE260.out GE262.out)⟩
   ·rw [if_neg c4] at H
    have c4b0 := decide_eq_false c4
    clear c4
    have H' := Aside0.mk H
    clear H
    obtain ⟨hcz28_0, hcz28_1, hcz28_2, hcz28_3⟩ := cz4 BK260.out
    obtain ⟨hfz28_0, hfz28_1, hfz28_2, hfz28_3⟩ := fz4 BK260.out
    go_wp2
    go_loopg [36] k1 (fun kq v36 w' => ∃ (x36_2 : Int), v36 = .int .i64 x36_2 /\ Aside0 (impl_HeapOk.l1 kq l0_1 (l0_1.length : Int) x36_2 l0_0 l0_1 l0_2 l0_3 = some r) /\ Aside0 (kq <= k1) /\ Aside0 (w'.heap[gb260]? = some (.cells #[(.slice A0_0 l0_0.length c0_0), (.slice A0_1 l0_1.length c0_1), (.slice A0_2 l0_2.length c0_2), (.slice A0_3 l0_3.length c0_3)] 29 (0, 0))) /\ Aside0 (Below w.heap.size w w'))
    case atStart => exact ⟨(0), ez, H', ⟨Nat.le_refl _⟩, ⟨by refine kq ?_; exact BK260.out⟩, ⟨(bz1 HB.out GE260.out)⟩⟩
    case round =>
     clear H'
     try clear c1
     try clear c2
     try clear p2
     try clear q2
     try clear hx2
     try clear c4
     try clear c4b0
     try clear c5
     try clear c5b0
     try clear c6
     try clear c6b0
     try clear p6
     try clear c8
     try clear c10
     try clear c12
     try clear c13
     try clear c18
     try clear c24
     try clear p26
     try clear q26
     try clear hx26
     try clear hcz13_0 hcz13_1 hcz13_2 hcz13_3 hcz13_4
     try clear hcz14_0 hcz14_1 hcz14_2 hcz14_3
     try clear hcz16_0 hcz16_1 hcz16_2 hcz16_3 hcz16_4
     try clear hcz19_0 hcz19_1 hcz19_2 hcz19_3 hcz19_4
     try clear hcz20_0 hcz20_1 hcz20_2 hcz20_3
     try clear hcz22_0 hcz22_1 hcz22_2 hcz22_3 hcz22_4
     try clear hcz25_0 hcz25_1 hcz25_2 hcz25_3 hcz25_4
     try clear hcz26_0 hcz26_1 hcz26_2 hcz26_3
     try clear hcz28_0 hcz28_1 hcz28_2 hcz28_3
     try clear hcz3_0 hcz3_1 hcz3_2 hcz3_3
     try clear hfz13_0 hfz13_1 hfz13_2 hfz13_3 hfz13_4
     try clear hfz14_0 hfz14_1 hfz14_2 hfz14_3
     try clear hfz16_0 hfz16_1 hfz16_2 hfz16_3 hfz16_4
     try clear hfz19_0 hfz19_1 hfz19_2 hfz19_3 hfz19_4
     try clear hfz20_0 hfz20_1 hfz20_2 hfz20_3
     try clear hfz22_0 hfz22_1 hfz22_2 hfz22_3 hfz22_4
     try clear hfz25_0 hfz25_1 hfz25_2 hfz25_3 hfz25_4
     try clear hfz26_0 hfz26_1 hfz26_2 hfz26_3
     try clear hfz28_0 hfz28_1 hfz28_2 hfz28_3
     try clear hfz3_0 hfz3_1 hfz3_2 hfz3_3
     try clear hx261_0
     try clear hx261_1
     try clear hx261_2
     try clear hx261_3
     try clear hx261_4
     try clear p2
     try clear p261
     try clear q261
     obtain ⟨x36_2, rfl, HA, HK2, BK260, HB⟩ := hrel
     cases gk with
     | zero => exact absurd HA.out (by simp [impl_HeapOk.l1])
     | succ k2 =>
      have H := HA.out
      clear HA
      simp only [impl_HeapOk.l1] at H
      by_cases c29 : x36_2 < (l0_1.length : Int)
      ·rw [if_pos c29] at H
       have c29b0 := decide_eq_true c29
       clear c29
       replace H := iz H
       obtain ⟨c30, H⟩ := H
       have c30b0 := decide_eq_true c30
       clear c30
       replace H := iz H
       obtain ⟨c31, H⟩ := H
       have c31b0 := decide_eq_true c31
       clear c31
       replace H := bi H
       obtain ⟨t267, A320, H⟩ := H
       try dsimp only at H
       have A32 := Aside0.mk A320
       clear A320
       by_cases c33 : t267 = true
       ·subst c33
        have H1 := hp H
        clear H
        have H := H1
        clear H1
        have H' := Aside0.mk H
        clear H
        have p265 : 0 <= (x36_2 : Int) := oz
        have q265 : x36_2 < (l0_1.length : Int) := oz
        obtain ⟨ad265, e265, hx265_0, hx265_1⟩ := at_T86 HR0_1.out x36_2 p265 q265
        cases e265
        replace hx265_0 := hz HB.out hx265_0
        replace hx265_1 := hz HB.out hx265_1
        replace p265 := eq_true p265
        replace q265 := eq_true q265
        go_wp2_with (first | ((with_reducible refine gate_dst (N := 6) rfl ?_); refine box_event ?hg (N := 6) ?hd (cs := #[.int .i64 0, .int .i64 0]) (t := 86) ?hr ?_; (case hd => rfl); (case hg => rfl); (case hr => exact vz); intro gb266 hg w34 hbox hb; have BK266 := Aside0.mk (hbox); have GW266 := Aside0.mk ((by rw [hg]; exact (below_size (bz1 HB.out GE260.out)) : w.heap.size <= gb266)); have GE266 := GW266; replace HB := Aside0.mk (below_step (bz1 HB.out GE260.out) hb); have NB260_266 := Aside0.mk ((by rw [hg]; exact Nat.ne_of_lt (blk_lt (kz BK260.out)) : gb260 ≠ gb266)); have NB266_260 := Aside0.mk ((by rw [hg]; exact Nat.ne_of_gt (blk_lt (kz BK260.out)) : gb266 ≠ gb260)); replace BK260 := Aside0.mk (blk_below (kz BK260.out) hb); clear hb hbox hg; have hnb35 := NB266_260.out; have hnc35 := NB260_266.out; obtain ⟨hcz36_0, hcz36_1⟩ := cz2 BK266.out; obtain ⟨hfz36_0, hfz36_1⟩ := fz2 BK266.out; obtain ⟨hcz37_0, hcz37_1, hcz37_2, hcz37_3⟩ := cz4 BK260.out; obtain ⟨hfz37_0, hfz37_1, hfz37_2, hfz37_3⟩ := fz4 BK260.out) | ((with_reducible refine gate_callee (f := 42) rfl ?_); refine goesL_ (some 46) rfl rfl Tryd.func42 (by kernel_rfl) rfl #[.int .i64 ((rd_T86 l0_1 x36_2).f1), .int .i64 (-1), .int .i64 (wrap64 ((l0_0.length : Int) - 1))] rfl lz ?_; (with_reducible refine (impl_in.calls ((rd_T86 l0_1 x36_2).f1) (-1) (wrap64 ((l0_0.length : Int) - 1)) true _ A32.out).mono ?_); rintro e w' ⟨rfl, ⟨nd, rfl⟩⟩; refine ⟨_, rfl, ?_⟩))
        go_roundg k2
        case measure => have := HK1.out; have := HK2.out; omega
        case rel => exact ⟨(wrap64 (x36_2 + 1)), ez, H', ⟨by have := HK1.out; have := HK2.out; omega⟩, ⟨by refine kq ?_; refine blk_far ?_ NB260_266.out _; refine kq ?_; refine blk_far ?_ NB260_266.out _; refine kq ?_; exact BK260.out⟩, ⟨(bz2 HB.out GE260.out GE266.out)⟩⟩
       ·replace c33 := Bool.eq_false_iff.mpr c33
        subst c33
        have H1 := hq H
        clear H
        have H := H1
        clear H1
        obtain rfl := Option.some.inj H
        have p265 : 0 <= (x36_2 : Int) := oz
        have q265 : x36_2 < (l0_1.length : Int) := oz
        obtain ⟨ad265, e265, hx265_0, hx265_1⟩ := at_T86 HR0_1.out x36_2 p265 q265
        cases e265
        replace hx265_0 := hz HB.out hx265_0
        replace hx265_1 := hz HB.out hx265_1
        replace p265 := eq_true p265
        replace q265 := eq_true q265
        go_wp2_with (first | ((with_reducible refine gate_dst (N := 6) rfl ?_); refine box_event ?hg (N := 6) ?hd (cs := #[.int .i64 0, .int .i64 0]) (t := 86) ?hr ?_; (case hd => rfl); (case hg => rfl); (case hr => exact vz); intro gb266 hg w38 hbox hb; have BK266 := Aside0.mk (hbox); have GW266 := Aside0.mk ((by rw [hg]; exact (below_size (bz1 HB.out GE260.out)) : w.heap.size <= gb266)); have GE266 := GW266; replace HB := Aside0.mk (below_step (bz1 HB.out GE260.out) hb); have NB260_266 := Aside0.mk ((by rw [hg]; exact Nat.ne_of_lt (blk_lt (kz BK260.out)) : gb260 ≠ gb266)); have NB266_260 := Aside0.mk ((by rw [hg]; exact Nat.ne_of_gt (blk_lt (kz BK260.out)) : gb266 ≠ gb260)); replace BK260 := Aside0.mk (blk_below (kz BK260.out) hb); clear hb hbox hg; have hnb39 := NB266_260.out; have hnc39 := NB260_266.out; obtain ⟨hcz40_0, hcz40_1⟩ := cz2 BK266.out; obtain ⟨hfz40_0, hfz40_1⟩ := fz2 BK266.out; obtain ⟨hcz41_0, hcz41_1, hcz41_2, hcz41_3⟩ := cz4 BK260.out; obtain ⟨hfz41_0, hfz41_1, hfz41_2, hfz41_3⟩ := fz4 BK260.out) | ((with_reducible refine gate_callee (f := 42) rfl ?_); refine goesL_ (some 46) rfl rfl Tryd.func42 (by kernel_rfl) rfl #[.int .i64 ((rd_T86 l0_1 x36_2).f1), .int .i64 (-1), .int .i64 (wrap64 ((l0_0.length : Int) - 1))] rfl lz ?_; (with_reducible refine (impl_in.calls ((rd_T86 l0_1 x36_2).f1) (-1) (wrap64 ((l0_0.length : Int) - 1)) false _ A32.out).mono ?_); rintro e w' ⟨rfl, ⟨nd, rfl⟩⟩; refine ⟨_, rfl, ?_⟩))
        go_ret
        exact ⟨gz, (bz2 HB.out GE260.out GE266.out)⟩
      ·rw [if_neg c29] at H
       have c29b0 := decide_eq_false c29
       clear c29
       have H' := Aside0.mk H
       clear H
       obtain ⟨hcz42_0, hcz42_1, hcz42_2, hcz42_3⟩ := cz4 BK260.out
       obtain ⟨hfz42_0, hfz42_1, hfz42_2, hfz42_3⟩ := fz4 BK260.out
       go_wp2
       go_loopg [52] k2 (fun kq v52 w' => ∃ (x52_3 : Int), v52 = .int .i64 x52_3 /\ Aside0 (impl_HeapOk.l2 kq l0_2 (l0_2.length : Int) x52_3 l0_0 l0_1 l0_2 l0_3 = some r) /\ Aside0 (kq <= k2) /\ Aside0 (w'.heap[gb260]? = some (.cells #[(.slice A0_0 l0_0.length c0_0), (.slice A0_1 l0_1.length c0_1), (.slice A0_2 l0_2.length c0_2), (.slice A0_3 l0_3.length c0_3)] 29 (0, 0))) /\ Aside0 (Below w.heap.size w w'))
       case atStart => exact ⟨(0), ez, H', ⟨Nat.le_refl _⟩, ⟨by refine kq ?_; exact BK260.out⟩, ⟨(bz1 HB.out GE260.out)⟩⟩
       case round =>
        clear H'
        try clear c1
        try clear c2
        try clear p2
        try clear q2
        try clear hx2
        try clear c3
        try clear c4
        try clear c4b0
        try clear c5
        try clear c5b0
        try clear c6
        try clear c6b0
        try clear p6
        try clear c8
        try clear c10
        try clear c12
        try clear c13
        try clear c18
        try clear c24
        try clear p26
        try clear q26
        try clear hx26
        try clear c29
        try clear c29b0
        try clear c30
        try clear c30b0
        try clear c31
        try clear c31b0
        try clear c33
        try clear c35
        try clear c39
        try clear c41
        try clear c42
        try clear hcz13_0 hcz13_1 hcz13_2 hcz13_3 hcz13_4
        try clear hcz14_0 hcz14_1 hcz14_2 hcz14_3
        try clear hcz16_0 hcz16_1 hcz16_2 hcz16_3 hcz16_4
        try clear hcz19_0 hcz19_1 hcz19_2 hcz19_3 hcz19_4
        try clear hcz20_0 hcz20_1 hcz20_2 hcz20_3
        try clear hcz22_0 hcz22_1 hcz22_2 hcz22_3 hcz22_4
        try clear hcz25_0 hcz25_1 hcz25_2 hcz25_3 hcz25_4
        try clear hcz26_0 hcz26_1 hcz26_2 hcz26_3
        try clear hcz28_0 hcz28_1 hcz28_2 hcz28_3
        try clear hcz36_0 hcz36_1
        try clear hcz37_0 hcz37_1 hcz37_2 hcz37_3
        try clear hcz3_0 hcz3_1 hcz3_2 hcz3_3
        try clear hcz40_0 hcz40_1
        try clear hcz41_0 hcz41_1 hcz41_2 hcz41_3
        try clear hcz42_0 hcz42_1 hcz42_2 hcz42_3
        try clear hfz13_0 hfz13_1 hfz13_2 hfz13_3 hfz13_4
        try clear hfz14_0 hfz14_1 hfz14_2 hfz14_3
        try clear hfz16_0 hfz16_1 hfz16_2 hfz16_3 hfz16_4
        try clear hfz19_0 hfz19_1 hfz19_2 hfz19_3 hfz19_4
        try clear hfz20_0 hfz20_1 hfz20_2 hfz20_3
        try clear hfz22_0 hfz22_1 hfz22_2 hfz22_3 hfz22_4
        try clear hfz25_0 hfz25_1 hfz25_2 hfz25_3 hfz25_4
        try clear hfz26_0 hfz26_1 hfz26_2 hfz26_3
        try clear hfz28_0 hfz28_1 hfz28_2 hfz28_3
        try clear hfz36_0 hfz36_1
        try clear hfz37_0 hfz37_1 hfz37_2 hfz37_3
        try clear hfz3_0 hfz3_1 hfz3_2 hfz3_3
        try clear hfz40_0 hfz40_1
        try clear hfz41_0 hfz41_1 hfz41_2 hfz41_3
        try clear hfz42_0 hfz42_1 hfz42_2 hfz42_3
        try clear hx261_0
        try clear hx261_1
        try clear hx261_2
        try clear hx261_3
        try clear hx261_4
        try clear hx265_0
        try clear hx265_1
        try clear p2
        try clear p26
        try clear p261
        try clear p265
        try clear p6
        try clear q2
        try clear q26
        try clear q261
        try clear q265
        obtain ⟨x52_3, rfl, HA, HK3, BK260, HB⟩ := hrel
        cases gk with
        | zero => exact absurd HA.out (by simp [impl_HeapOk.l2])
        | succ k3 =>
         have H := HA.out
         clear HA
         simp only [impl_HeapOk.l2] at H
         by_cases c43 : x52_3 < (l0_2.length : Int)
         ·rw [if_pos c43] at H
          have c43b0 := decide_eq_true c43
          clear c43
          replace H := iz H
          obtain ⟨c44, H⟩ := H
          have c44b0 := decide_eq_true c44
          clear c44
          replace H := iz H
          obtain ⟨c45, H⟩ := H
          have c45b0 := decide_eq_true c45
          clear c45
          replace H := bi H
          obtain ⟨t270, A460, H⟩ := H
          try dsimp only at H
          have A46 := Aside0.mk A460
          clear A460
          by_cases c47 : t270 = true
          ·subst c47
           have H1 := hp H
           clear H
           have H := H1
           clear H1
           replace H := bi H
           obtain ⟨t271, A480, H⟩ := H
           try dsimp only at H
           have A48 := Aside0.mk A480
           clear A480
           by_cases c49 : t271 = true
           ·subst c49
            have H1 := hp H
            clear H
            have H := H1
            clear H1
            have H' := Aside0.mk H
            clear H
            have p268 : 0 <= (x52_3 : Int) := oz
            have q268 : x52_3 < (l0_2.length : Int) := oz
            obtain ⟨ad268, e268, hx268_0, hx268_1, hx268_2, hx268_3⟩ := at_T47 HR0_2.out x52_3 p268 q268
            cases e268
            replace hx268_0 := hz HB.out hx268_0
            replace hx268_1 := hz HB.out hx268_1
            replace hx268_2 := hz HB.out hx268_2
            replace hx268_3 := hz HB.out hx268_3
            replace p268 := eq_true p268
            replace q268 := eq_true q268
            go_wp2_with (first | ((with_reducible refine gate_dst (N := 8) rfl ?_); refine box_event ?hg (N := 8) ?hd (cs := #[.int .i64 0, .int .i64 0, .int .i64 0, .int .i64 0]) (t := 47) ?hr ?_; (case hd => rfl); (case hg => rfl); (case hr => exact vz); intro gb269 hg w50 hbox hb; have BK269 := Aside0.mk (hbox); have GW269 := Aside0.mk ((by rw [hg]; exact (below_size (bz1 HB.out GE260.out)) : w.heap.size <= gb269)); have GE269 := GW269; replace HB := Aside0.mk (below_step (bz1 HB.out GE260.out) hb); have NB260_269 := Aside0.mk ((by rw [hg]; exact Nat.ne_of_lt (blk_lt (kz BK260.out)) : gb260 ≠ gb269)); have NB269_260 := Aside0.mk ((by rw [hg]; exact Nat.ne_of_gt (blk_lt (kz BK260.out)) : gb269 ≠ gb260)); replace BK260 := Aside0.mk (blk_below (kz BK260.out) hb); clear hb hbox hg; have hnb51 := NB269_260.out; have hnc51 := NB260_269.out; obtain ⟨hcz52_0, hcz52_1, hcz52_2, hcz52_3⟩ := cz4 BK269.out; obtain ⟨hfz52_0, hfz52_1, hfz52_2, hfz52_3⟩ := fz4 BK269.out; obtain ⟨hcz53_0, hcz53_1, hcz53_2, hcz53_3⟩ := cz4 BK260.out; obtain ⟨hfz53_0, hfz53_1, hfz53_2, hfz53_3⟩ := fz4 BK260.out) | ((with_reducible refine gate_callee (f := 13) rfl ?_); refine goesL_ (some 59) rfl rfl Tryd.func13 (by kernel_rfl) rfl #[.agg #[.slice A0_0 l0_0.length c0_0, .slice A0_1 l0_1.length c0_1, .slice (some ad268) l0_2.length c0_2, .slice A0_3 l0_3.length c0_3], .agg #[.int .i64 ((rd_T47 l0_2 x52_3).f0.f0), .int .i64 ((rd_T47 l0_2 x52_3).f0.f1)]] rfl lz ?_; (with_reducible refine (impl_ValOk.calls k3 _ _ l0_0 _ _ l0_1 _ _ l0_2 _ _ l0_3 ((rd_T47 l0_2 x52_3).f0.f0) ((rd_T47 l0_2 x52_3).f0.f1) true _ ?side1 ?side2 ?side3 ?side4 ?side5 ?side6 ?side7 ?side8 A46.out).mono ?_); (case side1 => exact Kd.C_below HR0_0.out (bz2 HB.out GE260.out GE269.out)); (case side2 => exact HC0_0.out); (case side3 => exact Kd.C_below HR0_1.out (bz2 HB.out GE260.out GE269.out)); (case side4 => exact HC0_1.out); (case side5 => exact Kd.C_below HR0_2.out (bz2 HB.out GE260.out GE269.out)); (case side6 => exact HC0_2.out); (case side7 => exact Kd.C_below HR0_3.out (bz2 HB.out GE260.out GE269.out)); (case side8 => exact HC0_3.out); rintro e w54 ⟨rfl, hb⟩; refine ⟨_, rfl, ?_⟩; replace BK260 := Aside0.mk (blk_below (g := gb260) (o := .cells #[.slice A0_0 l0_0.length c0_0, .slice A0_1 l0_1.length c0_1, .slice (some ad268) l0_2.length c0_2, .slice A0_3 l0_3.length c0_3] 29 (0, 0)) (by refine kq ?_; refine blk_far ?_ NB260_269.out _; refine kq ?_; refine blk_far ?_ NB260_269.out _; refine kq ?_; refine blk_far ?_ NB260_269.out _; refine kq ?_; refine blk_far ?_ NB260_269.out _; refine kq ?_; exact BK260.out) hb); replace BK269 := Aside0.mk (blk_below (g := gb269) (o := .cells #[.int .i64 ((rd_T47 l0_2 x52_3).f0.f0), .int .i64 ((rd_T47 l0_2 x52_3).f0.f1), .int .i64 ((rd_T47 l0_2 x52_3).f1.f0), .int .i64 ((rd_T47 l0_2 x52_3).f1.f1)] 47 (0, 0)) (by refine kq ?_; refine blk_put (cs := #[.int .i64 ((rd_T47 l0_2 x52_3).f0.f0), .int .i64 ((rd_T47 l0_2 x52_3).f0.f1), .int .i64 ((rd_T47 l0_2 x52_3).f1.f0), .int .i64 0]) ?_ 3 _ rfl; refine kq ?_; refine blk_put (cs := #[.int .i64 ((rd_T47 l0_2 x52_3).f0.f0), .int .i64 ((rd_T47 l0_2 x52_3).f0.f1), .int .i64 0, .int .i64 0]) ?_ 2 _ rfl; refine kq ?_; refine blk_put (cs := #[.int .i64 ((rd_T47 l0_2 x52_3).f0.f0), .int .i64 0, .int .i64 0, .int .i64 0]) ?_ 1 _ rfl; refine kq ?_; refine blk_put (cs := #[.int .i64 0, .int .i64 0, .int .i64 0, .int .i64 0]) ?_ 0 _ rfl; refine kq ?_; exact BK269.out) hb); replace HB := Aside0.mk (below_step (bz2 HB.out GE260.out GE269.out) hb); (try clear hb); obtain ⟨hcz55_0, hcz55_1, hcz55_2, hcz55_3⟩ := cz4 BK260.out; obtain ⟨hfz55_0, hfz55_1, hfz55_2, hfz55_3⟩ := fz4 BK260.out; obtain ⟨hcz56_0, hcz56_1, hcz56_2, hcz56_3⟩ := cz4 BK269.out; obtain ⟨hfz56_0, hfz56_1, hfz56_2, hfz56_3⟩ := fz4 BK269.out) | (go_at_call 13; (with_reducible refine (impl_ValOk.calls k3 _ _ l0_0 _ _ l0_1 _ _ l0_2 _ _ l0_3 ((rd_T47 l0_2 x52_3).f1.f0) ((rd_T47 l0_2 x52_3).f1.f1) true _ ?side1 ?side2 ?side3 ?side4 ?side5 ?side6 ?side7 ?side8 A48.out).mono ?_); (case side1 => exact cz (Kd.C_below HR0_0.out HB.out)); (case side2 => exact HC0_0.out); (case side3 => exact cz (Kd.C_below HR0_1.out HB.out)); (case side4 => exact HC0_1.out); (case side5 => exact cz (Kd.C_below HR0_2.out HB.out)); (case side6 => exact HC0_2.out); (case side7 => exact cz (Kd.C_below HR0_3.out HB.out)); (case side8 => exact HC0_3.out); rintro e w57 ⟨rfl, hb⟩; replace BK260 := Aside0.mk (blk_below (kz BK260.out) hb); replace BK269 := Aside0.mk (blk_below (kz BK269.out) hb); replace HB := Aside0.mk (below_step (bz2 HB.out GE260.out GE269.out) hb); (try clear hb); (try clear hi)))
            go_roundg k3
            case measure => have := HK1.out; have := HK2.out; have := HK3.out; omega
            case rel => exact ⟨(wrap64 (x52_3 + 1)), ez, H', ⟨by have := HK1.out; have := HK2.out; have := HK3.out; omega⟩, ⟨by refine kq ?_; exact BK260.out⟩, ⟨(bz2 HB.out GE260.out GE269.out)⟩⟩
           ·replace c49 := Bool.eq_false_iff.mpr c49
            subst c49
            have H1 := hq H
            clear H
            have H := H1
            clear H1
            obtain rfl := Option.some.inj H
            have p268 : 0 <= (x52_3 : Int) := oz
            have q268 : x52_3 < (l0_2.length : Int) := oz
            obtain ⟨ad268, e268, hx268_0, hx268_1, hx268_2, hx268_3⟩ := at_T47 HR0_2.out x52_3 p268 q268
            cases e268
            replace hx268_0 := hz HB.out hx268_0
            replace hx268_1 := hz HB.out hx268_1
            replace hx268_2 := hz HB.out hx268_2
            replace hx268_3 := hz HB.out hx268_3
            replace p268 := eq_true p268
            replace q268 := eq_true q268
            go_wp2_with (first | ((with_reducible refine gate_dst (N := 8) rfl ?_); refine box_event ?hg (N := 8) ?hd (cs := #[.int .i64 0, .int .i64 0, .int .i64 0, .int .i64 0]) (t := 47) ?hr ?_; (case hd => rfl); (case hg => rfl); (case hr => exact vz); intro gb269 hg w58 hbox hb; have BK269 := Aside0.mk (hbox); have GW269 := Aside0.mk ((by rw [hg]; exact (below_size (bz1 HB.out GE260.out)) : w.heap.size <= gb269)); have GE269 := GW269; replace HB := Aside0.mk (below_step (bz1 HB.out GE260.out) hb); have NB260_269 := Aside0.mk ((by rw [hg]; exact Nat.ne_of_lt (blk_lt (kz BK260.out)) : gb260 ≠ gb269)); have NB269_260 := Aside0.mk ((by rw [hg]; exact Nat.ne_of_gt (blk_lt (kz BK260.out)) : gb269 ≠ gb260)); replace BK260 := Aside0.mk (blk_below (kz BK260.out) hb); clear hb hbox hg; have hnb59 := NB269_260.out; have hnc59 := NB260_269.out; obtain ⟨hcz60_0, hcz60_1, hcz60_2, hcz60_3⟩ := cz4 BK269.out; obtain ⟨hfz60_0, hfz60_1, hfz60_2, hfz60_3⟩ := fz4 BK269.out; obtain ⟨hcz61_0, hcz61_1, hcz61_2, hcz61_3⟩ := cz4 BK260.out; obtain ⟨hfz61_0, hfz61_1, hfz61_2, hfz61_3⟩ := fz4 BK260.out) | ((with_reducible refine gate_callee (f := 13) rfl ?_); refine goesL_ (some 59) rfl rfl Tryd.func13 (by kernel_rfl) rfl #[.agg #[.slice A0_0 l0_0.length c0_0, .slice A0_1 l0_1.length c0_1, .slice (some ad268) l0_2.length c0_2, .slice A0_3 l0_3.length c0_3], .agg #[.int .i64 ((rd_T47 l0_2 x52_3).f0.f0), .int .i64 ((rd_T47 l0_2 x52_3).f0.f1)]] rfl lz ?_; (with_reducible refine (impl_ValOk.calls k3 _ _ l0_0 _ _ l0_1 _ _ l0_2 _ _ l0_3 ((rd_T47 l0_2 x52_3).f0.f0) ((rd_T47 l0_2 x52_3).f0.f1) true _ ?side1 ?side2 ?side3 ?side4 ?side5 ?side6 ?side7 ?side8 A46.out).mono ?_); (case side1 => exact Kd.C_below HR0_0.out (bz2 HB.out GE260.out GE269.out)); (case side2 => exact HC0_0.out); (case side3 => exact Kd.C_below HR0_1.out (bz2 HB.out GE260.out GE269.out)); (case side4 => exact HC0_1.out); (case side5 => exact Kd.C_below HR0_2.out (bz2 HB.out GE260.out GE269.out)); (case side6 => exact HC0_2.out); (case side7 => exact Kd.C_below HR0_3.out (bz2 HB.out GE260.out GE269.out)); (case side8 => exact HC0_3.out); rintro e w62 ⟨rfl, hb⟩; refine ⟨_, rfl, ?_⟩; replace BK260 := Aside0.mk (blk_below (g := gb260) (o := .cells #[.slice A0_0 l0_0.length c0_0, .slice A0_1 l0_1.length c0_1, .slice (some ad268) l0_2.length c0_2, .slice A0_3 l0_3.length c0_3] 29 (0, 0)) (by refine kq ?_; refine blk_far ?_ NB260_269.out _; refine kq ?_; refine blk_far ?_ NB260_269.out _; refine kq ?_; refine blk_far ?_ NB260_269.out _; refine kq ?_; refine blk_far ?_ NB260_269.out _; refine kq ?_; exact BK260.out) hb); replace BK269 := Aside0.mk (blk_below (g := gb269) (o := .cells #[.int .i64 ((rd_T47 l0_2 x52_3).f0.f0), .int .i64 ((rd_T47 l0_2 x52_3).f0.f1), .int .i64 ((rd_T47 l0_2 x52_3).f1.f0), .int .i64 ((rd_T47 l0_2 x52_3).f1.f1)] 47 (0, 0)) (by refine kq ?_; refine blk_put (cs := #[.int .i64 ((rd_T47 l0_2 x52_3).f0.f0), .int .i64 ((rd_T47 l0_2 x52_3).f0.f1), .int .i64 ((rd_T47 l0_2 x52_3).f1.f0), .int .i64 0]) ?_ 3 _ rfl; refine kq ?_; refine blk_put (cs := #[.int .i64 ((rd_T47 l0_2 x52_3).f0.f0), .int .i64 ((rd_T47 l0_2 x52_3).f0.f1), .int .i64 0, .int .i64 0]) ?_ 2 _ rfl; refine kq ?_; refine blk_put (cs := #[.int .i64 ((rd_T47 l0_2 x52_3).f0.f0), .int .i64 0, .int .i64 0, .int .i64 0]) ?_ 1 _ rfl; refine kq ?_; refine blk_put (cs := #[.int .i64 0, .int .i64 0, .int .i64 0, .int .i64 0]) ?_ 0 _ rfl; refine kq ?_; exact BK269.out) hb); replace HB := Aside0.mk (below_step (bz2 HB.out GE260.out GE269.out) hb); (try clear hb); obtain ⟨hcz63_0, hcz63_1, hcz63_2, hcz63_3⟩ := cz4 BK260.out; obtain ⟨hfz63_0, hfz63_1, hfz63_2, hfz63_3⟩ := fz4 BK260.out; obtain ⟨hcz64_0, hcz64_1, hcz64_2, hcz64_3⟩ := cz4 BK269.out; obtain ⟨hfz64_0, hfz64_1, hfz64_2, hfz64_3⟩ := fz4 BK269.out) | (go_at_call 13; (with_reducible refine (impl_ValOk.calls k3 _ _ l0_0 _ _ l0_1 _ _ l0_2 _ _ l0_3 ((rd_T47 l0_2 x52_3).f1.f0) ((rd_T47 l0_2 x52_3).f1.f1) false _ ?side1 ?side2 ?side3 ?side4 ?side5 ?side6 ?side7 ?side8 A48.out).mono ?_); (case side1 => exact cz (Kd.C_below HR0_0.out HB.out)); (case side2 => exact HC0_0.out); (case side3 => exact cz (Kd.C_below HR0_1.out HB.out)); (case side4 => exact HC0_1.out); (case side5 => exact cz (Kd.C_below HR0_2.out HB.out)); (case side6 => exact HC0_2.out); (case side7 => exact cz (Kd.C_below HR0_3.out HB.out)); (case side8 => exact HC0_3.out); rintro e w65 ⟨rfl, hb⟩; replace BK260 := Aside0.mk (blk_below (kz BK260.out) hb); replace BK269 := Aside0.mk (blk_below (kz BK269.out) hb); replace HB := Aside0.mk (below_step (bz2 HB.out GE260.out GE269.out) hb); (try clear hb); (try clear hi)))
            go_ret
            exact ⟨gz, (bz2 HB.out GE260.out GE269.out)⟩
          ·replace c47 := Bool.eq_false_iff.mpr c47
           subst c47
           have H1 := hq H
           clear H
           have H := H1
           clear H1
           obtain rfl := Option.some.inj H
           have p268 : 0 <= (x52_3 : Int) := oz
           have q268 : x52_3 < (l0_2.length : Int) := oz
           obtain ⟨ad268, e268, hx268_0, hx268_1, hx268_2, hx268_3⟩ := at_T47 HR0_2.out x52_3 p268 q268
           cases e268
           replace hx268_0 := hz HB.out hx268_0
           replace hx268_1 := hz HB.out hx268_1
           replace hx268_2 := hz HB.out hx268_2
           replace hx268_3 := hz HB.out hx268_3
           replace p268 := eq_true p268
           replace q268 := eq_true q268
           go_wp2_with (first | ((with_reducible refine gate_dst (N := 8) rfl ?_); refine box_event ?hg (N := 8) ?hd (cs := #[.int .i64 0, .int .i64 0, .int .i64 0, .int .i64 0]) (t := 47) ?hr ?_; (case hd => rfl); (case hg => rfl); (case hr => exact vz); intro gb269 hg w66 hbox hb; have BK269 := Aside0.mk (hbox); have GW269 := Aside0.mk ((by rw [hg]; exact (below_size (bz1 HB.out GE260.out)) : w.heap.size <= gb269)); have GE269 := GW269; replace HB := Aside0.mk (below_step (bz1 HB.out GE260.out) hb); have NB260_269 := Aside0.mk ((by rw [hg]; exact Nat.ne_of_lt (blk_lt (kz BK260.out)) : gb260 ≠ gb269)); have NB269_260 := Aside0.mk ((by rw [hg]; exact Nat.ne_of_gt (blk_lt (kz BK260.out)) : gb269 ≠ gb260)); replace BK260 := Aside0.mk (blk_below (kz BK260.out) hb); clear hb hbox hg; have hnb67 := NB269_260.out; have hnc67 := NB260_269.out; obtain ⟨hcz68_0, hcz68_1, hcz68_2, hcz68_3⟩ := cz4 BK269.out; obtain ⟨hfz68_0, hfz68_1, hfz68_2, hfz68_3⟩ := fz4 BK269.out; obtain ⟨hcz69_0, hcz69_1, hcz69_2, hcz69_3⟩ := cz4 BK260.out; obtain ⟨hfz69_0, hfz69_1, hfz69_2, hfz69_3⟩ := fz4 BK260.out) | ((with_reducible refine gate_callee (f := 13) rfl ?_); refine goesL_ (some 59) rfl rfl Tryd.func13 (by kernel_rfl) rfl #[.agg #[.slice A0_0 l0_0.length c0_0, .slice A0_1 l0_1.length c0_1, .slice (some ad268) l0_2.length c0_2, .slice A0_3 l0_3.length c0_3], .agg #[.int .i64 ((rd_T47 l0_2 x52_3).f0.f0), .int .i64 ((rd_T47 l0_2 x52_3).f0.f1)]] rfl lz ?_; (with_reducible refine (impl_ValOk.calls k3 _ _ l0_0 _ _ l0_1 _ _ l0_2 _ _ l0_3 ((rd_T47 l0_2 x52_3).f0.f0) ((rd_T47 l0_2 x52_3).f0.f1) false _ ?side1 ?side2 ?side3 ?side4 ?side5 ?side6 ?side7 ?side8 A46.out).mono ?_); (case side1 => exact Kd.C_below HR0_0.out (bz2 HB.out GE260.out GE269.out)); (case side2 => exact HC0_0.out); (case side3 => exact Kd.C_below HR0_1.out (bz2 HB.out GE260.out GE269.out)); (case side4 => exact HC0_1.out); (case side5 => exact Kd.C_below HR0_2.out (bz2 HB.out GE260.out GE269.out)); (case side6 => exact HC0_2.out); (case side7 => exact Kd.C_below HR0_3.out (bz2 HB.out GE260.out GE269.out)); (case side8 => exact HC0_3.out); rintro e w70 ⟨rfl, hb⟩; refine ⟨_, rfl, ?_⟩; replace BK260 := Aside0.mk (blk_below (g := gb260) (o := .cells #[.slice A0_0 l0_0.length c0_0, .slice A0_1 l0_1.length c0_1, .slice (some ad268) l0_2.length c0_2, .slice A0_3 l0_3.length c0_3] 29 (0, 0)) (by refine kq ?_; refine blk_far ?_ NB260_269.out _; refine kq ?_; refine blk_far ?_ NB260_269.out _; refine kq ?_; refine blk_far ?_ NB260_269.out _; refine kq ?_; refine blk_far ?_ NB260_269.out _; refine kq ?_; exact BK260.out) hb); replace BK269 := Aside0.mk (blk_below (g := gb269) (o := .cells #[.int .i64 ((rd_T47 l0_2 x52_3).f0.f0), .int .i64 ((rd_T47 l0_2 x52_3).f0.f1), .int .i64 ((rd_T47 l0_2 x52_3).f1.f0), .int .i64 ((rd_T47 l0_2 x52_3).f1.f1)] 47 (0, 0)) (by refine kq ?_; refine blk_put (cs := #[.int .i64 ((rd_T47 l0_2 x52_3).f0.f0), .int .i64 ((rd_T47 l0_2 x52_3).f0.f1), .int .i64 ((rd_T47 l0_2 x52_3).f1.f0), .int .i64 0]) ?_ 3 _ rfl; refine kq ?_; refine blk_put (cs := #[.int .i64 ((rd_T47 l0_2 x52_3).f0.f0), .int .i64 ((rd_T47 l0_2 x52_3).f0.f1), .int .i64 0, .int .i64 0]) ?_ 2 _ rfl; refine kq ?_; refine blk_put (cs := #[.int .i64 ((rd_T47 l0_2 x52_3).f0.f0), .int .i64 0, .int .i64 0, .int .i64 0]) ?_ 1 _ rfl; refine kq ?_; refine blk_put (cs := #[.int .i64 0, .int .i64 0, .int .i64 0, .int .i64 0]) ?_ 0 _ rfl; refine kq ?_; exact BK269.out) hb); replace HB := Aside0.mk (below_step (bz2 HB.out GE260.out GE269.out) hb); (try clear hb); (try clear hi)))
           go_ret
           exact ⟨gz, (bz2 HB.out GE260.out GE269.out)⟩
         ·rw [if_neg c43] at H
          have c43b0 := decide_eq_false c43
          clear c43
          have H' := Aside0.mk H
          clear H
          obtain ⟨hcz71_0, hcz71_1, hcz71_2, hcz71_3⟩ := cz4 BK260.out
          obtain ⟨hfz71_0, hfz71_1, hfz71_2, hfz71_3⟩ := fz4 BK260.out
          go_wp2
          go_loopg [72] k3 (fun kq v72 w' => ∃ (x72_4 : Int), v72 = .int .i64 x72_4 /\ Aside0 (impl_HeapOk.l3 kq l0_3 (l0_3.length : Int) x72_4 l0_0 l0_1 l0_2 l0_3 = some r) /\ Aside0 (kq <= k3) /\ Aside0 (w'.heap[gb260]? = some (.cells #[(.slice A0_0 l0_0.length c0_0), (.slice A0_1 l0_1.length c0_1), (.slice A0_2 l0_2.length c0_2), (.slice A0_3 l0_3.length c0_3)] 29 (0, 0))) /\ Aside0 (Below w.heap.size w w'))
          case atStart => exact ⟨(0), ez, H', ⟨Nat.le_refl _⟩, ⟨by refine kq ?_; exact BK260.out⟩, ⟨(bz1 HB.out GE260.out)⟩⟩
          case round =>
           clear H'
           try clear c1
           try clear c2
           try clear p2
           try clear q2
           try clear hx2
           try clear c3
           try clear c4
           try clear c4b0
           try clear c5
           try clear c5b0
           try clear c6
           try clear c6b0
           try clear p6
           try clear c8
           try clear c10
           try clear c12
           try clear c13
           try clear c18
           try clear c24
           try clear p26
           try clear q26
           try clear hx26
           try clear c29
           try clear c29b0
           try clear c30
           try clear c30b0
           try clear c31
           try clear c31b0
           try clear c33
           try clear c35
           try clear c39
           try clear c41
           try clear c42
           try clear c43
           try clear c43b0
           try clear c44
           try clear c44b0
           try clear c45
           try clear c45b0
           try clear c47
           try clear c49
           try clear c51
           try clear c59
           try clear p64
           try clear c67
           try clear hcz13_0 hcz13_1 hcz13_2 hcz13_3 hcz13_4
           try clear hcz14_0 hcz14_1 hcz14_2 hcz14_3
           try clear hcz16_0 hcz16_1 hcz16_2 hcz16_3 hcz16_4
           try clear hcz19_0 hcz19_1 hcz19_2 hcz19_3 hcz19_4
           try clear hcz20_0 hcz20_1 hcz20_2 hcz20_3
           try clear hcz22_0 hcz22_1 hcz22_2 hcz22_3 hcz22_4
           try clear hcz25_0 hcz25_1 hcz25_2 hcz25_3 hcz25_4
           try clear hcz26_0 hcz26_1 hcz26_2 hcz26_3
           try clear hcz28_0 hcz28_1 hcz28_2 hcz28_3
           try clear hcz36_0 hcz36_1
           try clear hcz37_0 hcz37_1 hcz37_2 hcz37_3
           try clear hcz3_0 hcz3_1 hcz3_2 hcz3_3
           try clear hcz40_0 hcz40_1
           try clear hcz41_0 hcz41_1 hcz41_2 hcz41_3
           try clear hcz42_0 hcz42_1 hcz42_2 hcz42_3
           try clear hcz52_0 hcz52_1 hcz52_2 hcz52_3
           try clear hcz53_0 hcz53_1 hcz53_2 hcz53_3
           try clear hcz55_0 hcz55_1 hcz55_2 hcz55_3
           try clear hcz56_0 hcz56_1 hcz56_2 hcz56_3
           try clear hcz60_0 hcz60_1 hcz60_2 hcz60_3
           try clear hcz61_0 hcz61_1 hcz61_2 hcz61_3
           try clear hcz63_0 hcz63_1 hcz63_2 hcz63_3
           try clear hcz64_0 hcz64_1 hcz64_2 hcz64_3
           try clear hcz68_0 hcz68_1 hcz68_2 hcz68_3
           try clear hcz69_0 hcz69_1 hcz69_2 hcz69_3
           try clear hcz71_0 hcz71_1 hcz71_2 hcz71_3
           try clear hfz13_0 hfz13_1 hfz13_2 hfz13_3 hfz13_4
           try clear hfz14_0 hfz14_1 hfz14_2 hfz14_3
           try clear hfz16_0 hfz16_1 hfz16_2 hfz16_3 hfz16_4
           try clear hfz19_0 hfz19_1 hfz19_2 hfz19_3 hfz19_4
           try clear hfz20_0 hfz20_1 hfz20_2 hfz20_3
           try clear hfz22_0 hfz22_1 hfz22_2 hfz22_3 hfz22_4
           try clear hfz25_0 hfz25_1 hfz25_2 hfz25_3 hfz25_4
           try clear hfz26_0 hfz26_1 hfz26_2 hfz26_3
           try clear hfz28_0 hfz28_1 hfz28_2 hfz28_3
           try clear hfz36_0 hfz36_1
           try clear hfz37_0 hfz37_1 hfz37_2 hfz37_3
           try clear hfz3_0 hfz3_1 hfz3_2 hfz3_3
           try clear hfz40_0 hfz40_1
           try clear hfz41_0 hfz41_1 hfz41_2 hfz41_3
           try clear hfz42_0 hfz42_1 hfz42_2 hfz42_3
           try clear hfz52_0 hfz52_1 hfz52_2 hfz52_3
           try clear hfz53_0 hfz53_1 hfz53_2 hfz53_3
           try clear hfz55_0 hfz55_1 hfz55_2 hfz55_3
           try clear hfz56_0 hfz56_1 hfz56_2 hfz56_3
           try clear hfz60_0 hfz60_1 hfz60_2 hfz60_3
           try clear hfz61_0 hfz61_1 hfz61_2 hfz61_3
           try clear hfz63_0 hfz63_1 hfz63_2 hfz63_3
           try clear hfz64_0 hfz64_1 hfz64_2 hfz64_3
           try clear hfz68_0 hfz68_1 hfz68_2 hfz68_3
           try clear hfz69_0 hfz69_1 hfz69_2 hfz69_3
           try clear hfz71_0 hfz71_1 hfz71_2 hfz71_3
           try clear hx261_0
           try clear hx261_1
           try clear hx261_2
           try clear hx261_3
           try clear hx261_4
           try clear hx265_0
           try clear hx265_1
           try clear hx268_0
           try clear hx268_1
           try clear hx268_2
           try clear hx268_3
           try clear p2
           try clear p26
           try clear p261
           try clear p265
           try clear p268
           try clear p6
           try clear q2
           try clear q26
           try clear q261
           try clear q265
           try clear q268
           obtain ⟨x72_4, rfl, HA, HK4, BK260, HB⟩ := hrel
           cases gk with
           | zero => exact absurd HA.out (by simp [impl_HeapOk.l3])
           | succ k4 =>
            have H := HA.out
            clear HA
            simp only [impl_HeapOk.l3] at H
            by_cases c72 : x72_4 < (l0_3.length : Int)
            ·rw [if_pos c72] at H
             have c72b0 := decide_eq_true c72
             clear c72
             replace H := iz H
             obtain ⟨c73, H⟩ := H
             have c73b0 := decide_eq_true c73
             clear c73
             replace H := iz H
             obtain ⟨c74, H⟩ := H
             have c74b0 := decide_eq_true c74
             clear c74
             replace H := bi H
             obtain ⟨t274, A750, H⟩ := H
             try dsimp only at H
             have A75 := Aside0.mk A750
             clear A750
             by_cases c76 : t274 = true
             ·subst c76
              have H1 := hp H
              clear H
              have H := H1
              clear H1
              have H' := Aside0.mk H
              clear H
              have p272 : 0 <= (x72_4 : Int) := oz
              have q272 : x72_4 < (l0_3.length : Int) := oz
              obtain ⟨ad272, e272, hx272_0, hx272_1⟩ := at_T35 HR0_3.out x72_4 p272 q272
              cases e272
              replace hx272_0 := hz HB.out hx272_0
              replace hx272_1 := hz HB.out hx272_1
              replace p272 := eq_true p272
              replace q272 := eq_true q272
              go_wp2_with (first | ((with_reducible refine gate_dst (N := 10) rfl ?_); refine box_event ?hg (N := 10) ?hd (cs := #[.int .i64 0, .int .i64 0]) (t := 35) ?hr ?_; (case hd => rfl); (case hg => rfl); (case hr => exact vz); intro gb273 hg w77 hbox hb; have BK273 := Aside0.mk (hbox); have GW273 := Aside0.mk ((by rw [hg]; exact (below_size (bz1 HB.out GE260.out)) : w.heap.size <= gb273)); have GE273 := GW273; replace HB := Aside0.mk (below_step (bz1 HB.out GE260.out) hb); have NB260_273 := Aside0.mk ((by rw [hg]; exact Nat.ne_of_lt (blk_lt (kz BK260.out)) : gb260 ≠ gb273)); have NB273_260 := Aside0.mk ((by rw [hg]; exact Nat.ne_of_gt (blk_lt (kz BK260.out)) : gb273 ≠ gb260)); replace BK260 := Aside0.mk (blk_below (kz BK260.out) hb); clear hb hbox hg; have hnb78 := NB273_260.out; have hnc78 := NB260_273.out; obtain ⟨hcz79_0, hcz79_1⟩ := cz2 BK273.out; obtain ⟨hfz79_0, hfz79_1⟩ := fz2 BK273.out; obtain ⟨hcz80_0, hcz80_1, hcz80_2, hcz80_3⟩ := cz4 BK260.out; obtain ⟨hfz80_0, hfz80_1, hfz80_2, hfz80_3⟩ := fz4 BK260.out) | ((with_reducible refine gate_callee (f := 13) rfl ?_); refine goesL_ (some 78) rfl rfl Tryd.func13 (by kernel_rfl) rfl #[.agg #[.slice A0_0 l0_0.length c0_0, .slice A0_1 l0_1.length c0_1, .slice A0_2 l0_2.length c0_2, .slice (some ad272) l0_3.length c0_3], .agg #[.int .i64 ((rd_T35 l0_3 x72_4).f0), .int .i64 ((rd_T35 l0_3 x72_4).f1)]] rfl lz ?_; (with_reducible refine (impl_ValOk.calls k4 _ _ l0_0 _ _ l0_1 _ _ l0_2 _ _ l0_3 ((rd_T35 l0_3 x72_4).f0) ((rd_T35 l0_3 x72_4).f1) true _ ?side1 ?side2 ?side3 ?side4 ?side5 ?side6 ?side7 ?side8 A75.out).mono ?_); (case side1 => exact Kd.C_below HR0_0.out (bz2 HB.out GE260.out GE273.out)); (case side2 => exact HC0_0.out); (case side3 => exact Kd.C_below HR0_1.out (bz2 HB.out GE260.out GE273.out)); (case side4 => exact HC0_1.out); (case side5 => exact Kd.C_below HR0_2.out (bz2 HB.out GE260.out GE273.out)); (case side6 => exact HC0_2.out); (case side7 => exact Kd.C_below HR0_3.out (bz2 HB.out GE260.out GE273.out)); (case side8 => exact HC0_3.out); rintro e w81 ⟨rfl, hb⟩; refine ⟨_, rfl, ?_⟩; replace BK260 := Aside0.mk (blk_below (g := gb260) (o := .cells #[.slice A0_0 l0_0.length c0_0, .slice A0_1 l0_1.length c0_1, .slice A0_2 l0_2.length c0_2, .slice (some ad272) l0_3.length c0_3] 29 (0, 0)) (by refine kq ?_; refine blk_far ?_ NB260_273.out _; refine kq ?_; refine blk_far ?_ NB260_273.out _; refine kq ?_; exact BK260.out) hb); replace BK273 := Aside0.mk (blk_below (g := gb273) (o := .cells #[.int .i64 ((rd_T35 l0_3 x72_4).f0), .int .i64 ((rd_T35 l0_3 x72_4).f1)] 35 (0, 0)) (by refine kq ?_; refine blk_put (cs := #[.int .i64 ((rd_T35 l0_3 x72_4).f0), .int .i64 0]) ?_ 1 _ rfl; refine kq ?_; refine blk_put (cs := #[.int .i64 0, .int .i64 0]) ?_ 0 _ rfl; refine kq ?_; exact BK273.out) hb); replace HB := Aside0.mk (below_step (bz2 HB.out GE260.out GE273.out) hb); (try clear hb); (try clear hi)))
              go_roundg k4
              case measure => have := HK1.out; have := HK2.out; have := HK3.out; have := HK4.out; omega
              case rel => exact ⟨(wrap64 (x72_4 + 1)), ez, H', ⟨by have := HK1.out; have := HK2.out; have := HK3.out; have := HK4.out; omega⟩, ⟨by refine kq ?_; exact BK260.out⟩, ⟨(bz2 HB.out GE260.out GE273.out)⟩⟩
             ·replace c76 := Bool.eq_false_iff.mpr c76
              subst c76
              have H1 := hq H
              clear H
              have H := H1
              clear H1
              obtain rfl := Option.some.inj H
              have p272 : 0 <= (x72_4 : Int) := oz
              have q272 : x72_4 < (l0_3.length : Int) := oz
              obtain ⟨ad272, e272, hx272_0, hx272_1⟩ := at_T35 HR0_3.out x72_4 p272 q272
              cases e272
              replace hx272_0 := hz HB.out hx272_0
              replace hx272_1 := hz HB.out hx272_1
              replace p272 := eq_true p272
              replace q272 := eq_true q272
              go_wp2_with (first | ((with_reducible refine gate_dst (N := 10) rfl ?_); refine box_event ?hg (N := 10) ?hd (cs := #[.int .i64 0, .int .i64 0]) (t := 35) ?hr ?_; (case hd => rfl); (case hg => rfl); (case hr => exact vz); intro gb273 hg w82 hbox hb; have BK273 := Aside0.mk (hbox); have GW273 := Aside0.mk ((by rw [hg]; exact (below_size (bz1 HB.out GE260.out)) : w.heap.size <= gb273)); have GE273 := GW273; replace HB := Aside0.mk (below_step (bz1 HB.out GE260.out) hb); have NB260_273 := Aside0.mk ((by rw [hg]; exact Nat.ne_of_lt (blk_lt (kz BK260.out)) : gb260 ≠ gb273)); have NB273_260 := Aside0.mk ((by rw [hg]; exact Nat.ne_of_gt (blk_lt (kz BK260.out)) : gb273 ≠ gb260)); replace BK260 := Aside0.mk (blk_below (kz BK260.out) hb); clear hb hbox hg; have hnb83 := NB273_260.out; have hnc83 := NB260_273.out; obtain ⟨hcz84_0, hcz84_1⟩ := cz2 BK273.out; obtain ⟨hfz84_0, hfz84_1⟩ := fz2 BK273.out; obtain ⟨hcz85_0, hcz85_1, hcz85_2, hcz85_3⟩ := cz4 BK260.out; obtain ⟨hfz85_0, hfz85_1, hfz85_2, hfz85_3⟩ := fz4 BK260.out) | ((with_reducible refine gate_callee (f := 13) rfl ?_); refine goesL_ (some 78) rfl rfl Tryd.func13 (by kernel_rfl) rfl #[.agg #[.slice A0_0 l0_0.length c0_0, .slice A0_1 l0_1.length c0_1, .slice A0_2 l0_2.length c0_2, .slice (some ad272) l0_3.length c0_3], .agg #[.int .i64 ((rd_T35 l0_3 x72_4).f0), .int .i64 ((rd_T35 l0_3 x72_4).f1)]] rfl lz ?_; (with_reducible refine (impl_ValOk.calls k4 _ _ l0_0 _ _ l0_1 _ _ l0_2 _ _ l0_3 ((rd_T35 l0_3 x72_4).f0) ((rd_T35 l0_3 x72_4).f1) false _ ?side1 ?side2 ?side3 ?side4 ?side5 ?side6 ?side7 ?side8 A75.out).mono ?_); (case side1 => exact Kd.C_below HR0_0.out (bz2 HB.out GE260.out GE273.out)); (case side2 => exact HC0_0.out); (case side3 => exact Kd.C_below HR0_1.out (bz2 HB.out GE260.out GE273.out)); (case side4 => exact HC0_1.out); (case side5 => exact Kd.C_below HR0_2.out (bz2 HB.out GE260.out GE273.out)); (case side6 => exact HC0_2.out); (case side7 => exact Kd.C_below HR0_3.out (bz2 HB.out GE260.out GE273.out)); (case side8 => exact HC0_3.out); rintro e w86 ⟨rfl, hb⟩; refine ⟨_, rfl, ?_⟩; replace BK260 := Aside0.mk (blk_below (g := gb260) (o := .cells #[.slice A0_0 l0_0.length c0_0, .slice A0_1 l0_1.length c0_1, .slice A0_2 l0_2.length c0_2, .slice (some ad272) l0_3.length c0_3] 29 (0, 0)) (by refine kq ?_; refine blk_far ?_ NB260_273.out _; refine kq ?_; refine blk_far ?_ NB260_273.out _; refine kq ?_; exact BK260.out) hb); replace BK273 := Aside0.mk (blk_below (g := gb273) (o := .cells #[.int .i64 ((rd_T35 l0_3 x72_4).f0), .int .i64 ((rd_T35 l0_3 x72_4).f1)] 35 (0, 0)) (by refine kq ?_; refine blk_put (cs := #[.int .i64 ((rd_T35 l0_3 x72_4).f0), .int .i64 0]) ?_ 1 _ rfl; refine kq ?_; refine blk_put (cs := #[.int .i64 0, .int .i64 0]) ?_ 0 _ rfl; refine kq ?_; exact BK273.out) hb); replace HB := Aside0.mk (below_step (bz2 HB.out GE260.out GE273.out) hb); (try clear hb); (try clear hi)))
              go_ret
              exact ⟨gz, (bz2 HB.out GE260.out GE273.out)⟩
            ·rw [if_neg c72] at H
             have c72b0 := decide_eq_false c72
             clear c72
             obtain rfl := Option.some.inj H
             go_wp2
             go_ret
             exact ⟨gz, (bz1 HB.out GE260.out)⟩
end Go.Proofs.YtlhofeikcaejpaaDoor.PFnValues
