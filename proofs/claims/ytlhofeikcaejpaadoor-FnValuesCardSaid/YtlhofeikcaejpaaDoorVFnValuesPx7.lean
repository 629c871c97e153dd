/- PFnValuesx7, of the words and walks that the law FnValues needs; made by this session's program out of printed texts. -/

import Derived.Test.YtlhofeikcaejpaaDoorVFnValuesPx0
import Derived.Test.YtlhofeikcaejpaaDoorVFnValuesPx6
namespace Go.Proofs.YtlhofeikcaejpaaDoor.PFnValues
open Go.RowKit Go.Proofs.YtlhofeikcaejpaaDoorW.PrintWords Go.Proofs.YtlhofeikcaejpaaDoorW.PrintLast Go.Proofs.YtlhofeikcaejpaaDoorW.PrintMore
attribute [local go_sem] max2_int min2_int max_two min_two max_three min_three max_four min_four
set_option linter.unusedVariables false
set_option linter.unusedSimpArgs false
mutual
def spec_HeapOk.l0 : Nat -> Int -> List (S41) -> List (S86) -> List (S47) -> List (S35) -> Option (Bool)
 | 0, _, _, _, _, _ => none
 | k + 1, x3, x297000, x297001, x297002, x297003 => if x3 < (x297000.length : Int) then (if 0 <= x3 then ((spec_l1In.f ((rd_T41 x297000 x3).f3) (-1) (wrap64 (x3 - 1))).bind fun t298 => (if t298 = true then ((spec_ValOk.f k x297000 x297001 x297002 x297003 ((rd_T41 x297000 x3).f2.f0) ((rd_T41 x297000 x3).f2.f1)).bind fun t300 => (if t300 = true then (spec_HeapOk.l0 k (wrap64 (x3 + 1)) x297000 x297001 x297002 x297003) else (some false))) else (some false))) else (none)) else (spec_HeapOk.l1 k 0 x297000 x297001 x297002 x297003)
def spec_HeapOk.l1 : Nat -> Int -> List (S41) -> List (S86) -> List (S47) -> List (S35) -> Option (Bool)
 | 0, _, _, _, _, _ => none
 | k + 1, x4, x297000, x297001, x297002, x297003 => if x4 < (x297001.length : Int) then (if 0 <= x4 then ((spec_l1In.f ((rd_T86 x297001 x4).f1) (-1) (wrap64 ((x297000.length : Int) - 1))).bind fun t302 => (if t302 = true then (spec_HeapOk.l1 k (wrap64 (x4 + 1)) x297000 x297001 x297002 x297003) else (some false))) else (none)) else (spec_HeapOk.l2 k 0 x297000 x297001 x297002 x297003)
def spec_HeapOk.l2 : Nat -> Int -> List (S41) -> List (S86) -> List (S47) -> List (S35) -> Option (Bool)
 | 0, _, _, _, _, _ => none
 | k + 1, x5, x297000, x297001, x297002, x297003 => if x5 < (x297002.length : Int) then (if 0 <= x5 then ((spec_ValOk.f k x297000 x297001 x297002 x297003 ((rd_T47 x297002 x5).f0.f0) ((rd_T47 x297002 x5).f0.f1)).bind fun t304 => (if t304 = true then ((spec_ValOk.f k x297000 x297001 x297002 x297003 ((rd_T47 x297002 x5).f1.f0) ((rd_T47 x297002 x5).f1.f1)).bind fun t306 => (if t306 = true then (spec_HeapOk.l2 k (wrap64 (x5 + 1)) x297000 x297001 x297002 x297003) else (some false))) else (some false))) else (none)) else (spec_HeapOk.l3 k 0 x297000 x297001 x297002 x297003)
def spec_HeapOk.l3 : Nat -> Int -> List (S41) -> List (S86) -> List (S47) -> List (S35) -> Option (Bool)
 | 0, _, _, _, _, _ => none
 | k + 1, x6, x297000, x297001, x297002, x297003 => if x6 < (x297003.length : Int) then (if 0 <= x6 then ((spec_ValOk.f k x297000 x297001 x297002 x297003 ((rd_T35 x297003 x6).f0) ((rd_T35 x297003 x6).f1)).bind fun t308 => (if t308 = true then (spec_HeapOk.l3 k (wrap64 (x6 + 1)) x297000 x297001 x297002 x297003) else (some false))) else (none)) else (some true)
end
def spec_HeapOk.f (k : Nat) (l0_0 : List (S41)) (l0_1 : List (S86)) (l0_2 : List (S47)) (l0_3 : List (S35)) : Option (Bool) := spec_HeapOk.l0 k 0 l0_0 l0_1 l0_2 l0_3
theorem spec_HeapOk.mono_l : ∀ k, (∀ y0 y1 y2 y3 y4, LeO (spec_HeapOk.l0 k y0 y1 y2 y3 y4) (spec_HeapOk.l0 (k + 1) y0 y1 y2 y3 y4)) /\ (∀ y0 y1 y2 y3 y4, LeO (spec_HeapOk.l1 k y0 y1 y2 y3 y4) (spec_HeapOk.l1 (k + 1) y0 y1 y2 y3 y4)) /\ (∀ y0 y1 y2 y3 y4, LeO (spec_HeapOk.l2 k y0 y1 y2 y3 y4) (spec_HeapOk.l2 (k + 1) y0 y1 y2 y3 y4)) /\ (∀ y0 y1 y2 y3 y4, LeO (spec_HeapOk.l3 k y0 y1 y2 y3 y4) (spec_HeapOk.l3 (k + 1) y0 y1 y2 y3 y4))
 | 0 => ⟨fun _ _ _ _ _ r h => by simp [spec_HeapOk.l0] at h, fun _ _ _ _ _ r h => by simp [spec_HeapOk.l1] at h, fun _ _ _ _ _ r h => by simp [spec_HeapOk.l2] at h, fun _ _ _ _ _ r h => by simp [spec_HeapOk.l3] at h⟩
 | k + 1 => by
  obtain ⟨ih0, ih1, ih2, ih3⟩ := spec_HeapOk.mono_l k
  refine ⟨?_, ?_, ?_, ?_⟩
  ·intro y0 y1 y2 y3 y4
   unfold spec_HeapOk.l0
   with_reducible repeat' first | exact ih0 _ _ _ _ _ | exact ih1 _ _ _ _ _ | exact ih2 _ _ _ _ _ | exact ih3 _ _ _ _ _ | exact spec_ValOk.mono _ _ _ _ _ _ _ | exact lrz _ | exact lnz _ | refine liz ?_ ?_ | refine lbz ?_ fun _ => ?_
  ·intro y0 y1 y2 y3 y4
   unfold spec_HeapOk.l1
   with_reducible repeat' first | exact ih0 _ _ _ _ _ | exact ih1 _ _ _ _ _ | exact ih2 _ _ _ _ _ | exact ih3 _ _ _ _ _ | exact spec_ValOk.mono _ _ _ _ _ _ _ | exact lrz _ | exact lnz _ | refine liz ?_ ?_ | refine lbz ?_ fun _ => ?_
  ·intro y0 y1 y2 y3 y4
   unfold spec_HeapOk.l2
   with_reducible repeat' first | exact ih0 _ _ _ _ _ | exact ih1 _ _ _ _ _ | exact ih2 _ _ _ _ _ | exact ih3 _ _ _ _ _ | exact spec_ValOk.mono _ _ _ _ _ _ _ | exact lrz _ | exact lnz _ | refine liz ?_ ?_ | refine lbz ?_ fun _ => ?_
  ·intro y0 y1 y2 y3 y4
   unfold spec_HeapOk.l3
   with_reducible repeat' first | exact ih0 _ _ _ _ _ | exact ih1 _ _ _ _ _ | exact ih2 _ _ _ _ _ | exact ih3 _ _ _ _ _ | exact spec_ValOk.mono _ _ _ _ _ _ _ | exact lrz _ | exact lnz _ | refine liz ?_ ?_ | refine lbz ?_ fun _ => ?_
theorem spec_HeapOk.mono : ∀ a0 a1 a2 a3 k, LeO (spec_HeapOk.f k a0 a1 a2 a3) (spec_HeapOk.f (k + 1) a0 a1 a2 a3) := by
 intro a0 a1 a2 a3 k
 obtain ⟨ih0, ih1, ih2, ih3⟩ := spec_HeapOk.mono_l k
 unfold spec_HeapOk.f
 with_reducible repeat' first | exact ih0 _ _ _ _ _ | exact ih1 _ _ _ _ _ | exact ih2 _ _ _ _ _ | exact ih3 _ _ _ _ _ | exact spec_ValOk.mono _ _ _ _ _ _ _ | exact lrz _ | exact lnz _ | refine liz ?_ ?_ | refine lbz ?_ fun _ => ?_
def spec_HeapOk.T4 : Bool × List (List Nat × List Nat) := (true, [([], []), ([0], [0]), ([], []), ([1, 2], [1, 2]), ([3], [3]), ([4], [4]), ([], []), ([6], [6]), ([5, 7], [5, 7]), ([8], [8]), ([9, 8], [9]), ([10], [10]), ([10], [10]), ([12, 10], [10, 12]), ([10], [10]), ([13, 14, 10], [10, 13, 14]), ([15, 10], [10, 15]), ([16, 10], [10, 16]), ([11, 17, 10, 10], [10, 11, 17]), ([18, 10], [10, 18]), ([10, 19], [10, 19])])
def spec_HeapOk.B4 : List Nat := [0, 1, 0, 7, 15, 31, 0, 64, 255, 511, 1023, 2047, 2047, 6143, 2047, 30719, 63487, 129023, 262143, 524287, 1048575]
theorem spec_HeapOk.tab4 : rtab .any (opsOf Tryd.f14 4) = spec_HeapOk.T4 := by kernel_rfl
theorem spec_HeapOk.bits4 : waitsOk spec_HeapOk.T4.2 spec_HeapOk.B4 = true := by kernel_rfl
def spec_HeapOk.T9 : Bool × List (List Nat × List Nat) := (true, [([], []), ([0], [0]), ([], []), ([1, 2], [1, 2]), ([3], [3]), ([4], [4]), ([], []), ([6], [6]), ([7], [7]), ([8], [8]), ([5, 9], [5, 9]), ([10], [10])])
def spec_HeapOk.B9 : List Nat := [0, 1, 0, 7, 15, 31, 0, 64, 192, 448, 1023, 2047]
theorem spec_HeapOk.tab9 : rtab .any (opsOf Tryd.f14 9) = spec_HeapOk.T9 := by kernel_rfl
theorem spec_HeapOk.bits9 : waitsOk spec_HeapOk.T9.2 spec_HeapOk.B9 = true := by kernel_rfl
def spec_HeapOk.T14 : Bool × List (List Nat × List Nat) := (true, [([], []), ([], []), ([1], [1]), ([], []), ([2, 3], [2, 3]), ([4], [4]), ([5], [5]), ([0, 6], [0, 6]), ([7], [7]), ([8, 7], [8]), ([9], [9]), ([9], [9]), ([11, 9], [9, 11]), ([9], [9]), ([12, 13, 9], [9, 12, 13]), ([14, 9], [9, 14]), ([15, 9], [9, 15]), ([10, 16, 9, 9], [9, 10, 16]), ([17, 9], [9, 17]), ([9, 18], [9, 18])])
def spec_HeapOk.B14 : List Nat := [0, 0, 2, 0, 14, 30, 62, 127, 255, 511, 1023, 1023, 3071, 1023, 15359, 31743, 64511, 131071, 262143, 524287]
theorem spec_HeapOk.tab14 : rtab .any (opsOf Tryd.f14 14) = spec_HeapOk.T14 := by kernel_rfl
theorem spec_HeapOk.bits14 : waitsOk spec_HeapOk.T14.2 spec_HeapOk.B14 = true := by kernel_rfl
def spec_HeapOk.T19 : Bool × List (List Nat × List Nat) := (true, [([], []), ([], []), ([1], [1]), ([], []), ([2, 3], [2, 3]), ([4], [4]), ([0, 5], [0, 5]), ([6], [6])])
def spec_HeapOk.B19 : List Nat := [0, 0, 2, 0, 14, 30, 63, 127]
theorem spec_HeapOk.tab19 : rtab .any (opsOf Tryd.f14 19) = spec_HeapOk.T19 := by kernel_rfl
theorem spec_HeapOk.bits19 : waitsOk spec_HeapOk.T19.2 spec_HeapOk.B19 = true := by kernel_rfl
set_option maxHeartbeats 80000000 in
set_option maxRecDepth 100000 in
theorem spec_HeapOk.calls (k : Nat) (A0_0 : Option Addr) (c0_0 : Nat) (l0_0 : List (S41)) (A0_1 : Option Addr) (c0_1 : Nat) (l0_1 : List (S86)) (A0_2 : Option Addr) (c0_2 : Nat) (l0_2 : List (S47)) (A0_3 : Option Addr) (c0_3 : Nat) (l0_3 : List (S35)) (r : Bool) (w : World) (hr0_0 : Kd.C k41 w A0_0 l0_0.length l0_0) (hc0_0 : l0_0.length <= c0_0) (hr0_1 : Kd.C k86 w A0_1 l0_1.length l0_1) (hc0_1 : l0_1.length <= c0_1) (hr0_2 : Kd.C k47 w A0_2 l0_2.length l0_2) (hc0_2 : l0_2.length <= c0_2) (hr0_3 : Kd.C k35 w A0_3 l0_3.length l0_3) (hc0_3 : l0_3.length <= c0_3) (h : spec_HeapOk.f k l0_0 l0_1 l0_2 l0_3 = some r) :
  Calls Tryd.prog 14 #[.agg #[.slice A0_0 l0_0.length c0_0, .slice A0_1 l0_1.length c0_1, .slice A0_2 l0_2.length c0_2, .slice A0_3 l0_3.length c0_3]] w fun e w' => e = .returned (.bool r) /\ Below w.heap.size w w' := by
 have hu29 := Tryd.underlying29
 have hu35 := Tryd.underlying35
 have HR0_0 := Aside0.mk hr0_0
 have HC0_0 := Aside0.mk hc0_0
 clear hr0_0 hc0_0
 have HR0_1 := Aside0.mk hr0_1
 have HC0_1 := Aside0.mk hc0_1
 clear hr0_1 hc0_1
 have HR0_2 := Aside0.mk hr0_2
 have HC0_2 := Aside0.mk hc0_2
 clear hr0_2 hc0_2
 have HR0_3 := Aside0.mk hr0_3
 have HC0_3 := Aside0.mk hc0_3
 clear hr0_3 hc0_3
 have HB := Aside0.mk (Below.refl w.heap.size w)
 have H : (spec_HeapOk.l0 k 0 l0_0 l0_1 l0_2 l0_3) = some r := h
 clear h
 have H' := Aside0.mk H
 clear H
 go_enter Tryd.func14, Tryd.ntmps14
 go_wp2_with (first | ((with_reducible refine gate_dst (N := 1) rfl ?_); refine box_event ?hg (N := 1) ?hd (cs := #[.slice A0_0 l0_0.length c0_0, .slice A0_1 l0_1.length c0_1, .slice A0_2 l0_2.length c0_2, .slice A0_3 l0_3.length c0_3]) (t := 29) ?hr ?_; (case hd => rfl); (case hg => rfl); (case hr => exact vz); intro gb296 hg w2 hbox hb; have BK296 := Aside0.mk (hbox); have GW296 := Aside0.mk ((by rw [hg]; exact (below_size (bz0 HB.out)) : w.heap.size <= gb296)); have GE296 := GW296; replace HB := Aside0.mk (below_step (bz0 HB.out) hb); clear hb hbox hg))
 (try simp only [Act.put, sz1, sz2, sz3])
 go_loopg [3] k (fun kq v3 w' => ∃ (x3_1 : Int), v3 = .int .i64 x3_1 /\ Aside0 (spec_HeapOk.l0 kq x3_1 l0_0 l0_1 l0_2 l0_3 = some r) /\ Aside0 (kq <= k) /\ Aside0 (w'.heap[gb296]? = some (.cells #[(.slice A0_0 l0_0.length c0_0), (.slice A0_1 l0_1.length c0_1), (.slice A0_2 l0_2.length c0_2), (.slice A0_3 l0_3.length c0_3)] 29 (0, 0))) /\ Aside0 (Below w.heap.size w w'))
 case atStart => exact ⟨(0), ez, H', ⟨Nat.le_refl _⟩, ⟨by refine kq ?_; exact BK296.out⟩, ⟨(bz1 HB.out GE296.out)⟩⟩
 case round =>
  clear H'
  try clear c1
  try clear p2
  obtain ⟨x3_1, rfl, HA, HK1, BK296, HB⟩ := hrel
  cases gk with
  | zero => exact absurd HA.out (by simp [spec_HeapOk.l0])
  | succ k1 =>
   have H := HA.out
   clear HA
   simp only [spec_HeapOk.l0] at H
   by_cases c3 : x3_1 < (l0_0.length : Int)
   ·rw [if_pos c3] at H
    have c3b0 := decide_eq_true c3
    clear c3
    replace H := iz H
    obtain ⟨c4, H⟩ := H
    have c4b0 := decide_eq_true c4
    clear c4
    replace H := bi H
    obtain ⟨t298, A50, H⟩ := H
    try dsimp only at H
    have A5 := Aside0.mk A50
    clear A50
    by_cases c6 : t298 = true
    ·subst c6
     have H1 := hp H
     clear H
     have H := H1
     clear H1
     replace H := bi H
     obtain ⟨t300, A70, H⟩ := H
     try dsimp only at H
     have A7 := Aside0.mk A70
     clear A70
     by_cases c8 : t300 = true
     ·subst c8
      have H1 := hp H
      clear H
      have H := H1
      clear H1
      have H' := Aside0.mk H
      clear H
      obtain ⟨hcz9_0, hcz9_1, hcz9_2, hcz9_3⟩ := cz4 BK296.out
      obtain ⟨hfz9_0, hfz9_1, hfz9_2, hfz9_3⟩ := fz4 BK296.out
      try go_wp2
      have n0_ := Aside0.mk (blk_drew BK296.out)
      have n1_ := Aside0.mk (below_drew1 HB.out)
      clear BK296
      clear HB
      have BK296 := n0_
      have HB := n1_
      clear n0_ n1_
      have p297 : 0 <= (x3_1 : Int) := oz
      have q297 : x3_1 < (l0_0.length : Int) := oz
      obtain ⟨ad297, e297, hx297_0, hx297_1, hx297_2, hx297_3, hx297_4⟩ := at_T41 HR0_0.out x3_1 p297 q297
      have hw297_4 := hx297_4
      have hw297_3 := hx297_3
      have hw297_2 := hx297_2
      have hw297_1 := hx297_1
      have hw297_0 := hx297_0
      cases e297
      replace hx297_0 := hz HB.out hx297_0
      replace hx297_1 := hz HB.out hx297_1
      replace hx297_2 := hz HB.out hx297_2
      replace hx297_3 := hz HB.out hx297_3
      replace hx297_4 := hz HB.out hx297_4
      replace p297 := eq_true p297
      replace q297 := eq_true q297
      have p299 : 0 <= (x3_1 : Int) := oz
      have q299 : x3_1 < (l0_0.length : Int) := oz
      obtain ⟨ad299, e299, hx299_0, hx299_1, hx299_2, hx299_3, hx299_4⟩ := at_T41 HR0_0.out x3_1 p299 q299
      have hw299_4 := hx299_4
      have hw299_3 := hx299_3
      have hw299_2 := hx299_2
      have hw299_1 := hx299_1
      have hw299_0 := hx299_0
      obtain rfl : ad297 = ad299 := (by injection e299)
      replace hx299_0 := hz HB.out hx299_0
      replace hx299_1 := hz HB.out hx299_1
      replace hx299_2 := hz HB.out hx299_2
      replace hx299_3 := hz HB.out hx299_3
      replace hx299_4 := hz HB.out hx299_4
      replace p299 := eq_true p299
      replace q299 := eq_true q299
      refine start_ (n := 21) (S := fun w' => w'.cell? ⟨gb296, 0, none⟩ = some (.slice (some ad297) l0_0.length c0_0) /\ w'.cell? ⟨gb296, 1, none⟩ = some (.slice A0_1 l0_1.length c0_1) /\ w'.cell? ⟨gb296, 2, none⟩ = some (.slice A0_2 l0_2.length c0_2) /\ w'.cell? ⟨gb296, 3, none⟩ = some (.slice A0_3 l0_3.length c0_3) /\ w'.cell? (ad297.add ((x3_1).toNat * 5)) = some (.int .i64 ((rd_T41 l0_0 x3_1).f0)) /\ w'.cell? ⟨(ad297.add ((x3_1).toNat * 5)).block, (ad297.add ((x3_1).toNat * 5)).off + 1, none⟩ = some (.int .i64 ((rd_T41 l0_0 x3_1).f1)) /\ w'.cell? ⟨(ad297.add ((x3_1).toNat * 5)).block, (ad297.add ((x3_1).toNat * 5)).off + 2, none⟩ = some (.int .i64 ((rd_T41 l0_0 x3_1).f2.f0)) /\ w'.cell? ⟨(ad297.add ((x3_1).toNat * 5)).block, (ad297.add ((x3_1).toNat * 5)).off + 3, none⟩ = some (.int .i64 ((rd_T41 l0_0 x3_1).f2.f1)) /\ w'.cell? ⟨(ad297.add ((x3_1).toNat * 5)).block, (ad297.add ((x3_1).toNat * 5)).off + 4, none⟩ = some (.int .i64 ((rd_T41 l0_0 x3_1).f3)) /\ w'.cell? (ad297.add ((x3_1).toNat * 5)) = some (.int .i64 ((rd_T41 l0_0 x3_1).f0)) /\ w'.cell? ⟨(ad297.add ((x3_1).toNat * 5)).block, (ad297.add ((x3_1).toNat * 5)).off + 1, none⟩ = some (.int .i64 ((rd_T41 l0_0 x3_1).f1)) /\ w'.cell? ⟨(ad297.add ((x3_1).toNat * 5)).block, (ad297.add ((x3_1).toNat * 5)).off + 2, none⟩ = some (.int .i64 ((rd_T41 l0_0 x3_1).f2.f0)) /\ w'.cell? ⟨(ad297.add ((x3_1).toNat * 5)).block, (ad297.add ((x3_1).toNat * 5)).off + 3, none⟩ = some (.int .i64 ((rd_T41 l0_0 x3_1).f2.f1)) /\ w'.cell? ⟨(ad297.add ((x3_1).toNat * 5)).block, (ad297.add ((x3_1).toNat * 5)).off + 4, none⟩ = some (.int .i64 ((rd_T41 l0_0 x3_1).f3))) (ds := []) (mk_ 0 21) (by kernel_rfl) rfl rfl ⟨(blk_cell BK296.out 0).trans rfl, (blk_cell BK296.out 1).trans rfl, (blk_cell BK296.out 2).trans rfl, (blk_cell BK296.out 3).trans rfl, (hz HB.out hw297_0 :), (hz HB.out hw297_1 :), (hz HB.out hw297_2 :), (hz HB.out hw297_3 :), (hz HB.out hw297_4 :), (hz HB.out hw299_0 :), (hz HB.out hw299_1 :), (hz HB.out hw299_2 :), (hz HB.out hw299_3 :), (hz HB.out hw299_4 :)⟩ (fun hHeld => ?_); refine with_tabW spec_HeapOk.tab4 spec_HeapOk.bits4 (fun HT_ HW_ => ?_)
      generalize wr.drew = w10 at BK296 HB hx297_0 hx297_1 hx297_2 hx297_3 hx297_4 hx299_0 hx299_1 hx299_2 hx299_3 hx299_4 hHeld ⊢
      refine pv 0 14 (mk_ 1 20) HT_ rfl rfl ?_
      refine pv 2 16 (bm_ 21 5) HT_ rfl rfl ?_
      refine pv 6 20 (bm_ 21 69) HT_ rfl rfl ?_
      refine pv 7 21 (bm_ 21 197) HT_ rfl rfl ?_
      refine tv14 1 15 (bm_ 21 199) HT_ HW_ rfl rfl hHeld ?_
      refine pv 3 17 (bm_ 21 207) HT_ rfl rfl ?_
      refine pv 4 18 (bm_ 21 223) HT_ rfl rfl ?_
      refine tv14 5 19 (mk_ 8 13) HT_ HW_ rfl rfl hHeld ?_
      refine one_ (i := 8) (N := some 22) (mk_ 9 12) rfl rfl (one_of HT_.out (by kernel_rfl)) (by decide) (fun K hK => ?_)
      refine goes_ Tryd.func44 (by kernel_rfl) rfl #[.int .i64 ((rd_T41 l0_0 x3_1).f3), .int .i64 (-1), .int .i64 (wrap64 (x3_1 - 1))] (by rfl) rfl rfl lz ?_
      with_reducible refine (spec_l1In.calls ((rd_T41 l0_0 x3_1).f3) (-1) (wrap64 (x3_1 - 1)) true _ A5.out).mono ?_
      rintro e w' ⟨rfl, ⟨nd, rfl⟩⟩
      refine ⟨_, rfl, ?_⟩
      refine hK.out _ _ ⟨(blk_cell BK296.out 0).trans rfl, (blk_cell BK296.out 1).trans rfl, (blk_cell BK296.out 2).trans rfl, (blk_cell BK296.out 3).trans rfl, (hz HB.out hw297_0 :), (hz HB.out hw297_1 :), (hz HB.out hw297_2 :), (hz HB.out hw297_3 :), (hz HB.out hw297_4 :), (hz HB.out hw299_0 :), (hz HB.out hw299_1 :), (hz HB.out hw299_2 :), (hz HB.out hw299_3 :), (hz HB.out hw299_4 :)⟩ (fun hHeld => ?_)
      clear hK K
      refine norm_ (a' := ?_) ?_ ?_
      rotate_left
      ·show Act.put _ (some 22) _ = _
       simp only [Act.put, sz1, sz2, sz3, i64_w, i32_w]
       rfl
      refine pv 9 23 (mk_ 10 11) HT_ rfl rfl ?_
      refine pv 10 24 (mk_ 11 10) HT_ rfl rfl ?_
      refine pv 12 26 (bm_ 21 6143) HT_ rfl rfl ?_
      refine pv 14 28 (bm_ 21 22527) HT_ rfl rfl ?_
      refine tv14 11 25 (bm_ 21 24575) HT_ HW_ rfl rfl hHeld ?_
      refine tv14 13 27 (mk_ 15 6) HT_ HW_ rfl rfl hHeld ?_
      refine pv 15 29 (mk_ 16 5) HT_ rfl rfl ?_
      refine pv 16 30 (mk_ 17 4) HT_ rfl rfl ?_
      refine tv14 17 31 (mk_ 18 3) HT_ HW_ rfl rfl hHeld ?_
      refine one_ (i := 18) (N := some 32) (mk_ 19 2) rfl rfl (one_of HT_.out (by kernel_rfl)) (by decide) (fun K hK => ?_)
      refine goes_ Tryd.func17 (by kernel_rfl) rfl #[.agg #[.slice (some ad297) l0_0.length c0_0, .slice A0_1 l0_1.length c0_1, .slice A0_2 l0_2.length c0_2, .slice A0_3 l0_3.length c0_3], .agg #[.int .i64 ((rd_T41 l0_0 x3_1).f2.f0), .int .i64 ((rd_T41 l0_0 x3_1).f2.f1)]] (by rfl) rfl rfl lz ?_
      with_reducible refine (spec_ValOk.calls k1 _ _ l0_0 _ _ l0_1 _ _ l0_2 _ _ l0_3 ((rd_T41 l0_0 x3_1).f2.f0) ((rd_T41 l0_0 x3_1).f2.f1) true _ ?side1 ?side2 ?side3 ?side4 ?side5 ?side6 ?side7 ?side8 A7.out).mono ?_
      (case side1 => exact cz (Kd.C_below HR0_0.out (bz1 HB.out GE296.out)))
      (case side2 => exact HC0_0.out)
      (case side3 => exact cz (Kd.C_below HR0_1.out (bz1 HB.out GE296.out)))
      (case side4 => exact HC0_1.out)
      (case side5 => exact cz (Kd.C_below HR0_2.out (bz1 HB.out GE296.out)))
      (case side6 => exact HC0_2.out)
      (case side7 => exact cz (Kd.C_below HR0_3.out (bz1 HB.out GE296.out)))
      (case side8 => exact HC0_3.out)
      rintro e w11 ⟨rfl, hb⟩
      refine ⟨_, rfl, ?_⟩
      have n0_ := Aside0.mk (blk_below (kz BK296.out) hb)
      have n1_ := Aside0.mk (below_step (bz1 HB.out GE296.out) hb)
      clear BK296
      clear HB
      have BK296 := n0_
      have HB := n1_
      clear n0_ n1_
      (try clear hb)
      (try clear hb2)
      (try clear hk)
      (try clear hi)
      refine hK.out _ _ ⟨(blk_cell BK296.out 0).trans rfl, (blk_cell BK296.out 1).trans rfl, (blk_cell BK296.out 2).trans rfl, (blk_cell BK296.out 3).trans rfl, (hz HB.out hw297_0 :), (hz HB.out hw297_1 :), (hz HB.out hw297_2 :), (hz HB.out hw297_3 :), (hz HB.out hw297_4 :), (hz HB.out hw299_0 :), (hz HB.out hw299_1 :), (hz HB.out hw299_2 :), (hz HB.out hw299_3 :), (hz HB.out hw299_4 :)⟩ (fun hHeld => ?_)
      clear hK K
      refine norm_ (a' := ?_) ?_ ?_
      rotate_left
      ·show Act.put _ (some 32) _ = _
       simp only [Act.put, sz1, sz2, sz3, i64_w, i32_w]
       rfl
      refine pv 19 33 (mk_ 20 1) HT_ rfl rfl ?_
      refine pv 20 34 (mk_ 21 0) HT_ rfl rfl ?_
      refine done_ (done_of HT_.out (by kernel_rfl)) ?_
      try go_wp2
      go_roundg k1
      case measure => have := HK1.out; omega
      case rel => exact ⟨(wrap64 (x3_1 + 1)), ez, H', ⟨by have := HK1.out; omega⟩, ⟨by refine kq ?_; exact BK296.out⟩, ⟨(bz1 HB.out GE296.out)⟩⟩
     ·replace c8 := Bool.eq_false_iff.mpr c8
      subst c8
      have H1 := hq H
      clear H
      have H := H1
      clear H1
      obtain rfl := Option.some.inj H
      obtain ⟨hcz12_0, hcz12_1, hcz12_2, hcz12_3⟩ := cz4 BK296.out
      obtain ⟨hfz12_0, hfz12_1, hfz12_2, hfz12_3⟩ := fz4 BK296.out
      try go_wp2
      have n0_ := Aside0.mk (blk_drew BK296.out)
      have n1_ := Aside0.mk (below_drew1 HB.out)
      clear BK296
      clear HB
      have BK296 := n0_
      have HB := n1_
      clear n0_ n1_
      have p297 : 0 <= (x3_1 : Int) := oz
      have q297 : x3_1 < (l0_0.length : Int) := oz
      obtain ⟨ad297, e297, hx297_0, hx297_1, hx297_2, hx297_3, hx297_4⟩ := at_T41 HR0_0.out x3_1 p297 q297
      have hw297_4 := hx297_4
      have hw297_3 := hx297_3
      have hw297_2 := hx297_2
      have hw297_1 := hx297_1
      have hw297_0 := hx297_0
      cases e297
      replace hx297_0 := hz HB.out hx297_0
      replace hx297_1 := hz HB.out hx297_1
      replace hx297_2 := hz HB.out hx297_2
      replace hx297_3 := hz HB.out hx297_3
      replace hx297_4 := hz HB.out hx297_4
      replace p297 := eq_true p297
      replace q297 := eq_true q297
      have p299 : 0 <= (x3_1 : Int) := oz
      have q299 : x3_1 < (l0_0.length : Int) := oz
      obtain ⟨ad299, e299, hx299_0, hx299_1, hx299_2, hx299_3, hx299_4⟩ := at_T41 HR0_0.out x3_1 p299 q299
      have hw299_4 := hx299_4
      have hw299_3 := hx299_3
      have hw299_2 := hx299_2
      have hw299_1 := hx299_1
      have hw299_0 := hx299_0
      obtain rfl : ad297 = ad299 := (by injection e299)
      replace hx299_0 := hz HB.out hx299_0
      replace hx299_1 := hz HB.out hx299_1
      replace hx299_2 := hz HB.out hx299_2
      replace hx299_3 := hz HB.out hx299_3
      replace hx299_4 := hz HB.out hx299_4
      replace p299 := eq_true p299
      replace q299 := eq_true q299
      refine start_ (n := 21) (S := fun w' => w'.cell? ⟨gb296, 0, none⟩ = some (.slice (some ad297) l0_0.length c0_0) /\ w'.cell? ⟨gb296, 1, none⟩ = some (.slice A0_1 l0_1.length c0_1) /\ w'.cell? ⟨gb296, 2, none⟩ = some (.slice A0_2 l0_2.length c0_2) /\ w'.cell? ⟨gb296, 3, none⟩ = some (.slice A0_3 l0_3.length c0_3) /\ w'.cell? (ad297.add ((x3_1).toNat * 5)) = some (.int .i64 ((rd_T41 l0_0 x3_1).f0)) /\ w'.cell? ⟨(ad297.add ((x3_1).toNat * 5)).block, (ad297.add ((x3_1).toNat * 5)).off + 1, none⟩ = some (.int .i64 ((rd_T41 l0_0 x3_1).f1)) /\ w'.cell? ⟨(ad297.add ((x3_1).toNat * 5)).block, (ad297.add ((x3_1).toNat * 5)).off + 2, none⟩ = some (.int .i64 ((rd_T41 l0_0 x3_1).f2.f0)) /\ w'.cell? ⟨(ad297.add ((x3_1).toNat * 5)).block, (ad297.add ((x3_1).toNat * 5)).off + 3, none⟩ = some (.int .i64 ((rd_T41 l0_0 x3_1).f2.f1)) /\ w'.cell? ⟨(ad297.add ((x3_1).toNat * 5)).block, (ad297.add ((x3_1).toNat * 5)).off + 4, none⟩ = some (.int .i64 ((rd_T41 l0_0 x3_1).f3)) /\ w'.cell? (ad297.add ((x3_1).toNat * 5)) = some (.int .i64 ((rd_T41 l0_0 x3_1).f0)) /\ w'.cell? ⟨(ad297.add ((x3_1).toNat * 5)).block, (ad297.add ((x3_1).toNat * 5)).off + 1, none⟩ = some (.int .i64 ((rd_T41 l0_0 x3_1).f1)) /\ w'.cell? ⟨(ad297.add ((x3_1).toNat * 5)).block, (ad297.add ((x3_1).toNat * 5)).off + 2, none⟩ = some (.int .i64 ((rd_T41 l0_0 x3_1).f2.f0)) /\ w'.cell? ⟨(ad297.add ((x3_1).toNat * 5)).block, (ad297.add ((x3_1).toNat * 5)).off + 3, none⟩ = some (.int .i64 ((rd_T41 l0_0 x3_1).f2.f1)) /\ w'.cell? ⟨(ad297.add ((x3_1).toNat * 5)).block, (ad297.add ((x3_1).toNat * 5)).off + 4, none⟩ = some (.int .i64 ((rd_T41 l0_0 x3_1).f3))) (ds := []) (mk_ 0 21) (by kernel_rfl) rfl rfl ⟨(blk_cell BK296.out 0).trans rfl, (blk_cell BK296.out 1).trans rfl, (blk_cell BK296.out 2).trans rfl, (blk_cell BK296.out 3).trans rfl, (hz HB.out hw297_0 :), (hz HB.out hw297_1 :), (hz HB.out hw297_2 :), (hz HB.out hw297_3 :), (hz HB.out hw297_4 :), (hz HB.out hw299_0 :), (hz HB.out hw299_1 :), (hz HB.out hw299_2 :), (hz HB.out hw299_3 :), (hz HB.out hw299_4 :)⟩ (fun hHeld => ?_); refine with_tabW spec_HeapOk.tab4 spec_HeapOk.bits4 (fun HT_ HW_ => ?_)
      generalize wr.drew = w13 at BK296 HB hx297_0 hx297_1 hx297_2 hx297_3 hx297_4 hx299_0 hx299_1 hx299_2 hx299_3 hx299_4 hHeld ⊢
      refine pv 0 14 (mk_ 1 20) HT_ rfl rfl ?_
      refine pv 2 16 (bm_ 21 5) HT_ rfl rfl ?_
      refine pv 6 20 (bm_ 21 69) HT_ rfl rfl ?_
      refine pv 7 21 (bm_ 21 197) HT_ rfl rfl ?_
      refine tv14 1 15 (bm_ 21 199) HT_ HW_ rfl rfl hHeld ?_
      refine pv 3 17 (bm_ 21 207) HT_ rfl rfl ?_
      refine pv 4 18 (bm_ 21 223) HT_ rfl rfl ?_
      refine tv14 5 19 (mk_ 8 13) HT_ HW_ rfl rfl hHeld ?_
      refine one_ (i := 8) (N := some 22) (mk_ 9 12) rfl rfl (one_of HT_.out (by kernel_rfl)) (by decide) (fun K hK => ?_)
      refine goes_ Tryd.func44 (by kernel_rfl) rfl #[.int .i64 ((rd_T41 l0_0 x3_1).f3), .int .i64 (-1), .int .i64 (wrap64 (x3_1 - 1))] (by rfl) rfl rfl lz ?_
      with_reducible refine (spec_l1In.calls ((rd_T41 l0_0 x3_1).f3) (-1) (wrap64 (x3_1 - 1)) true _ A5.out).mono ?_
      rintro e w' ⟨rfl, ⟨nd, rfl⟩⟩
      refine ⟨_, rfl, ?_⟩
      refine hK.out _ _ ⟨(blk_cell BK296.out 0).trans rfl, (blk_cell BK296.out 1).trans rfl, (blk_cell BK296.out 2).trans rfl, (blk_cell BK296.out 3).trans rfl, (hz HB.out hw297_0 :), (hz HB.out hw297_1 :), (hz HB.out hw297_2 :), (hz HB.out hw297_3 :), (hz HB.out hw297_4 :), (hz HB.out hw299_0 :), (hz HB.out hw299_1 :), (hz HB.out hw299_2 :), (hz HB.out hw299_3 :), (hz HB.out hw299_4 :)⟩ (fun hHeld => ?_)
      clear hK K
      refine norm_ (a' := ?_) ?_ ?_
      rotate_left
      ·show Act.put _ (some 22) _ = _
       simp only [Act.put, sz1, sz2, sz3, i64_w, i32_w]
       rfl
      refine pv 9 23 (mk_ 10 11) HT_ rfl rfl ?_
      refine pv 10 24 (mk_ 11 10) HT_ rfl rfl ?_
      refine pv 12 26 (bm_ 21 6143) HT_ rfl rfl ?_
      refine pv 14 28 (bm_ 21 22527) HT_ rfl rfl ?_
      refine tv14 11 25 (bm_ 21 24575) HT_ HW_ rfl rfl hHeld ?_
      refine tv14 13 27 (mk_ 15 6) HT_ HW_ rfl rfl hHeld ?_
      refine pv 15 29 (mk_ 16 5) HT_ rfl rfl ?_
      refine pv 16 30 (mk_ 17 4) HT_ rfl rfl ?_
      refine tv14 17 31 (mk_ 18 3) HT_ HW_ rfl rfl hHeld ?_
      refine one_ (i := 18) (N := some 32) (mk_ 19 2) rfl rfl (one_of HT_.out (by kernel_rfl)) (by decide) (fun K hK => ?_)
      refine goes_ Tryd.func17 (by kernel_rfl) rfl #[.agg #[.slice (some ad297) l0_0.length c0_0, .slice A0_1 l0_1.length c0_1, .slice A0_2 l0_2.length c0_2, .slice A0_3 l0_3.length c0_3], .agg #[.int .i64 ((rd_T41 l0_0 x3_1).f2.f0), .int .i64 ((rd_T41 l0_0 x3_1).f2.f1)]] (by rfl) rfl rfl lz ?_
      with_reducible refine (spec_ValOk.calls k1 _ _ l0_0 _ _ l0_1 _ _ l0_2 _ _ l0_3 ((rd_T41 l0_0 x3_1).f2.f0) ((rd_T41 l0_0 x3_1).f2.f1) false _ ?side1 ?side2 ?side3 ?side4 ?side5 ?side6 ?side7 ?side8 A7.out).mono ?_
      (case side1 => exact cz (Kd.C_below HR0_0.out (bz1 HB.out GE296.out)))
      (case side2 => exact HC0_0.out)
      (case side3 => exact cz (Kd.C_below HR0_1.out (bz1 HB.out GE296.out)))
      (case side4 => exact HC0_1.out)
      (case side5 => exact cz (Kd.C_below HR0_2.out (bz1 HB.out GE296.out)))
      (case side6 => exact HC0_2.out)
      (case side7 => exact cz (Kd.C_below HR0_3.out (bz1 HB.out GE296.out)))
      (case side8 => exact HC0_3.out)
      rintro e w14 ⟨rfl, hb⟩
      refine ⟨_, rfl, ?_⟩
      have n0_ := Aside0.mk (blk_below (kz BK296.out) hb)
      have n1_ := Aside0.mk (below_step (bz1 HB.out GE296.out) hb)
      clear BK296
      clear HB
      have BK296 := n0_
      have HB := n1_
      clear n0_ n1_
      (try clear hb)
      (try clear hb2)
      (try clear hk)
      (try clear hi)
      refine hK.out _ _ ⟨(blk_cell BK296.out 0).trans rfl, (blk_cell BK296.out 1).trans rfl, (blk_cell BK296.out 2).trans rfl, (blk_cell BK296.out 3).trans rfl, (hz HB.out hw297_0 :), (hz HB.out hw297_1 :), (hz HB.out hw297_2 :), (hz HB.out hw297_3 :), (hz HB.out hw297_4 :), (hz HB.out hw299_0 :), (hz HB.out hw299_1 :), (hz HB.out hw299_2 :), (hz HB.out hw299_3 :), (hz HB.out hw299_4 :)⟩ (fun hHeld => ?_)
      clear hK K
      refine norm_ (a' := ?_) ?_ ?_
      rotate_left
      ·show Act.put _ (some 32) _ = _
       simp only [Act.put, sz1, sz2, sz3, i64_w, i32_w]
       rfl
      refine pv 19 33 (mk_ 20 1) HT_ rfl rfl ?_
      refine pv 20 34 (mk_ 21 0) HT_ rfl rfl ?_
      refine done_ (done_of HT_.out (by kernel_rfl)) ?_
      try go_wp2
      go_ret
      exact ⟨gz, (bz1 HB.out GE296.out)⟩
    ·replace c6 := Bool.eq_false_iff.mpr c6
     subst c6
     have H1 := hq H
     clear H
     have H := H1
     clear H1
     obtain rfl := Option.some.inj H
     obtain ⟨hcz15_0, hcz15_1, hcz15_2, hcz15_3⟩ := cz4 BK296.out
     obtain ⟨hfz15_0, hfz15_1, hfz15_2, hfz15_3⟩ := fz4 BK296.out
     try go_wp2
     have n0_ := Aside0.mk (blk_drew BK296.out)
     have n1_ := Aside0.mk (below_drew1 HB.out)
     clear BK296
     clear HB
     have BK296 := n0_
     have HB := n1_
     clear n0_ n1_
     have p297 : 0 <= (x3_1 : Int) := oz
     have q297 : x3_1 < (l0_0.length : Int) := oz
     obtain ⟨ad297, e297, hx297_0, hx297_1, hx297_2, hx297_3, hx297_4⟩ := at_T41 HR0_0.out x3_1 p297 q297
     have hw297_4 := hx297_4
     have hw297_3 := hx297_3
     have hw297_2 := hx297_2
     have hw297_1 := hx297_1
     have hw297_0 := hx297_0
     cases e297
     replace hx297_0 := hz HB.out hx297_0
     replace hx297_1 := hz HB.out hx297_1
     replace hx297_2 := hz HB.out hx297_2
     replace hx297_3 := hz HB.out hx297_3
     replace hx297_4 := hz HB.out hx297_4
     replace p297 := eq_true p297
     replace q297 := eq_true q297
     refine start_ (n := 21) (S := fun w' => w'.cell? ⟨gb296, 0, none⟩ = some (.slice (some ad297) l0_0.length c0_0) /\ w'.cell? ⟨gb296, 1, none⟩ = some (.slice A0_1 l0_1.length c0_1) /\ w'.cell? ⟨gb296, 2, none⟩ = some (.slice A0_2 l0_2.length c0_2) /\ w'.cell? ⟨gb296, 3, none⟩ = some (.slice A0_3 l0_3.length c0_3) /\ w'.cell? (ad297.add ((x3_1).toNat * 5)) = some (.int .i64 ((rd_T41 l0_0 x3_1).f0)) /\ w'.cell? ⟨(ad297.add ((x3_1).toNat * 5)).block, (ad297.add ((x3_1).toNat * 5)).off + 1, none⟩ = some (.int .i64 ((rd_T41 l0_0 x3_1).f1)) /\ w'.cell? ⟨(ad297.add ((x3_1).toNat * 5)).block, (ad297.add ((x3_1).toNat * 5)).off + 2, none⟩ = some (.int .i64 ((rd_T41 l0_0 x3_1).f2.f0)) /\ w'.cell? ⟨(ad297.add ((x3_1).toNat * 5)).block, (ad297.add ((x3_1).toNat * 5)).off + 3, none⟩ = some (.int .i64 ((rd_T41 l0_0 x3_1).f2.f1)) /\ w'.cell? ⟨(ad297.add ((x3_1).toNat * 5)).block, (ad297.add ((x3_1).toNat * 5)).off + 4, none⟩ = some (.int .i64 ((rd_T41 l0_0 x3_1).f3))) (ds := []) (mk_ 0 21) (by kernel_rfl) rfl rfl ⟨(blk_cell BK296.out 0).trans rfl, (blk_cell BK296.out 1).trans rfl, (blk_cell BK296.out 2).trans rfl, (blk_cell BK296.out 3).trans rfl, (hz HB.out hw297_0 :), (hz HB.out hw297_1 :), (hz HB.out hw297_2 :), (hz HB.out hw297_3 :), (hz HB.out hw297_4 :)⟩ (fun hHeld => ?_); refine with_tabW spec_HeapOk.tab4 spec_HeapOk.bits4 (fun HT_ HW_ => ?_)
     generalize wr.drew = w16 at BK296 HB hx297_0 hx297_1 hx297_2 hx297_3 hx297_4 hHeld ⊢
     refine pv 0 14 (mk_ 1 20) HT_ rfl rfl ?_
     refine pv 2 16 (bm_ 21 5) HT_ rfl rfl ?_
     refine pv 6 20 (bm_ 21 69) HT_ rfl rfl ?_
     refine pv 7 21 (bm_ 21 197) HT_ rfl rfl ?_
     refine tv9 1 15 (bm_ 21 199) HT_ HW_ rfl rfl hHeld ?_
     refine pv 3 17 (bm_ 21 207) HT_ rfl rfl ?_
     refine pv 4 18 (bm_ 21 223) HT_ rfl rfl ?_
     refine tv9 5 19 (mk_ 8 13) HT_ HW_ rfl rfl hHeld ?_
     refine one_ (i := 8) (N := some 22) (mk_ 9 12) rfl rfl (one_of HT_.out (by kernel_rfl)) (by decide) (fun K hK => ?_)
     refine goes_ Tryd.func44 (by kernel_rfl) rfl #[.int .i64 ((rd_T41 l0_0 x3_1).f3), .int .i64 (-1), .int .i64 (wrap64 (x3_1 - 1))] (by rfl) rfl rfl lz ?_
     with_reducible refine (spec_l1In.calls ((rd_T41 l0_0 x3_1).f3) (-1) (wrap64 (x3_1 - 1)) false _ A5.out).mono ?_
     rintro e w' ⟨rfl, ⟨nd, rfl⟩⟩
     refine ⟨_, rfl, ?_⟩
     refine hK.out _ _ ⟨(blk_cell BK296.out 0).trans rfl, (blk_cell BK296.out 1).trans rfl, (blk_cell BK296.out 2).trans rfl, (blk_cell BK296.out 3).trans rfl, (hz HB.out hw297_0 :), (hz HB.out hw297_1 :), (hz HB.out hw297_2 :), (hz HB.out hw297_3 :), (hz HB.out hw297_4 :)⟩ (fun hHeld => ?_)
     clear hK K
     refine norm_ (a' := ?_) ?_ ?_
     rotate_left
     ·show Act.put _ (some 22) _ = _
      simp only [Act.put, sz1, sz2, sz3, i64_w, i32_w]
      rfl
     refine pv 9 23 (mk_ 10 11) HT_ rfl rfl ?_
     refine pv 10 24 (mk_ 11 10) HT_ rfl rfl ?_
     refine pu 11 25 (mk_ 12 9) HT_ rfl rfl ?_
     refine pu 12 26 (mk_ 13 8) HT_ rfl rfl ?_
     refine pu 13 27 (mk_ 14 7) HT_ rfl rfl ?_
     refine pu 14 28 (mk_ 15 6) HT_ rfl rfl ?_
     refine pu 15 29 (mk_ 16 5) HT_ rfl rfl ?_
     refine pu 16 30 (mk_ 17 4) HT_ rfl rfl ?_
     refine pu 17 31 (mk_ 18 3) HT_ rfl rfl ?_
     refine pu 18 32 (mk_ 19 2) HT_ rfl rfl ?_
     refine pu 19 33 (mk_ 20 1) HT_ rfl rfl ?_
     refine pv 20 34 (mk_ 21 0) HT_ rfl rfl ?_
     refine done_ (done_of HT_.out (by kernel_rfl)) ?_
     try go_wp2
     go_ret
     exact ⟨gz, (bz1 HB.out GE296.out)⟩
   ·rw [if_neg c3] at H
    have c3b0 := decide_eq_false c3
    clear c3
    have H' := Aside0.mk H
    clear H
    obtain ⟨hcz17_0, hcz17_1, hcz17_2, hcz17_3⟩ := cz4 BK296.out
    obtain ⟨hfz17_0, hfz17_1, hfz17_2, hfz17_3⟩ := fz4 BK296.out
    go_wp2
    go_loopg [4] k1 (fun kq v4 w' => ∃ (x4_2 : Int), v4 = .int .i64 x4_2 /\ Aside0 (spec_HeapOk.l1 kq x4_2 l0_0 l0_1 l0_2 l0_3 = some r) /\ Aside0 (kq <= k1) /\ Aside0 (w'.heap[gb296]? = some (.cells #[(.slice A0_0 l0_0.length c0_0), (.slice A0_1 l0_1.length c0_1), (.slice A0_2 l0_2.length c0_2), (.slice A0_3 l0_3.length c0_3)] 29 (0, 0))) /\ Aside0 (Below w.heap.size w w'))
    case atStart => exact ⟨(0), ez, H', ⟨Nat.le_refl _⟩, ⟨by refine kq ?_; exact BK296.out⟩, ⟨(bz1 HB.out GE296.out)⟩⟩
    case round =>
     clear H'
     try clear c1
     try clear p2
     try clear q2
     try clear hx2
     try clear c3
     try clear c3b0
     try clear c4
     try clear c6
     try clear p6
     try clear c8
     try clear c17
     try clear hcz12_0 hcz12_1 hcz12_2 hcz12_3
     try clear hcz15_0 hcz15_1 hcz15_2 hcz15_3
     try clear hcz17_0 hcz17_1 hcz17_2 hcz17_3
     try clear hfz12_0 hfz12_1 hfz12_2 hfz12_3
     try clear hfz15_0 hfz15_1 hfz15_2 hfz15_3
     try clear hfz17_0 hfz17_1 hfz17_2 hfz17_3
     try clear hx297_0
     try clear hx297_1
     try clear hx297_2
     try clear hx297_3
     try clear hx297_4
     try clear hx299_0
     try clear hx299_1
     try clear hx299_2
     try clear hx299_3
     try clear hx299_4
     try clear p297
     try clear p299
     try clear q297
     try clear q299
     obtain ⟨x4_2, rfl, HA, HK2, BK296, HB⟩ := hrel
     cases gk with
     | zero => exact absurd HA.out (by simp [spec_HeapOk.l1])
     | succ k2 =>
      have H := HA.out
      clear HA
      simp only [spec_HeapOk.l1] at H
      by_cases c18 : x4_2 < (l0_1.length : Int)
      ·rw [if_pos c18] at H
       have c18b0 := decide_eq_true c18
       clear c18
       replace H := iz H
       obtain ⟨c19, H⟩ := H
       have c19b0 := decide_eq_true c19
       clear c19
       replace H := bi H
       obtain ⟨t302, A200, H⟩ := H
       try dsimp only at H
       have A20 := Aside0.mk A200
       clear A200
       by_cases c21 : t302 = true
       ·subst c21
        have H1 := hp H
        clear H
        have H := H1
        clear H1
        have H' := Aside0.mk H
        clear H
        obtain ⟨hcz22_0, hcz22_1, hcz22_2, hcz22_3⟩ := cz4 BK296.out
        obtain ⟨hfz22_0, hfz22_1, hfz22_2, hfz22_3⟩ := fz4 BK296.out
        try go_wp2
        have n0_ := Aside0.mk (blk_drew BK296.out)
        have n1_ := Aside0.mk (below_drew1 HB.out)
        clear BK296
        clear HB
        have BK296 := n0_
        have HB := n1_
        clear n0_ n1_
        have p301 : 0 <= (x4_2 : Int) := oz
        have q301 : x4_2 < (l0_1.length : Int) := oz
        obtain ⟨ad301, e301, hx301_0, hx301_1⟩ := at_T86 HR0_1.out x4_2 p301 q301
        have hw301_1 := hx301_1
        have hw301_0 := hx301_0
        cases e301
        replace hx301_0 := hz HB.out hx301_0
        replace hx301_1 := hz HB.out hx301_1
        replace p301 := eq_true p301
        replace q301 := eq_true q301
        refine start_ (n := 12) (S := fun w' => w'.cell? ⟨gb296, 0, none⟩ = some (.slice A0_0 l0_0.length c0_0) /\ w'.cell? ⟨gb296, 1, none⟩ = some (.slice (some ad301) l0_1.length c0_1) /\ w'.cell? ⟨gb296, 2, none⟩ = some (.slice A0_2 l0_2.length c0_2) /\ w'.cell? ⟨gb296, 3, none⟩ = some (.slice A0_3 l0_3.length c0_3) /\ w'.cell? (ad301.add ((x4_2).toNat * 2)) = some (.int .i64 ((rd_T86 l0_1 x4_2).f0)) /\ w'.cell? ⟨(ad301.add ((x4_2).toNat * 2)).block, (ad301.add ((x4_2).toNat * 2)).off + 1, none⟩ = some (.int .i64 ((rd_T86 l0_1 x4_2).f1))) (ds := []) (mk_ 0 12) (by kernel_rfl) rfl rfl ⟨(blk_cell BK296.out 0).trans rfl, (blk_cell BK296.out 1).trans rfl, (blk_cell BK296.out 2).trans rfl, (blk_cell BK296.out 3).trans rfl, (hz HB.out hw301_0 :), (hz HB.out hw301_1 :)⟩ (fun hHeld => ?_); refine with_tabW spec_HeapOk.tab9 spec_HeapOk.bits9 (fun HT_ HW_ => ?_)
        generalize wr.drew = w23 at BK296 HB hx301_0 hx301_1 hHeld ⊢
        refine pv 0 42 (mk_ 1 11) HT_ rfl rfl ?_
        refine pv 2 44 (bm_ 12 5) HT_ rfl rfl ?_
        refine pv 6 48 (bm_ 12 69) HT_ rfl rfl ?_
        refine tv6 1 43 (bm_ 12 71) HT_ HW_ rfl rfl hHeld ?_
        refine pv 3 45 (bm_ 12 79) HT_ rfl rfl ?_
        refine pv 4 46 (bm_ 12 95) HT_ rfl rfl ?_
        refine tv6 5 47 (mk_ 7 5) HT_ HW_ rfl rfl hHeld ?_
        refine tv6 7 49 (mk_ 8 4) HT_ HW_ rfl rfl hHeld ?_
        refine pv 8 50 (mk_ 9 3) HT_ rfl rfl ?_
        refine pv 9 51 (mk_ 10 2) HT_ rfl rfl ?_
        refine one_ (i := 10) (N := some 52) (mk_ 11 1) rfl rfl (one_of HT_.out (by kernel_rfl)) (by decide) (fun K hK => ?_)
        refine goes_ Tryd.func44 (by kernel_rfl) rfl #[.int .i64 ((rd_T86 l0_1 x4_2).f1), .int .i64 (-1), .int .i64 (wrap64 ((l0_0.length : Int) - 1))] (by rfl) rfl rfl lz ?_
        with_reducible refine (spec_l1In.calls ((rd_T86 l0_1 x4_2).f1) (-1) (wrap64 ((l0_0.length : Int) - 1)) true _ A20.out).mono ?_
        rintro e w' ⟨rfl, ⟨nd, rfl⟩⟩
        refine ⟨_, rfl, ?_⟩
        refine hK.out _ _ ⟨(blk_cell BK296.out 0).trans rfl, (blk_cell BK296.out 1).trans rfl, (blk_cell BK296.out 2).trans rfl, (blk_cell BK296.out 3).trans rfl, (hz HB.out hw301_0 :), (hz HB.out hw301_1 :)⟩ (fun hHeld => ?_)
        clear hK K
        refine norm_ (a' := ?_) ?_ ?_
        rotate_left
        ·show Act.put _ (some 52) _ = _
         simp only [Act.put, sz1, sz2, sz3, i64_w, i32_w]
         rfl
        refine pv 11 53 (mk_ 12 0) HT_ rfl rfl ?_
        refine done_ (done_of HT_.out (by kernel_rfl)) ?_
        try go_wp2
        go_roundg k2
        case measure => have := HK1.out; have := HK2.out; omega
        case rel => exact ⟨(wrap64 (x4_2 + 1)), ez, H', ⟨by have := HK1.out; have := HK2.out; omega⟩, ⟨by refine kq ?_; exact BK296.out⟩, ⟨(bz1 HB.out GE296.out)⟩⟩
       ·replace c21 := Bool.eq_false_iff.mpr c21
        subst c21
        have H1 := hq H
        clear H
        have H := H1
        clear H1
        obtain rfl := Option.some.inj H
        obtain ⟨hcz24_0, hcz24_1, hcz24_2, hcz24_3⟩ := cz4 BK296.out
        obtain ⟨hfz24_0, hfz24_1, hfz24_2, hfz24_3⟩ := fz4 BK296.out
        try go_wp2
        have n0_ := Aside0.mk (blk_drew BK296.out)
        have n1_ := Aside0.mk (below_drew1 HB.out)
        clear BK296
        clear HB
        have BK296 := n0_
        have HB := n1_
        clear n0_ n1_
        have p301 : 0 <= (x4_2 : Int) := oz
        have q301 : x4_2 < (l0_1.length : Int) := oz
        obtain ⟨ad301, e301, hx301_0, hx301_1⟩ := at_T86 HR0_1.out x4_2 p301 q301
        have hw301_1 := hx301_1
        have hw301_0 := hx301_0
        cases e301
        replace hx301_0 := hz HB.out hx301_0
        replace hx301_1 := hz HB.out hx301_1
        replace p301 := eq_true p301
        replace q301 := eq_true q301
        refine start_ (n := 12) (S := fun w' => w'.cell? ⟨gb296, 0, none⟩ = some (.slice A0_0 l0_0.length c0_0) /\ w'.cell? ⟨gb296, 1, none⟩ = some (.slice (some ad301) l0_1.length c0_1) /\ w'.cell? ⟨gb296, 2, none⟩ = some (.slice A0_2 l0_2.length c0_2) /\ w'.cell? ⟨gb296, 3, none⟩ = some (.slice A0_3 l0_3.length c0_3) /\ w'.cell? (ad301.add ((x4_2).toNat * 2)) = some (.int .i64 ((rd_T86 l0_1 x4_2).f0)) /\ w'.cell? ⟨(ad301.add ((x4_2).toNat * 2)).block, (ad301.add ((x4_2).toNat * 2)).off + 1, none⟩ = some (.int .i64 ((rd_T86 l0_1 x4_2).f1))) (ds := []) (mk_ 0 12) (by kernel_rfl) rfl rfl ⟨(blk_cell BK296.out 0).trans rfl, (blk_cell BK296.out 1).trans rfl, (blk_cell BK296.out 2).trans rfl, (blk_cell BK296.out 3).trans rfl, (hz HB.out hw301_0 :), (hz HB.out hw301_1 :)⟩ (fun hHeld => ?_); refine with_tabW spec_HeapOk.tab9 spec_HeapOk.bits9 (fun HT_ HW_ => ?_)
        generalize wr.drew = w25 at BK296 HB hx301_0 hx301_1 hHeld ⊢
        refine pv 0 42 (mk_ 1 11) HT_ rfl rfl ?_
        refine pv 2 44 (bm_ 12 5) HT_ rfl rfl ?_
        refine pv 6 48 (bm_ 12 69) HT_ rfl rfl ?_
        refine tv6 1 43 (bm_ 12 71) HT_ HW_ rfl rfl hHeld ?_
        refine pv 3 45 (bm_ 12 79) HT_ rfl rfl ?_
        refine pv 4 46 (bm_ 12 95) HT_ rfl rfl ?_
        refine tv6 5 47 (mk_ 7 5) HT_ HW_ rfl rfl hHeld ?_
        refine tv6 7 49 (mk_ 8 4) HT_ HW_ rfl rfl hHeld ?_
        refine pv 8 50 (mk_ 9 3) HT_ rfl rfl ?_
        refine pv 9 51 (mk_ 10 2) HT_ rfl rfl ?_
        refine one_ (i := 10) (N := some 52) (mk_ 11 1) rfl rfl (one_of HT_.out (by kernel_rfl)) (by decide) (fun K hK => ?_)
        refine goes_ Tryd.func44 (by kernel_rfl) rfl #[.int .i64 ((rd_T86 l0_1 x4_2).f1), .int .i64 (-1), .int .i64 (wrap64 ((l0_0.length : Int) - 1))] (by rfl) rfl rfl lz ?_
        with_reducible refine (spec_l1In.calls ((rd_T86 l0_1 x4_2).f1) (-1) (wrap64 ((l0_0.length : Int) - 1)) false _ A20.out).mono ?_
        rintro e w' ⟨rfl, ⟨nd, rfl⟩⟩
        refine ⟨_, rfl, ?_⟩
        refine hK.out _ _ ⟨(blk_cell BK296.out 0).trans rfl, (blk_cell BK296.out 1).trans rfl, (blk_cell BK296.out 2).trans rfl, (blk_cell BK296.out 3).trans rfl, (hz HB.out hw301_0 :), (hz HB.out hw301_1 :)⟩ (fun hHeld => ?_)
        clear hK K
        refine norm_ (a' := ?_) ?_ ?_
        rotate_left
        ·show Act.put _ (some 52) _ = _
         simp only [Act.put, sz1, sz2, sz3, i64_w, i32_w]
         rfl
        refine pv 11 53 (mk_ 12 0) HT_ rfl rfl ?_
        refine done_ (done_of HT_.out (by kernel_rfl)) ?_
        try go_wp2
        go_ret
        exact ⟨gz, (bz1 HB.out GE296.out)⟩
      ·rw [if_neg c18] at H
       have c18b0 := decide_eq_false c18
       clear c18
       have H' := Aside0.mk H
       clear H
       obtain ⟨hcz26_0, hcz26_1, hcz26_2, hcz26_3⟩ := cz4 BK296.out
       obtain ⟨hfz26_0, hfz26_1, hfz26_2, hfz26_3⟩ := fz4 BK296.out
       go_wp2
       go_loopg [5] k2 (fun kq v5 w' => ∃ (x5_3 : Int), v5 = .int .i64 x5_3 /\ Aside0 (spec_HeapOk.l2 kq x5_3 l0_0 l0_1 l0_2 l0_3 = some r) /\ Aside0 (kq <= k2) /\ Aside0 (w'.heap[gb296]? = some (.cells #[(.slice A0_0 l0_0.length c0_0), (.slice A0_1 l0_1.length c0_1), (.slice A0_2 l0_2.length c0_2), (.slice A0_3 l0_3.length c0_3)] 29 (0, 0))) /\ Aside0 (Below w.heap.size w w'))
       case atStart => exact ⟨(0), ez, H', ⟨Nat.le_refl _⟩, ⟨by refine kq ?_; exact BK296.out⟩, ⟨(bz1 HB.out GE296.out)⟩⟩
       case round =>
        clear H'
        try clear c1
        try clear c2
        try clear p2
        try clear q2
        try clear hx2
        try clear c3
        try clear c3b0
        try clear p3
        try clear q3
        try clear hx3
        try clear c4
        try clear c6
        try clear p6
        try clear c8
        try clear c17
        try clear c18
        try clear c18b0
        try clear c19
        try clear c19b0
        try clear c21
        try clear hcz12_0 hcz12_1 hcz12_2 hcz12_3
        try clear hcz15_0 hcz15_1 hcz15_2 hcz15_3
        try clear hcz17_0 hcz17_1 hcz17_2 hcz17_3
        try clear hcz22_0 hcz22_1 hcz22_2 hcz22_3
        try clear hcz24_0 hcz24_1 hcz24_2 hcz24_3
        try clear hcz26_0 hcz26_1 hcz26_2 hcz26_3
        try clear hfz12_0 hfz12_1 hfz12_2 hfz12_3
        try clear hfz15_0 hfz15_1 hfz15_2 hfz15_3
        try clear hfz17_0 hfz17_1 hfz17_2 hfz17_3
        try clear hfz22_0 hfz22_1 hfz22_2 hfz22_3
        try clear hfz24_0 hfz24_1 hfz24_2 hfz24_3
        try clear hfz26_0 hfz26_1 hfz26_2 hfz26_3
        try clear hx297_0
        try clear hx297_1
        try clear hx297_2
        try clear hx297_3
        try clear hx297_4
        try clear hx299_0
        try clear hx299_1
        try clear hx299_2
        try clear hx299_3
        try clear hx299_4
        try clear hx301_0
        try clear hx301_1
        try clear p2
        try clear p297
        try clear p299
        try clear p301
        try clear p6
        try clear q2
        try clear q297
        try clear q299
        try clear q301
        obtain ⟨x5_3, rfl, HA, HK3, BK296, HB⟩ := hrel
        cases gk with
        | zero => exact absurd HA.out (by simp [spec_HeapOk.l2])
        | succ k3 =>
         have H := HA.out
         clear HA
         simp only [spec_HeapOk.l2] at H
         by_cases c27 : x5_3 < (l0_2.length : Int)
         ·rw [if_pos c27] at H
          have c27b0 := decide_eq_true c27
          clear c27
          replace H := iz H
          obtain ⟨c28, H⟩ := H
          have c28b0 := decide_eq_true c28
          clear c28
          replace H := bi H
          obtain ⟨t304, A290, H⟩ := H
          try dsimp only at H
          have A29 := Aside0.mk A290
          clear A290
          by_cases c30 : t304 = true
          ·subst c30
           have H1 := hp H
           clear H
           have H := H1
           clear H1
           replace H := bi H
           obtain ⟨t306, A310, H⟩ := H
           try dsimp only at H
           have A31 := Aside0.mk A310
           clear A310
           by_cases c32 : t306 = true
           ·subst c32
            have H1 := hp H
            clear H
            have H := H1
            clear H1
            have H' := Aside0.mk H
            clear H
            obtain ⟨hcz33_0, hcz33_1, hcz33_2, hcz33_3⟩ := cz4 BK296.out
            obtain ⟨hfz33_0, hfz33_1, hfz33_2, hfz33_3⟩ := fz4 BK296.out
            try go_wp2
            have n0_ := Aside0.mk (blk_drew BK296.out)
            have n1_ := Aside0.mk (below_drew1 HB.out)
            clear BK296
            clear HB
            have BK296 := n0_
            have HB := n1_
            clear n0_ n1_
            have p303 : 0 <= (x5_3 : Int) := oz
            have q303 : x5_3 < (l0_2.length : Int) := oz
            obtain ⟨ad303, e303, hx303_0, hx303_1, hx303_2, hx303_3⟩ := at_T47 HR0_2.out x5_3 p303 q303
            have hw303_3 := hx303_3
            have hw303_2 := hx303_2
            have hw303_1 := hx303_1
            have hw303_0 := hx303_0
            cases e303
            replace hx303_0 := hz HB.out hx303_0
            replace hx303_1 := hz HB.out hx303_1
            replace hx303_2 := hz HB.out hx303_2
            replace hx303_3 := hz HB.out hx303_3
            replace p303 := eq_true p303
            replace q303 := eq_true q303
            have p305 : 0 <= (x5_3 : Int) := oz
            have q305 : x5_3 < (l0_2.length : Int) := oz
            obtain ⟨ad305, e305, hx305_0, hx305_1, hx305_2, hx305_3⟩ := at_T47 HR0_2.out x5_3 p305 q305
            have hw305_3 := hx305_3
            have hw305_2 := hx305_2
            have hw305_1 := hx305_1
            have hw305_0 := hx305_0
            obtain rfl : ad303 = ad305 := (by injection e305)
            replace hx305_0 := hz HB.out hx305_0
            replace hx305_1 := hz HB.out hx305_1
            replace hx305_2 := hz HB.out hx305_2
            replace hx305_3 := hz HB.out hx305_3
            replace p305 := eq_true p305
            replace q305 := eq_true q305
            refine start_ (n := 20) (S := fun w' => w'.cell? ⟨gb296, 0, none⟩ = some (.slice A0_0 l0_0.length c0_0) /\ w'.cell? ⟨gb296, 1, none⟩ = some (.slice A0_1 l0_1.length c0_1) /\ w'.cell? ⟨gb296, 2, none⟩ = some (.slice (some ad303) l0_2.length c0_2) /\ w'.cell? ⟨gb296, 3, none⟩ = some (.slice A0_3 l0_3.length c0_3) /\ w'.cell? (ad303.add ((x5_3).toNat * 4)) = some (.int .i64 ((rd_T47 l0_2 x5_3).f0.f0)) /\ w'.cell? ⟨(ad303.add ((x5_3).toNat * 4)).block, (ad303.add ((x5_3).toNat * 4)).off + 1, none⟩ = some (.int .i64 ((rd_T47 l0_2 x5_3).f0.f1)) /\ w'.cell? ⟨(ad303.add ((x5_3).toNat * 4)).block, (ad303.add ((x5_3).toNat * 4)).off + 2, none⟩ = some (.int .i64 ((rd_T47 l0_2 x5_3).f1.f0)) /\ w'.cell? ⟨(ad303.add ((x5_3).toNat * 4)).block, (ad303.add ((x5_3).toNat * 4)).off + 3, none⟩ = some (.int .i64 ((rd_T47 l0_2 x5_3).f1.f1)) /\ w'.cell? (ad303.add ((x5_3).toNat * 4)) = some (.int .i64 ((rd_T47 l0_2 x5_3).f0.f0)) /\ w'.cell? ⟨(ad303.add ((x5_3).toNat * 4)).block, (ad303.add ((x5_3).toNat * 4)).off + 1, none⟩ = some (.int .i64 ((rd_T47 l0_2 x5_3).f0.f1)) /\ w'.cell? ⟨(ad303.add ((x5_3).toNat * 4)).block, (ad303.add ((x5_3).toNat * 4)).off + 2, none⟩ = some (.int .i64 ((rd_T47 l0_2 x5_3).f1.f0)) /\ w'.cell? ⟨(ad303.add ((x5_3).toNat * 4)).block, (ad303.add ((x5_3).toNat * 4)).off + 3, none⟩ = some (.int .i64 ((rd_T47 l0_2 x5_3).f1.f1))) (ds := []) (mk_ 0 20) (by kernel_rfl) rfl rfl ⟨(blk_cell BK296.out 0).trans rfl, (blk_cell BK296.out 1).trans rfl, (blk_cell BK296.out 2).trans rfl, (blk_cell BK296.out 3).trans rfl, (hz HB.out hw303_0 :), (hz HB.out hw303_1 :), (hz HB.out hw303_2 :), (hz HB.out hw303_3 :), (hz HB.out hw305_0 :), (hz HB.out hw305_1 :), (hz HB.out hw305_2 :), (hz HB.out hw305_3 :)⟩ (fun hHeld => ?_); refine with_tabW spec_HeapOk.tab14 spec_HeapOk.bits14 (fun HT_ HW_ => ?_)
            generalize wr.drew = w34 at BK296 HB hx303_0 hx303_1 hx303_2 hx303_3 hx305_0 hx305_1 hx305_2 hx305_3 hHeld ⊢
            refine pv 1 62 (bm_ 20 2) HT_ rfl rfl ?_
            refine pv 3 64 (bm_ 20 10) HT_ rfl rfl ?_
            refine tv12 0 61 (bm_ 20 11) HT_ HW_ rfl rfl hHeld ?_
            refine tv12 2 63 (mk_ 4 16) HT_ HW_ rfl rfl hHeld ?_
            refine pv 4 65 (mk_ 5 15) HT_ rfl rfl ?_
            refine pv 5 66 (mk_ 6 14) HT_ rfl rfl ?_
            refine tv12 6 67 (mk_ 7 13) HT_ HW_ rfl rfl hHeld ?_
            refine one_ (i := 7) (N := some 68) (mk_ 8 12) rfl rfl (one_of HT_.out (by kernel_rfl)) (by decide) (fun K hK => ?_)
            refine goes_ Tryd.func17 (by kernel_rfl) rfl #[.agg #[.slice A0_0 l0_0.length c0_0, .slice A0_1 l0_1.length c0_1, .slice (some ad303) l0_2.length c0_2, .slice A0_3 l0_3.length c0_3], .agg #[.int .i64 ((rd_T47 l0_2 x5_3).f0.f0), .int .i64 ((rd_T47 l0_2 x5_3).f0.f1)]] (by rfl) rfl rfl lz ?_
            with_reducible refine (spec_ValOk.calls k3 _ _ l0_0 _ _ l0_1 _ _ l0_2 _ _ l0_3 ((rd_T47 l0_2 x5_3).f0.f0) ((rd_T47 l0_2 x5_3).f0.f1) true _ ?side1 ?side2 ?side3 ?side4 ?side5 ?side6 ?side7 ?side8 A29.out).mono ?_
            (case side1 => exact cz (Kd.C_below HR0_0.out HB.out))
            (case side2 => exact HC0_0.out)
            (case side3 => exact cz (Kd.C_below HR0_1.out HB.out))
            (case side4 => exact HC0_1.out)
            (case side5 => exact cz (Kd.C_below HR0_2.out HB.out))
            (case side6 => exact HC0_2.out)
            (case side7 => exact cz (Kd.C_below HR0_3.out HB.out))
            (case side8 => exact HC0_3.out)
            rintro e w35 ⟨rfl, hb⟩
            refine ⟨_, rfl, ?_⟩
            have n0_ := Aside0.mk (blk_below (kz BK296.out) hb)
            have n1_ := Aside0.mk (below_step (bz1 HB.out GE296.out) hb)
            clear BK296
            clear HB
            have BK296 := n0_
            have HB := n1_
            clear n0_ n1_
            (try clear hb)
            (try clear hb2)
            (try clear hk)
            (try clear hi)
            refine hK.out _ _ ⟨(blk_cell BK296.out 0).trans rfl, (blk_cell BK296.out 1).trans rfl, (blk_cell BK296.out 2).trans rfl, (blk_cell BK296.out 3).trans rfl, (hz HB.out hw303_0 :), (hz HB.out hw303_1 :), (hz HB.out hw303_2 :), (hz HB.out hw303_3 :), (hz HB.out hw305_0 :), (hz HB.out hw305_1 :), (hz HB.out hw305_2 :), (hz HB.out hw305_3 :)⟩ (fun hHeld => ?_)
            clear hK K
            refine norm_ (a' := ?_) ?_ ?_
            rotate_left
            ·show Act.put _ (some 68) _ = _
             simp only [Act.put, sz1, sz2, sz3, i64_w, i32_w]
             rfl
            refine pv 8 69 (mk_ 9 11) HT_ rfl rfl ?_
            refine pv 9 70 (mk_ 10 10) HT_ rfl rfl ?_
            refine pv 11 72 (bm_ 20 3071) HT_ rfl rfl ?_
            refine pv 13 74 (bm_ 20 11263) HT_ rfl rfl ?_
            refine tv12 10 71 (bm_ 20 12287) HT_ HW_ rfl rfl hHeld ?_
            refine tv12 12 73 (mk_ 14 6) HT_ HW_ rfl rfl hHeld ?_
            refine pv 14 75 (mk_ 15 5) HT_ rfl rfl ?_
            refine pv 15 76 (mk_ 16 4) HT_ rfl rfl ?_
            refine tv12 16 77 (mk_ 17 3) HT_ HW_ rfl rfl hHeld ?_
            refine one_ (i := 17) (N := some 78) (mk_ 18 2) rfl rfl (one_of HT_.out (by kernel_rfl)) (by decide) (fun K hK => ?_)
            refine goes_ Tryd.func17 (by kernel_rfl) rfl #[.agg #[.slice A0_0 l0_0.length c0_0, .slice A0_1 l0_1.length c0_1, .slice (some ad303) l0_2.length c0_2, .slice A0_3 l0_3.length c0_3], .agg #[.int .i64 ((rd_T47 l0_2 x5_3).f1.f0), .int .i64 ((rd_T47 l0_2 x5_3).f1.f1)]] (by rfl) rfl rfl lz ?_
            with_reducible refine (spec_ValOk.calls k3 _ _ l0_0 _ _ l0_1 _ _ l0_2 _ _ l0_3 ((rd_T47 l0_2 x5_3).f1.f0) ((rd_T47 l0_2 x5_3).f1.f1) true _ ?side1 ?side2 ?side3 ?side4 ?side5 ?side6 ?side7 ?side8 A31.out).mono ?_
            (case side1 => exact cz (Kd.C_below HR0_0.out HB.out))
            (case side2 => exact HC0_0.out)
            (case side3 => exact cz (Kd.C_below HR0_1.out HB.out))
            (case side4 => exact HC0_1.out)
            (case side5 => exact cz (Kd.C_below HR0_2.out HB.out))
            (case side6 => exact HC0_2.out)
            (case side7 => exact cz (Kd.C_below HR0_3.out HB.out))
            (case side8 => exact HC0_3.out)
            rintro e w36 ⟨rfl, hb⟩
            refine ⟨_, rfl, ?_⟩
            have n0_ := Aside0.mk (blk_below (kz BK296.out) hb)
            have n1_ := Aside0.mk (below_step (bz1 HB.out GE296.out) hb)
            clear BK296
            clear HB
            have BK296 := n0_
            have HB := n1_
            clear n0_ n1_
            (try clear hb)
            (try clear hb2)
            (try clear hk)
            (try clear hi)
            refine hK.out _ _ ⟨(blk_cell BK296.out 0).trans rfl, (blk_cell BK296.out 1).trans rfl, (blk_cell BK296.out 2).trans rfl, (blk_cell BK296.out 3).trans rfl, (hz HB.out hw303_0 :), (hz HB.out hw303_1 :), (hz HB.out hw303_2 :), (hz HB.out hw303_3 :), (hz HB.out hw305_0 :), (hz HB.out hw305_1 :), (hz HB.out hw305_2 :), (hz HB.out hw305_3 :)⟩ (fun hHeld => ?_)
            clear hK K
            refine norm_ (a' := ?_) ?_ ?_
            rotate_left
            ·show Act.put _ (some 78) _ = _
             simp only [Act.put, sz1, sz2, sz3, i64_w, i32_w]
             rfl
            refine pv 18 79 (mk_ 19 1) HT_ rfl rfl ?_
            refine pv 19 80 (mk_ 20 0) HT_ rfl rfl ?_
            refine done_ (done_of HT_.out (by kernel_rfl)) ?_
            try go_wp2
            go_roundg k3
            case measure => have := HK1.out; have := HK2.out; have := HK3.out; omega
            case rel => exact ⟨(wrap64 (x5_3 + 1)), ez, H', ⟨by have := HK1.out; have := HK2.out; have := HK3.out; omega⟩, ⟨by refine kq ?_; exact BK296.out⟩, ⟨(bz1 HB.out GE296.out)⟩⟩
           ·replace c32 := Bool.eq_false_iff.mpr c32
            subst c32
            have H1 := hq H
            clear H
            have H := H1
            clear H1
            obtain rfl := Option.some.inj H
            obtain ⟨hcz37_0, hcz37_1, hcz37_2, hcz37_3⟩ := cz4 BK296.out
            obtain ⟨hfz37_0, hfz37_1, hfz37_2, hfz37_3⟩ := fz4 BK296.out
            try go_wp2
            have n0_ := Aside0.mk (blk_drew BK296.out)
            have n1_ := Aside0.mk (below_drew1 HB.out)
            clear BK296
            clear HB
            have BK296 := n0_
            have HB := n1_
            clear n0_ n1_
            have p303 : 0 <= (x5_3 : Int) := oz
            have q303 : x5_3 < (l0_2.length : Int) := oz
            obtain ⟨ad303, e303, hx303_0, hx303_1, hx303_2, hx303_3⟩ := at_T47 HR0_2.out x5_3 p303 q303
            have hw303_3 := hx303_3
            have hw303_2 := hx303_2
            have hw303_1 := hx303_1
            have hw303_0 := hx303_0
            cases e303
            replace hx303_0 := hz HB.out hx303_0
            replace hx303_1 := hz HB.out hx303_1
            replace hx303_2 := hz HB.out hx303_2
            replace hx303_3 := hz HB.out hx303_3
            replace p303 := eq_true p303
            replace q303 := eq_true q303
            have p305 : 0 <= (x5_3 : Int) := oz
            have q305 : x5_3 < (l0_2.length : Int) := oz
            obtain ⟨ad305, e305, hx305_0, hx305_1, hx305_2, hx305_3⟩ := at_T47 HR0_2.out x5_3 p305 q305
            have hw305_3 := hx305_3
            have hw305_2 := hx305_2
            have hw305_1 := hx305_1
            have hw305_0 := hx305_0
            obtain rfl : ad303 = ad305 := (by injection e305)
            replace hx305_0 := hz HB.out hx305_0
            replace hx305_1 := hz HB.out hx305_1
            replace hx305_2 := hz HB.out hx305_2
            replace hx305_3 := hz HB.out hx305_3
            replace p305 := eq_true p305
            replace q305 := eq_true q305
            refine start_ (n := 20) (S := fun w' => w'.cell? ⟨gb296, 0, none⟩ = some (.slice A0_0 l0_0.length c0_0) /\ w'.cell? ⟨gb296, 1, none⟩ = some (.slice A0_1 l0_1.length c0_1) /\ w'.cell? ⟨gb296, 2, none⟩ = some (.slice (some ad303) l0_2.length c0_2) /\ w'.cell? ⟨gb296, 3, none⟩ = some (.slice A0_3 l0_3.length c0_3) /\ w'.cell? (ad303.add ((x5_3).toNat * 4)) = some (.int .i64 ((rd_T47 l0_2 x5_3).f0.f0)) /\ w'.cell? ⟨(ad303.add ((x5_3).toNat * 4)).block, (ad303.add ((x5_3).toNat * 4)).off + 1, none⟩ = some (.int .i64 ((rd_T47 l0_2 x5_3).f0.f1)) /\ w'.cell? ⟨(ad303.add ((x5_3).toNat * 4)).block, (ad303.add ((x5_3).toNat * 4)).off + 2, none⟩ = some (.int .i64 ((rd_T47 l0_2 x5_3).f1.f0)) /\ w'.cell? ⟨(ad303.add ((x5_3).toNat * 4)).block, (ad303.add ((x5_3).toNat * 4)).off + 3, none⟩ = some (.int .i64 ((rd_T47 l0_2 x5_3).f1.f1)) /\ w'.cell? (ad303.add ((x5_3).toNat * 4)) = some (.int .i64 ((rd_T47 l0_2 x5_3).f0.f0)) /\ w'.cell? ⟨(ad303.add ((x5_3).toNat * 4)).block, (ad303.add ((x5_3).toNat * 4)).off + 1, none⟩ = some (.int .i64 ((rd_T47 l0_2 x5_3).f0.f1)) /\ w'.cell? ⟨(ad303.add ((x5_3).toNat * 4)).block, (ad303.add ((x5_3).toNat * 4)).off + 2, none⟩ = some (.int .i64 ((rd_T47 l0_2 x5_3).f1.f0)) /\ w'.cell? ⟨(ad303.add ((x5_3).toNat * 4)).block, (ad303.add ((x5_3).toNat * 4)).off + 3, none⟩ = some (.int .i64 ((rd_T47 l0_2 x5_3).f1.f1))) (ds := []) (mk_ 0 20) (by kernel_rfl) rfl rfl ⟨(blk_cell BK296.out 0).trans rfl, (blk_cell BK296.out 1).trans rfl, (blk_cell BK296.out 2).trans rfl, (blk_cell BK296.out 3).trans rfl, (hz HB.out hw303_0 :), (hz HB.out hw303_1 :), (hz HB.out hw303_2 :), (hz HB.out hw303_3 :), (hz HB.out hw305_0 :), (hz HB.out hw305_1 :), (hz HB.out hw305_2 :), (hz HB.out hw305_3 :)⟩ (fun hHeld => ?_); refine with_tabW spec_HeapOk.tab14 spec_HeapOk.bits14 (fun HT_ HW_ => ?_)
            generalize wr.drew = w38 at BK296 HB hx303_0 hx303_1 hx303_2 hx303_3 hx305_0 hx305_1 hx305_2 hx305_3 hHeld ⊢
            refine pv 1 62 (bm_ 20 2) HT_ rfl rfl ?_
            refine pv 3 64 (bm_ 20 10) HT_ rfl rfl ?_
            refine tv12 0 61 (bm_ 20 11) HT_ HW_ rfl rfl hHeld ?_
            refine tv12 2 63 (mk_ 4 16) HT_ HW_ rfl rfl hHeld ?_
            refine pv 4 65 (mk_ 5 15) HT_ rfl rfl ?_
            refine pv 5 66 (mk_ 6 14) HT_ rfl rfl ?_
            refine tv12 6 67 (mk_ 7 13) HT_ HW_ rfl rfl hHeld ?_
            refine one_ (i := 7) (N := some 68) (mk_ 8 12) rfl rfl (one_of HT_.out (by kernel_rfl)) (by decide) (fun K hK => ?_)
            refine goes_ Tryd.func17 (by kernel_rfl) rfl #[.agg #[.slice A0_0 l0_0.length c0_0, .slice A0_1 l0_1.length c0_1, .slice (some ad303) l0_2.length c0_2, .slice A0_3 l0_3.length c0_3], .agg #[.int .i64 ((rd_T47 l0_2 x5_3).f0.f0), .int .i64 ((rd_T47 l0_2 x5_3).f0.f1)]] (by rfl) rfl rfl lz ?_
            with_reducible refine (spec_ValOk.calls k3 _ _ l0_0 _ _ l0_1 _ _ l0_2 _ _ l0_3 ((rd_T47 l0_2 x5_3).f0.f0) ((rd_T47 l0_2 x5_3).f0.f1) true _ ?side1 ?side2 ?side3 ?side4 ?side5 ?side6 ?side7 ?side8 A29.out).mono ?_
            (case side1 => exact cz (Kd.C_below HR0_0.out HB.out))
            (case side2 => exact HC0_0.out)
            (case side3 => exact cz (Kd.C_below HR0_1.out HB.out))
            (case side4 => exact HC0_1.out)
            (case side5 => exact cz (Kd.C_below HR0_2.out HB.out))
            (case side6 => exact HC0_2.out)
            (case side7 => exact cz (Kd.C_below HR0_3.out HB.out))
            (case side8 => exact HC0_3.out)
            rintro e w39 ⟨rfl, hb⟩
            refine ⟨_, rfl, ?_⟩
            have n0_ := Aside0.mk (blk_below (kz BK296.out) hb)
            have n1_ := Aside0.mk (below_step (bz1 HB.out GE296.out) hb)
            clear BK296
            clear HB
            have BK296 := n0_
            have HB := n1_
            clear n0_ n1_
            (try clear hb)
            (try clear hb2)
            (try clear hk)
            (try clear hi)
            refine hK.out _ _ ⟨(blk_cell BK296.out 0).trans rfl, (blk_cell BK296.out 1).trans rfl, (blk_cell BK296.out 2).trans rfl, (blk_cell BK296.out 3).trans rfl, (hz HB.out hw303_0 :), (hz HB.out hw303_1 :), (hz HB.out hw303_2 :), (hz HB.out hw303_3 :), (hz HB.out hw305_0 :), (hz HB.out hw305_1 :), (hz HB.out hw305_2 :), (hz HB.out hw305_3 :)⟩ (fun hHeld => ?_)
            clear hK K
            refine norm_ (a' := ?_) ?_ ?_
            rotate_left
            ·show Act.put _ (some 68) _ = _
             simp only [Act.put, sz1, sz2, sz3, i64_w, i32_w]
             rfl
            refine pv 8 69 (mk_ 9 11) HT_ rfl rfl ?_
            refine pv 9 70 (mk_ 10 10) HT_ rfl rfl ?_
            refine pv 11 72 (bm_ 20 3071) HT_ rfl rfl ?_
            refine pv 13 74 (bm_ 20 11263) HT_ rfl rfl ?_
            refine tv12 10 71 (bm_ 20 12287) HT_ HW_ rfl rfl hHeld ?_
            refine tv12 12 73 (mk_ 14 6) HT_ HW_ rfl rfl hHeld ?_
            refine pv 14 75 (mk_ 15 5) HT_ rfl rfl ?_
            refine pv 15 76 (mk_ 16 4) HT_ rfl rfl ?_
            refine tv12 16 77 (mk_ 17 3) HT_ HW_ rfl rfl hHeld ?_
            refine one_ (i := 17) (N := some 78) (mk_ 18 2) rfl rfl (one_of HT_.out (by kernel_rfl)) (by decide) (fun K hK => ?_)
            refine goes_ Tryd.func17 (by kernel_rfl) rfl #[.agg #[.slice A0_0 l0_0.length c0_0, .slice A0_1 l0_1.length c0_1, .slice (some ad303) l0_2.length c0_2, .slice A0_3 l0_3.length c0_3], .agg #[.int .i64 ((rd_T47 l0_2 x5_3).f1.f0), .int .i64 ((rd_T47 l0_2 x5_3).f1.f1)]] (by rfl) rfl rfl lz ?_
            with_reducible refine (spec_ValOk.calls k3 _ _ l0_0 _ _ l0_1 _ _ l0_2 _ _ l0_3 ((rd_T47 l0_2 x5_3).f1.f0) ((rd_T47 l0_2 x5_3).f1.f1) false _ ?side1 ?side2 ?side3 ?side4 ?side5 ?side6 ?side7 ?side8 A31.out).mono ?_
            (case side1 => exact cz (Kd.C_below HR0_0.out HB.out))
            (case side2 => exact HC0_0.out)
            (case side3 => exact cz (Kd.C_below HR0_1.out HB.out))
            (case side4 => exact HC0_1.out)
            (case side5 => exact cz (Kd.C_below HR0_2.out HB.out))
            (case side6 => exact HC0_2.out)
            (case side7 => exact cz (Kd.C_below HR0_3.out HB.out))
            (case side8 => exact HC0_3.out)
            rintro e w40 ⟨rfl, hb⟩
            refine ⟨_, rfl, ?_⟩
            have n0_ := Aside0.mk (blk_below (kz BK296.out) hb)
            have n1_ := Aside0.mk (below_step (bz1 HB.out GE296.out) hb)
            clear BK296
            clear HB
            have BK296 := n0_
            have HB := n1_
            clear n0_ n1_
            (try clear hb)
            (try clear hb2)
            (try clear hk)
            (try clear hi)
            refine hK.out _ _ ⟨(blk_cell BK296.out 0).trans rfl, (blk_cell BK296.out 1).trans rfl, (blk_cell BK296.out 2).trans rfl, (blk_cell BK296.out 3).trans rfl, (hz HB.out hw303_0 :), (hz HB.out hw303_1 :), (hz HB.out hw303_2 :), (hz HB.out hw303_3 :), (hz HB.out hw305_0 :), (hz HB.out hw305_1 :), (hz HB.out hw305_2 :), (hz HB.out hw305_3 :)⟩ (fun hHeld => ?_)
            clear hK K
            refine norm_ (a' := ?_) ?_ ?_
            rotate_left
            ·show Act.put _ (some 78) _ = _
             simp only [Act.put, sz1, sz2, sz3, i64_w, i32_w]
             rfl
            refine pv 18 79 (mk_ 19 1) HT_ rfl rfl ?_
            refine pv 19 80 (mk_ 20 0) HT_ rfl rfl ?_
            refine done_ (done_of HT_.out (by kernel_rfl)) ?_
            try go_wp2
            go_ret
            exact ⟨gz, (bz1 HB.out GE296.out)⟩
          ·replace c30 := Bool.eq_false_iff.mpr c30
           subst c30
           have H1 := hq H
           clear H
           have H := H1
           clear H1
           obtain rfl := Option.some.inj H
           obtain ⟨hcz41_0, hcz41_1, hcz41_2, hcz41_3⟩ := cz4 BK296.out
           obtain ⟨hfz41_0, hfz41_1, hfz41_2, hfz41_3⟩ := fz4 BK296.out
           try go_wp2
           have n0_ := Aside0.mk (blk_drew BK296.out)
           have n1_ := Aside0.mk (below_drew1 HB.out)
           clear BK296
           clear HB
           have BK296 := n0_
           have HB := n1_
           clear n0_ n1_
           have p303 : 0 <= (x5_3 : Int) := oz
           have q303 : x5_3 < (l0_2.length : Int) := oz
           obtain ⟨ad303, e303, hx303_0, hx303_1, hx303_2, hx303_3⟩ := at_T47 HR0_2.out x5_3 p303 q303
           have hw303_3 := hx303_3
           have hw303_2 := hx303_2
           have hw303_1 := hx303_1
           have hw303_0 := hx303_0
           cases e303
           replace hx303_0 := hz HB.out hx303_0
           replace hx303_1 := hz HB.out hx303_1
           replace hx303_2 := hz HB.out hx303_2
           replace hx303_3 := hz HB.out hx303_3
           replace p303 := eq_true p303
           replace q303 := eq_true q303
           refine start_ (n := 20) (S := fun w' => w'.cell? ⟨gb296, 0, none⟩ = some (.slice A0_0 l0_0.length c0_0) /\ w'.cell? ⟨gb296, 1, none⟩ = some (.slice A0_1 l0_1.length c0_1) /\ w'.cell? ⟨gb296, 2, none⟩ = some (.slice (some ad303) l0_2.length c0_2) /\ w'.cell? ⟨gb296, 3, none⟩ = some (.slice A0_3 l0_3.length c0_3) /\ w'.cell? (ad303.add ((x5_3).toNat * 4)) = some (.int .i64 ((rd_T47 l0_2 x5_3).f0.f0)) /\ w'.cell? ⟨(ad303.add ((x5_3).toNat * 4)).block, (ad303.add ((x5_3).toNat * 4)).off + 1, none⟩ = some (.int .i64 ((rd_T47 l0_2 x5_3).f0.f1)) /\ w'.cell? ⟨(ad303.add ((x5_3).toNat * 4)).block, (ad303.add ((x5_3).toNat * 4)).off + 2, none⟩ = some (.int .i64 ((rd_T47 l0_2 x5_3).f1.f0)) /\ w'.cell? ⟨(ad303.add ((x5_3).toNat * 4)).block, (ad303.add ((x5_3).toNat * 4)).off + 3, none⟩ = some (.int .i64 ((rd_T47 l0_2 x5_3).f1.f1))) (ds := []) (mk_ 0 20) (by kernel_rfl) rfl rfl ⟨(blk_cell BK296.out 0).trans rfl, (blk_cell BK296.out 1).trans rfl, (blk_cell BK296.out 2).trans rfl, (blk_cell BK296.out 3).trans rfl, (hz HB.out hw303_0 :), (hz HB.out hw303_1 :), (hz HB.out hw303_2 :), (hz HB.out hw303_3 :)⟩ (fun hHeld => ?_); refine with_tabW spec_HeapOk.tab14 spec_HeapOk.bits14 (fun HT_ HW_ => ?_)
           generalize wr.drew = w42 at BK296 HB hx303_0 hx303_1 hx303_2 hx303_3 hHeld ⊢
           refine pv 1 62 (bm_ 20 2) HT_ rfl rfl ?_
           refine pv 3 64 (bm_ 20 10) HT_ rfl rfl ?_
           refine tv8 0 61 (bm_ 20 11) HT_ HW_ rfl rfl hHeld ?_
           refine tv8 2 63 (mk_ 4 16) HT_ HW_ rfl rfl hHeld ?_
           refine pv 4 65 (mk_ 5 15) HT_ rfl rfl ?_
           refine pv 5 66 (mk_ 6 14) HT_ rfl rfl ?_
           refine tv8 6 67 (mk_ 7 13) HT_ HW_ rfl rfl hHeld ?_
           refine one_ (i := 7) (N := some 68) (mk_ 8 12) rfl rfl (one_of HT_.out (by kernel_rfl)) (by decide) (fun K hK => ?_)
           refine goes_ Tryd.func17 (by kernel_rfl) rfl #[.agg #[.slice A0_0 l0_0.length c0_0, .slice A0_1 l0_1.length c0_1, .slice (some ad303) l0_2.length c0_2, .slice A0_3 l0_3.length c0_3], .agg #[.int .i64 ((rd_T47 l0_2 x5_3).f0.f0), .int .i64 ((rd_T47 l0_2 x5_3).f0.f1)]] (by rfl) rfl rfl lz ?_
           with_reducible refine (spec_ValOk.calls k3 _ _ l0_0 _ _ l0_1 _ _ l0_2 _ _ l0_3 ((rd_T47 l0_2 x5_3).f0.f0) ((rd_T47 l0_2 x5_3).f0.f1) false _ ?side1 ?side2 ?side3 ?side4 ?side5 ?side6 ?side7 ?side8 A29.out).mono ?_
           (case side1 => exact cz (Kd.C_below HR0_0.out HB.out))
           (case side2 => exact HC0_0.out)
           (case side3 => exact cz (Kd.C_below HR0_1.out HB.out))
           (case side4 => exact HC0_1.out)
           (case side5 => exact cz (Kd.C_below HR0_2.out HB.out))
           (case side6 => exact HC0_2.out)
           (case side7 => exact cz (Kd.C_below HR0_3.out HB.out))
           (case side8 => exact HC0_3.out)
           rintro e w43 ⟨rfl, hb⟩
           refine ⟨_, rfl, ?_⟩
           have n0_ := Aside0.mk (blk_below (kz BK296.out) hb)
           have n1_ := Aside0.mk (below_step (bz1 HB.out GE296.out) hb)
           clear BK296
           clear HB
           have BK296 := n0_
           have HB := n1_
           clear n0_ n1_
           (try clear hb)
           (try clear hb2)
           (try clear hk)
           (try clear hi)
           refine hK.out _ _ ⟨(blk_cell BK296.out 0).trans rfl, (blk_cell BK296.out 1).trans rfl, (blk_cell BK296.out 2).trans rfl, (blk_cell BK296.out 3).trans rfl, (hz HB.out hw303_0 :), (hz HB.out hw303_1 :), (hz HB.out hw303_2 :), (hz HB.out hw303_3 :)⟩ (fun hHeld => ?_)
           clear hK K
           refine norm_ (a' := ?_) ?_ ?_
           rotate_left
           ·show Act.put _ (some 68) _ = _
            simp only [Act.put, sz1, sz2, sz3, i64_w, i32_w]
            rfl
           refine pv 8 69 (mk_ 9 11) HT_ rfl rfl ?_
           refine pv 9 70 (mk_ 10 10) HT_ rfl rfl ?_
           refine pu 10 71 (mk_ 11 9) HT_ rfl rfl ?_
           refine pu 11 72 (mk_ 12 8) HT_ rfl rfl ?_
           refine pu 12 73 (mk_ 13 7) HT_ rfl rfl ?_
           refine pu 13 74 (mk_ 14 6) HT_ rfl rfl ?_
           refine pu 14 75 (mk_ 15 5) HT_ rfl rfl ?_
           refine pu 15 76 (mk_ 16 4) HT_ rfl rfl ?_
           refine pu 16 77 (mk_ 17 3) HT_ rfl rfl ?_
           refine pu 17 78 (mk_ 18 2) HT_ rfl rfl ?_
           refine pu 18 79 (mk_ 19 1) HT_ rfl rfl ?_
           refine pv 19 80 (mk_ 20 0) HT_ rfl rfl ?_
           refine done_ (done_of HT_.out (by kernel_rfl)) ?_
           try go_wp2
           go_ret
           exact ⟨gz, (bz1 HB.out GE296.out)⟩
         ·rw [if_neg c27] at H
          have c27b0 := decide_eq_false c27
          clear c27
          have H' := Aside0.mk H
          clear H
          obtain ⟨hcz44_0, hcz44_1, hcz44_2, hcz44_3⟩ := cz4 BK296.out
          obtain ⟨hfz44_0, hfz44_1, hfz44_2, hfz44_3⟩ := fz4 BK296.out
          go_wp2
          go_loopg [6] k3 (fun kq v6 w' => ∃ (x6_4 : Int), v6 = .int .i64 x6_4 /\ Aside0 (spec_HeapOk.l3 kq x6_4 l0_0 l0_1 l0_2 l0_3 = some r) /\ Aside0 (kq <= k3) /\ Aside0 (w'.heap[gb296]? = some (.cells #[(.slice A0_0 l0_0.length c0_0), (.slice A0_1 l0_1.length c0_1), (.slice A0_2 l0_2.length c0_2), (.slice A0_3 l0_3.length c0_3)] 29 (0, 0))) /\ Aside0 (Below w.heap.size w w'))
          case atStart => exact ⟨(0), ez, H', ⟨Nat.le_refl _⟩, ⟨by refine kq ?_; exact BK296.out⟩, ⟨(bz1 HB.out GE296.out)⟩⟩
          case round =>
           clear H'
           try clear c1
           try clear c2
           try clear p2
           try clear c3
           try clear p3
           try clear q3
           try clear hx3
           try clear p6
           try clear c17
           try clear c27
           try clear c27b0
           try clear c28
           try clear c30
           try clear p30
           try clear q30
           try clear hx30
           try clear c32
           try clear hcz37_0 hcz37_1 hcz37_2 hcz37_3
           try clear hcz41_0 hcz41_1 hcz41_2 hcz41_3
           try clear hcz44_0 hcz44_1 hcz44_2 hcz44_3
           try clear hfz37_0 hfz37_1 hfz37_2 hfz37_3
           try clear hfz41_0 hfz41_1 hfz41_2 hfz41_3
           try clear hfz44_0 hfz44_1 hfz44_2 hfz44_3
           try clear hx303_0
           try clear hx303_1
           try clear hx303_2
           try clear hx303_3
           try clear hx305_0
           try clear hx305_1
           try clear hx305_2
           try clear hx305_3
           try clear p303
           try clear p305
           try clear q303
           try clear q305
           obtain ⟨x6_4, rfl, HA, HK4, BK296, HB⟩ := hrel
           cases gk with
           | zero => exact absurd HA.out (by simp [spec_HeapOk.l3])
           | succ k4 =>
            have H := HA.out
            clear HA
            simp only [spec_HeapOk.l3] at H
            by_cases c45 : x6_4 < (l0_3.length : Int)
            ·rw [if_pos c45] at H
             have c45b0 := decide_eq_true c45
             clear c45
             replace H := iz H
             obtain ⟨c46, H⟩ := H
             have c46b0 := decide_eq_true c46
             clear c46
             replace H := bi H
             obtain ⟨t308, A470, H⟩ := H
             try dsimp only at H
             have A47 := Aside0.mk A470
             clear A470
             by_cases c48 : t308 = true
             ·subst c48
              have H1 := hp H
              clear H
              have H := H1
              clear H1
              have H' := Aside0.mk H
              clear H
              obtain ⟨hcz49_0, hcz49_1, hcz49_2, hcz49_3⟩ := cz4 BK296.out
              obtain ⟨hfz49_0, hfz49_1, hfz49_2, hfz49_3⟩ := fz4 BK296.out
              try go_wp2
              have n0_ := Aside0.mk (blk_drew BK296.out)
              have n1_ := Aside0.mk (below_drew1 HB.out)
              clear BK296
              clear HB
              have BK296 := n0_
              have HB := n1_
              clear n0_ n1_
              have p307 : 0 <= (x6_4 : Int) := oz
              have q307 : x6_4 < (l0_3.length : Int) := oz
              obtain ⟨ad307, e307, hx307_0, hx307_1⟩ := at_T35 HR0_3.out x6_4 p307 q307
              have hw307_1 := hx307_1
              have hw307_0 := hx307_0
              cases e307
              replace hx307_0 := hz HB.out hx307_0
              replace hx307_1 := hz HB.out hx307_1
              replace p307 := eq_true p307
              replace q307 := eq_true q307
              refine start_ (n := 8) (S := fun w' => w'.cell? ⟨gb296, 0, none⟩ = some (.slice A0_0 l0_0.length c0_0) /\ w'.cell? ⟨gb296, 1, none⟩ = some (.slice A0_1 l0_1.length c0_1) /\ w'.cell? ⟨gb296, 2, none⟩ = some (.slice A0_2 l0_2.length c0_2) /\ w'.cell? ⟨gb296, 3, none⟩ = some (.slice (some ad307) l0_3.length c0_3) /\ w'.cell? (ad307.add ((x6_4).toNat * 2)) = some (.int .i64 ((rd_T35 l0_3 x6_4).f0)) /\ w'.cell? ⟨(ad307.add ((x6_4).toNat * 2)).block, (ad307.add ((x6_4).toNat * 2)).off + 1, none⟩ = some (.int .i64 ((rd_T35 l0_3 x6_4).f1))) (ds := []) (mk_ 0 8) (by kernel_rfl) rfl rfl ⟨(blk_cell BK296.out 0).trans rfl, (blk_cell BK296.out 1).trans rfl, (blk_cell BK296.out 2).trans rfl, (blk_cell BK296.out 3).trans rfl, (hz HB.out hw307_0 :), (hz HB.out hw307_1 :)⟩ (fun hHeld => ?_); refine with_tabW spec_HeapOk.tab19 spec_HeapOk.bits19 (fun HT_ HW_ => ?_)
              generalize wr.drew = w50 at BK296 HB hx307_0 hx307_1 hHeld ⊢
              refine pv 1 89 (bm_ 8 2) HT_ rfl rfl ?_
              refine pv 3 91 (bm_ 8 10) HT_ rfl rfl ?_
              refine tv6 0 88 (bm_ 8 11) HT_ HW_ rfl rfl hHeld ?_
              refine tv6 2 90 (mk_ 4 4) HT_ HW_ rfl rfl hHeld ?_
              refine pv 4 92 (mk_ 5 3) HT_ rfl rfl ?_
              refine tv6 5 93 (mk_ 6 2) HT_ HW_ rfl rfl hHeld ?_
              refine one_ (i := 6) (N := some 94) (mk_ 7 1) rfl rfl (one_of HT_.out (by kernel_rfl)) (by decide) (fun K hK => ?_)
              refine goes_ Tryd.func17 (by kernel_rfl) rfl #[.agg #[.slice A0_0 l0_0.length c0_0, .slice A0_1 l0_1.length c0_1, .slice A0_2 l0_2.length c0_2, .slice (some ad307) l0_3.length c0_3], .agg #[.int .i64 ((rd_T35 l0_3 x6_4).f0), .int .i64 ((rd_T35 l0_3 x6_4).f1)]] (by rfl) rfl rfl lz ?_
              with_reducible refine (spec_ValOk.calls k4 _ _ l0_0 _ _ l0_1 _ _ l0_2 _ _ l0_3 ((rd_T35 l0_3 x6_4).f0) ((rd_T35 l0_3 x6_4).f1) true _ ?side1 ?side2 ?side3 ?side4 ?side5 ?side6 ?side7 ?side8 A47.out).mono ?_
              (case side1 => exact cz (Kd.C_below HR0_0.out HB.out))
              (case side2 => exact HC0_0.out)
              (case side3 => exact cz (Kd.C_below HR0_1.out HB.out))
              (case side4 => exact HC0_1.out)
              (case side5 => exact cz (Kd.C_below HR0_2.out HB.out))
              (case side6 => exact HC0_2.out)
              (case side7 => exact cz (Kd.C_below HR0_3.out HB.out))
              (case side8 => exact HC0_3.out)
              rintro e w51 ⟨rfl, hb⟩
              refine ⟨_, rfl, ?_⟩
              have n0_ := Aside0.mk (blk_below (kz BK296.out) hb)
              have n1_ := Aside0.mk (below_step (bz1 HB.out GE296.out) hb)
              clear BK296
              clear HB
              have BK296 := n0_
              have HB := n1_
              clear n0_ n1_
              (try clear hb)
              (try clear hb2)
              (try clear hk)
              (try clear hi)
              refine hK.out _ _ ⟨(blk_cell BK296.out 0).trans rfl, (blk_cell BK296.out 1).trans rfl, (blk_cell BK296.out 2).trans rfl, (blk_cell BK296.out 3).trans rfl, (hz HB.out hw307_0 :), (hz HB.out hw307_1 :)⟩ (fun hHeld => ?_)
              clear hK K
              refine norm_ (a' := ?_) ?_ ?_
              rotate_left
              ·show Act.put _ (some 94) _ = _
               simp only [Act.put, sz1, sz2, sz3, i64_w, i32_w]
               rfl
              refine pv 7 95 (mk_ 8 0) HT_ rfl rfl ?_
              refine done_ (done_of HT_.out (by kernel_rfl)) ?_
              try go_wp2
              go_roundg k4
              case measure => have := HK1.out; have := HK2.out; have := HK3.out; have := HK4.out; omega
              case rel => exact ⟨(wrap64 (x6_4 + 1)), ez, H', ⟨by have := HK1.out; have := HK2.out; have := HK3.out; have := HK4.out; omega⟩, ⟨by refine kq ?_; exact BK296.out⟩, ⟨(bz1 HB.out GE296.out)⟩⟩
             ·replace c48 := Bool.eq_false_iff.mpr c48
              subst c48
              have H1 := hq H
              clear H
              have H := H1
              clear H1
              obtain rfl := Option.some.inj H
              obtain ⟨hcz52_0, hcz52_1, hcz52_2, hcz52_3⟩ := cz4 BK296.out
              obtain ⟨hfz52_0, hfz52_1, hfz52_2, hfz52_3⟩ := fz4 BK296.out
              try go_wp2
              have n0_ := Aside0.mk (blk_drew BK296.out)
              have n1_ := Aside0.mk (below_drew1 HB.out)
              clear BK296
              clear HB
              have BK296 := n0_
              have HB := n1_
              clear n0_ n1_
              have p307 : 0 <= (x6_4 : Int) := oz
              have q307 : x6_4 < (l0_3.length : Int) := oz
              obtain ⟨ad307, e307, hx307_0, hx307_1⟩ := at_T35 HR0_3.out x6_4 p307 q307
              have hw307_1 := hx307_1
              have hw307_0 := hx307_0
              cases e307
              replace hx307_0 := hz HB.out hx307_0
              replace hx307_1 := hz HB.out hx307_1
              replace p307 := eq_true p307
              replace q307 := eq_true q307
              refine start_ (n := 8) (S := fun w' => w'.cell? ⟨gb296, 0, none⟩ = some (.slice A0_0 l0_0.length c0_0) /\ w'.cell? ⟨gb296, 1, none⟩ = some (.slice A0_1 l0_1.length c0_1) /\ w'.cell? ⟨gb296, 2, none⟩ = some (.slice A0_2 l0_2.length c0_2) /\ w'.cell? ⟨gb296, 3, none⟩ = some (.slice (some ad307) l0_3.length c0_3) /\ w'.cell? (ad307.add ((x6_4).toNat * 2)) = some (.int .i64 ((rd_T35 l0_3 x6_4).f0)) /\ w'.cell? ⟨(ad307.add ((x6_4).toNat * 2)).block, (ad307.add ((x6_4).toNat * 2)).off + 1, none⟩ = some (.int .i64 ((rd_T35 l0_3 x6_4).f1))) (ds := []) (mk_ 0 8) (by kernel_rfl) rfl rfl ⟨(blk_cell BK296.out 0).trans rfl, (blk_cell BK296.out 1).trans rfl, (blk_cell BK296.out 2).trans rfl, (blk_cell BK296.out 3).trans rfl, (hz HB.out hw307_0 :), (hz HB.out hw307_1 :)⟩ (fun hHeld => ?_); refine with_tabW spec_HeapOk.tab19 spec_HeapOk.bits19 (fun HT_ HW_ => ?_)
              generalize wr.drew = w53 at BK296 HB hx307_0 hx307_1 hHeld ⊢
              refine pv 1 89 (bm_ 8 2) HT_ rfl rfl ?_
              refine pv 3 91 (bm_ 8 10) HT_ rfl rfl ?_
              refine tv6 0 88 (bm_ 8 11) HT_ HW_ rfl rfl hHeld ?_
              refine tv6 2 90 (mk_ 4 4) HT_ HW_ rfl rfl hHeld ?_
              refine pv 4 92 (mk_ 5 3) HT_ rfl rfl ?_
              refine tv6 5 93 (mk_ 6 2) HT_ HW_ rfl rfl hHeld ?_
              refine one_ (i := 6) (N := some 94) (mk_ 7 1) rfl rfl (one_of HT_.out (by kernel_rfl)) (by decide) (fun K hK => ?_)
              refine goes_ Tryd.func17 (by kernel_rfl) rfl #[.agg #[.slice A0_0 l0_0.length c0_0, .slice A0_1 l0_1.length c0_1, .slice A0_2 l0_2.length c0_2, .slice (some ad307) l0_3.length c0_3], .agg #[.int .i64 ((rd_T35 l0_3 x6_4).f0), .int .i64 ((rd_T35 l0_3 x6_4).f1)]] (by rfl) rfl rfl lz ?_
              with_reducible refine (spec_ValOk.calls k4 _ _ l0_0 _ _ l0_1 _ _ l0_2 _ _ l0_3 ((rd_T35 l0_3 x6_4).f0) ((rd_T35 l0_3 x6_4).f1) false _ ?side1 ?side2 ?side3 ?side4 ?side5 ?side6 ?side7 ?side8 A47.out).mono ?_
              (case side1 => exact cz (Kd.C_below HR0_0.out HB.out))
              (case side2 => exact HC0_0.out)
              (case side3 => exact cz (Kd.C_below HR0_1.out HB.out))
              (case side4 => exact HC0_1.out)
              (case side5 => exact cz (Kd.C_below HR0_2.out HB.out))
              (case side6 => exact HC0_2.out)
              (case side7 => exact cz (Kd.C_below HR0_3.out HB.out))
              (case side8 => exact HC0_3.out)
              rintro e w54 ⟨rfl, hb⟩
              refine ⟨_, rfl, ?_⟩
              have n0_ := Aside0.mk (blk_below (kz BK296.out) hb)
              have n1_ := Aside0.mk (below_step (bz1 HB.out GE296.out) hb)
              clear BK296
              clear HB
              have BK296 := n0_
              have HB := n1_
              clear n0_ n1_
              (try clear hb)
              (try clear hb2)
              (try clear hk)
              (try clear hi)
              refine hK.out _ _ ⟨(blk_cell BK296.out 0).trans rfl, (blk_cell BK296.out 1).trans rfl, (blk_cell BK296.out 2).trans rfl, (blk_cell BK296.out 3).trans rfl, (hz HB.out hw307_0 :), (hz HB.out hw307_1 :)⟩ (fun hHeld => ?_)
              clear hK K
              refine norm_ (a' := ?_) ?_ ?_
              rotate_left
              ·show Act.put _ (some 94) _ = _
               simp only [Act.put, sz1, sz2, sz3, i64_w, i32_w]
               rfl
              refine pv 7 95 (mk_ 8 0) HT_ rfl rfl ?_
              refine done_ (done_of HT_.out (by kernel_rfl)) ?_
              try go_wp2
              go_ret
              exact ⟨gz, (bz1 HB.out GE296.out)⟩
            ·rw [if_neg c45] at H
             have c45b0 := decide_eq_false c45
             clear c45
             obtain rfl := Option.some.inj H
             obtain ⟨hcz55_0, hcz55_1, hcz55_2, hcz55_3⟩ := cz4 BK296.out
             obtain ⟨hfz55_0, hfz55_1, hfz55_2, hfz55_3⟩ := fz4 BK296.out
             go_wp2
             go_ret
             exact ⟨gz, (bz1 HB.out GE296.out)⟩
end Go.Proofs.YtlhofeikcaejpaaDoor.PFnValues
