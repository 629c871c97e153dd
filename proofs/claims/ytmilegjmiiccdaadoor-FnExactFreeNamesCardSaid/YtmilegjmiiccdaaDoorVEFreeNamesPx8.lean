/- PFnExactFreeNamesx8, of the words and walks that the law FnExactFreeNames needs; made by this session's program out of printed texts. -/

import Derived.Test.YtmilegjmiiccdaaDoorVEFreeNamesPx0
import Derived.Test.YtmilegjmiiccdaaDoorVEFreeNamesPx2
import Derived.Test.YtmilegjmiiccdaaDoorVEFreeNamesPx6
import Derived.Test.YtmilegjmiiccdaaDoorVEFreeNamesPx7
namespace Go.Proofs.YtmilegjmiiccdaaDoor.PFnExactFreeNames
open Go.RowKit Go.Proofs.YtmilegjmiiccdaaDoorW.PrintWords Go.Proofs.YtmilegjmiiccdaaDoorW.PrintLast Go.Proofs.YtmilegjmiiccdaaDoorW.PrintMore
attribute [local go_sem] max2_int min2_int max_two min_two max_three min_three max_four min_four
set_option linter.unusedVariables false
set_option linter.unusedSimpArgs false
mutual
def spec_BinderOf.j0 : Nat → List (S43) → Int → Bool → Int → Int → Option (Int × Int)
 | 0, _, _, _, _, _ => none
 | k + 1, x0, x1, x30, x282000, x282001 => if x30 = true then (some (x282000, x282001)) else ((spec_ParentOf.f k x0 x1).bind fun t285 => (spec_BinderOf.l0 k x0 x1 x1 t285 x282000 x282001))
def spec_BinderOf.l0 : Nat → List (S43) → Int → Int → Int → Int → Int → Option (Int × Int)
 | 0, _, _, _, _, _, _ => none
 | k + 1, x0, x1, x6, x7, x282000, x282001 => if x7 ≥ 0 then (if 0 ≤ x7 then (if x7 < (x0.length : Int) then ((spec_l6Bound.f k ((rd_T43 x0 x7).f0) ((rd_T43 x0 x7).f1) ((rd_T43 x0 x7).f2) ((rd_T43 x0 x7).f3) ((rd_T43 x0 x7).f4) ((rd_T43 x0 x7).f5) ((rd_T43 x0 x7).f6) x6).bind fun bt287 => (spec_BinderOf.l1 k x0 x1 x7 bt287.1 bt287.2 0 x282000 x282001)) else (none)) else (none)) else (some (x282000, x282001))
def spec_BinderOf.l1 : Nat → List (S43) → Int → Int → List ByteArray → List Int → Int → Int → Int → Option (Int × Int)
 | 0, _, _, _, _, _, _, _, _ => none
 | k + 1, x0, x1, x7, x8, x9, x10, x282000, x282001 => if x10 < (x8.length : Int) then (if 0 ≤ x10 then (if 0 ≤ x1 then (if x1 < (x0.length : Int) then (if (rdOf ByteArray.empty x8 x10).toList = ((rd_T43 x0 x1).f5).toList then (if x10 < (x9.length : Int) then (some (x7, rd x9 x10)) else (none)) else (spec_BinderOf.l1 k x0 x1 x7 x8 x9 (wrap64 (x10 + 1)) x282000 x282001)) else (none)) else (none)) else (none)) else ((spec_ParentOf.f k x0 x7).bind fun t296 => (spec_BinderOf.l0 k x0 x1 x7 t296 x282000 x282001))
end
def spec_BinderOf.f (k : Nat) (l0 : List (S43)) (a1 : Int) : Option (Int × Int) := (spec_NodesOk.f k l0).bind fun t282 => (if t282 = true then ((spec_l1In.f a1 0 (wrap64 ((l0.length : Int) - 1))).bind fun t283 => (if t283 = true then (if 0 ≤ a1 then (if a1 < (l0.length : Int) then (spec_BinderOf.j0 k l0 a1 (((rd_T43 l0 a1).f0) != 1) (-1) (-1)) else (none)) else (none)) else (spec_BinderOf.j0 k l0 a1 true (-1) (-1)))) else (spec_BinderOf.j0 k l0 a1 true (-1) (-1)))
theorem spec_BinderOf.mono_l : ∀ k, (∀ y0 y1 y2 y3 y4, LeO (spec_BinderOf.j0 k y0 y1 y2 y3 y4) (spec_BinderOf.j0 (k + 1) y0 y1 y2 y3 y4)) ∧ (∀ y0 y1 y2 y3 y4 y5, LeO (spec_BinderOf.l0 k y0 y1 y2 y3 y4 y5) (spec_BinderOf.l0 (k + 1) y0 y1 y2 y3 y4 y5)) ∧ (∀ y0 y1 y2 y3 y4 y5 y6 y7, LeO (spec_BinderOf.l1 k y0 y1 y2 y3 y4 y5 y6 y7) (spec_BinderOf.l1 (k + 1) y0 y1 y2 y3 y4 y5 y6 y7))
 | 0 => ⟨fun _ _ _ _ _ r h => by simp [spec_BinderOf.j0] at h, fun _ _ _ _ _ _ r h => by simp [spec_BinderOf.l0] at h, fun _ _ _ _ _ _ _ _ r h => by simp [spec_BinderOf.l1] at h⟩
 | k + 1 => by
  obtain ⟨ih0, ih1, ih2⟩ := spec_BinderOf.mono_l k
  refine ⟨?_, ?_, ?_⟩
  ·intro y0 y1 y2 y3 y4
   unfold spec_BinderOf.j0
   repeat' first
   | (with_reducible exact ih0 _ _ _ _ _)
   | (with_reducible exact ih1 _ _ _ _ _ _)
   | (with_reducible exact ih2 _ _ _ _ _ _ _ _)
   | (with_reducible exact spec_NodesOk.mono _ _)
   | (with_reducible exact spec_ParentOf.mono _ _ _)
   | (with_reducible exact spec_l6Bound.mono _ _ _ _ _ _ _ _ _)
   | (with_reducible exact LeO.refl _)
   | (with_reducible exact LeO.none _)
   | (with_reducible refine LeO.ite ?_ ?_)
   | (with_reducible refine LeO.bind ?_ (fun _ => ?_))
   | exact ih0 _ _ _ _ _
   | exact ih1 _ _ _ _ _ _
   | exact ih2 _ _ _ _ _ _ _ _
   | exact spec_NodesOk.mono _ _
   | exact spec_ParentOf.mono _ _ _
   | exact spec_l6Bound.mono _ _ _ _ _ _ _ _ _
   | exact LeO.none _
   | refine LeO.ite ?_ ?_
   | refine LeO.bind ?_ (fun _ => ?_)
  ·intro y0 y1 y2 y3 y4 y5
   unfold spec_BinderOf.l0
   repeat' first
   | (with_reducible exact ih0 _ _ _ _ _)
   | (with_reducible exact ih1 _ _ _ _ _ _)
   | (with_reducible exact ih2 _ _ _ _ _ _ _ _)
   | (with_reducible exact spec_NodesOk.mono _ _)
   | (with_reducible exact spec_ParentOf.mono _ _ _)
   | (with_reducible exact spec_l6Bound.mono _ _ _ _ _ _ _ _ _)
   | (with_reducible exact LeO.refl _)
   | (with_reducible exact LeO.none _)
   | (with_reducible refine LeO.ite ?_ ?_)
   | (with_reducible refine LeO.bind ?_ (fun _ => ?_))
   | exact ih0 _ _ _ _ _
   | exact ih1 _ _ _ _ _ _
   | exact ih2 _ _ _ _ _ _ _ _
   | exact spec_NodesOk.mono _ _
   | exact spec_ParentOf.mono _ _ _
   | exact spec_l6Bound.mono _ _ _ _ _ _ _ _ _
   | exact LeO.none _
   | refine LeO.ite ?_ ?_
   | refine LeO.bind ?_ (fun _ => ?_)
  ·intro y0 y1 y2 y3 y4 y5 y6 y7
   unfold spec_BinderOf.l1
   repeat' first
   | (with_reducible exact ih0 _ _ _ _ _)
   | (with_reducible exact ih1 _ _ _ _ _ _)
   | (with_reducible exact ih2 _ _ _ _ _ _ _ _)
   | (with_reducible exact spec_NodesOk.mono _ _)
   | (with_reducible exact spec_ParentOf.mono _ _ _)
   | (with_reducible exact spec_l6Bound.mono _ _ _ _ _ _ _ _ _)
   | (with_reducible exact LeO.refl _)
   | (with_reducible exact LeO.none _)
   | (with_reducible refine LeO.ite ?_ ?_)
   | (with_reducible refine LeO.bind ?_ (fun _ => ?_))
   | exact ih0 _ _ _ _ _
   | exact ih1 _ _ _ _ _ _
   | exact ih2 _ _ _ _ _ _ _ _
   | exact spec_NodesOk.mono _ _
   | exact spec_ParentOf.mono _ _ _
   | exact spec_l6Bound.mono _ _ _ _ _ _ _ _ _
   | exact LeO.none _
   | refine LeO.ite ?_ ?_
   | refine LeO.bind ?_ (fun _ => ?_)
theorem spec_BinderOf.mono : ∀ a0 a1 k, LeO (spec_BinderOf.f k a0 a1) (spec_BinderOf.f (k + 1) a0 a1) := by
 intro a0 a1 k
 obtain ⟨ih0, ih1, ih2⟩ := spec_BinderOf.mono_l k
 unfold spec_BinderOf.f
 repeat' first
   | (with_reducible exact ih0 _ _ _ _ _)
   | (with_reducible exact ih1 _ _ _ _ _ _)
   | (with_reducible exact ih2 _ _ _ _ _ _ _ _)
   | (with_reducible exact spec_NodesOk.mono _ _)
   | (with_reducible exact spec_ParentOf.mono _ _ _)
   | (with_reducible exact spec_l6Bound.mono _ _ _ _ _ _ _ _ _)
   | (with_reducible exact LeO.refl _)
   | (with_reducible exact LeO.none _)
   | (with_reducible refine LeO.ite ?_ ?_)
   | (with_reducible refine LeO.bind ?_ (fun _ => ?_))
   | exact ih0 _ _ _ _ _
   | exact ih1 _ _ _ _ _ _
   | exact ih2 _ _ _ _ _ _ _ _
   | exact spec_NodesOk.mono _ _
   | exact spec_ParentOf.mono _ _ _
   | exact spec_l6Bound.mono _ _ _ _ _ _ _ _ _
   | exact LeO.none _
   | refine LeO.ite ?_ ?_
   | refine LeO.bind ?_ (fun _ => ?_)
set_option maxHeartbeats 8000000 in
set_option maxRecDepth 100000 in
theorem spec_BinderOf.calls (k : Nat) (A0 : Option Addr) (c0 : Nat) (l0 : List (S43)) (a1 : Int) (r1 : Int) (r2 : Int) (w : World) (hr0 : Kd.C k43 w A0 l0.length l0) (hc0 : l0.length ≤ c0) (h : spec_BinderOf.f k l0 a1 = some (r1, r2)) :
  Calls Tryd.prog 49 #[.slice A0 l0.length c0, .int .i64 a1] w fun e w' => e = .returned (.agg #[.int .i64 r1, .int .i64 r2]) ∧ Below w.heap.size w w' := by
 have hu55 := Tryd.underlying55
 have hu43 := Tryd.underlying43
 have HR0 := Aside0.mk hr0
 have HC0 := Aside0.mk hc0
 clear hr0 hc0
 have HB := Aside0.mk (Below.refl w.heap.size w)
 have H : ((spec_NodesOk.f k l0).bind fun t282 => (if t282 = true then ((spec_l1In.f a1 0 (wrap64 ((l0.length : Int) - 1))).bind fun t283 => (if t283 = true then (if 0 ≤ a1 then (if a1 < (l0.length : Int) then (spec_BinderOf.j0 k l0 a1 (((rd_T43 l0 a1).f0) != 1) (-1) (-1)) else (none)) else (none)) else (spec_BinderOf.j0 k l0 a1 true (-1) (-1)))) else (spec_BinderOf.j0 k l0 a1 true (-1) (-1)))) = some (r1, r2) := h
 clear h
 have HC3 := Aside0.mk H
 clear H
 go_enter Tryd.func49, Tryd.ntmps49
 go_upto_region 2 with (first | ((with_reducible refine gate_dst (N := 4) rfl ?_); (try (refine gate_guard (by rfl) ?_; dsimp only)); refine box_event ?hg (N := 4) ?hd (cs := #[.int .i64 0, .int .i64 0]) (t := 55) ?hr ?_; (case hd => rfl); (case hg => rfl); (case hr => first | (go_simp; done) | (go_simp; rfl)); intro gb280 hg w4 hbox hb; have n0_ := Aside0.mk (below_step (bz0 HB.out) hb); have n1_ := Aside0.mk (hbox); have n2_ := Aside0.mk ((by rw [hg]; exact (below_size (bz0 HB.out)) : w.heap.size ≤ gb280)); have n3_ := Aside0.mk ((by rw [hg]; exact (below_size (bz0 HB.out)) : w.heap.size ≤ gb280)); clear HB; have HB := n0_; have BK280 := n1_; have GW280 := n2_; have GE280 := n3_; clear n0_ n1_ n2_ n3_; clear hb hbox hg) | ((with_reducible refine gate_dst (N := 5) rfl ?_); (try (refine gate_guard (by rfl) ?_; dsimp only)); refine box_event ?hg (N := 5) ?hd (cs := #[.int .i64 0, .int .i64 0]) (t := 55) ?hr ?_; (case hd => rfl); (case hg => rfl); (case hr => first | (go_simp; done) | (go_simp; rfl)); intro gb281 hg w5 hbox hb; have n0_ := Aside0.mk (blk_below (g := gb280) (o := .cells #[.int .i64 0, .int .i64 0] 55 (0, 0)) (kz BK280.out) hb); have n1_ := Aside0.mk (below_step (bz1 HB.out GE280.out) hb); have n2_ := Aside0.mk (hbox); have n3_ := Aside0.mk ((by rw [hg]; exact (below_size (bz1 HB.out GE280.out)) : w.heap.size ≤ gb281)); have n4_ := Aside0.mk ((by rw [hg]; exact (below_size (bz1 HB.out GE280.out)) : w.heap.size ≤ gb281)); have n5_ := Aside0.mk ((by rw [hg]; exact Nat.ne_of_lt (blk_lt (g := gb280) (o := .cells #[.int .i64 0, .int .i64 0] 55 (0, 0)) (kz BK280.out)) : gb280 ≠ gb281)); have n6_ := Aside0.mk ((by rw [hg]; exact Nat.ne_of_gt (blk_lt (g := gb280) (o := .cells #[.int .i64 0, .int .i64 0] 55 (0, 0)) (kz BK280.out)) : gb281 ≠ gb280)); clear BK280; clear HB; have BK280 := n0_; have HB := n1_; have BK281 := n2_; have GW281 := n3_; have GE281 := n4_; have NB280_281 := n5_; have NB281_280 := n6_; clear n0_ n1_ n2_ n3_ n4_ n5_ n6_; clear hb hbox hg; have hnb6 := NB281_280.out; have hnc6 := NB280_281.out; have hcz7_0 : w5.cell? ⟨gb281, 0, none⟩ = some (.int .i64 0) := (blk_cell BK281.out 0).trans rfl; have hcz7_1 : w5.cell? ⟨gb281, 1, none⟩ = some (.int .i64 0) := (blk_cell BK281.out 1).trans rfl; have hfz7_0 := blk_frozen BK281.out 0; have hfz7_1 := blk_frozen BK281.out 1))
 repeat (go_quiet (first | ((with_reducible refine gate_dst (N := 4) rfl ?_); (try (refine gate_guard (by rfl) ?_; dsimp only)); refine box_event ?hg (N := 4) ?hd (cs := #[.int .i64 0, .int .i64 0]) (t := 55) ?hr ?_; (case hd => rfl); (case hg => rfl); (case hr => first | (go_simp; done) | (go_simp; rfl)); intro gb280 hg w4 hbox hb; have n0_ := Aside0.mk (below_step (bz0 HB.out) hb); have n1_ := Aside0.mk (hbox); have n2_ := Aside0.mk ((by rw [hg]; exact (below_size (bz0 HB.out)) : w.heap.size ≤ gb280)); have n3_ := Aside0.mk ((by rw [hg]; exact (below_size (bz0 HB.out)) : w.heap.size ≤ gb280)); clear HB; have HB := n0_; have BK280 := n1_; have GW280 := n2_; have GE280 := n3_; clear n0_ n1_ n2_ n3_; clear hb hbox hg) | ((with_reducible refine gate_dst (N := 5) rfl ?_); (try (refine gate_guard (by rfl) ?_; dsimp only)); refine box_event ?hg (N := 5) ?hd (cs := #[.int .i64 0, .int .i64 0]) (t := 55) ?hr ?_; (case hd => rfl); (case hg => rfl); (case hr => first | (go_simp; done) | (go_simp; rfl)); intro gb281 hg w5 hbox hb; have n0_ := Aside0.mk (blk_below (g := gb280) (o := .cells #[.int .i64 0, .int .i64 0] 55 (0, 0)) (kz BK280.out) hb); have n1_ := Aside0.mk (below_step (bz1 HB.out GE280.out) hb); have n2_ := Aside0.mk (hbox); have n3_ := Aside0.mk ((by rw [hg]; exact (below_size (bz1 HB.out GE280.out)) : w.heap.size ≤ gb281)); have n4_ := Aside0.mk ((by rw [hg]; exact (below_size (bz1 HB.out GE280.out)) : w.heap.size ≤ gb281)); have n5_ := Aside0.mk ((by rw [hg]; exact Nat.ne_of_lt (blk_lt (g := gb280) (o := .cells #[.int .i64 0, .int .i64 0] 55 (0, 0)) (kz BK280.out)) : gb280 ≠ gb281)); have n6_ := Aside0.mk ((by rw [hg]; exact Nat.ne_of_gt (blk_lt (g := gb280) (o := .cells #[.int .i64 0, .int .i64 0] 55 (0, 0)) (kz BK280.out)) : gb281 ≠ gb280)); clear BK280; clear HB; have BK280 := n0_; have HB := n1_; have BK281 := n2_; have GW281 := n3_; have GE281 := n4_; have NB280_281 := n5_; have NB281_280 := n6_; clear n0_ n1_ n2_ n3_ n4_ n5_ n6_; clear hb hbox hg; have hnb6 := NB281_280.out; have hnc6 := NB280_281.out; have hcz7_0 : w5.cell? ⟨gb281, 0, none⟩ = some (.int .i64 0) := (blk_cell BK281.out 0).trans rfl; have hcz7_1 : w5.cell? ⟨gb281, 1, none⟩ = some (.int .i64 0) := (blk_cell BK281.out 1).trans rfl; have hfz7_0 := blk_frozen BK281.out 0; have hfz7_1 := blk_frozen BK281.out 1)); go_upto_region 2 with (first | ((with_reducible refine gate_dst (N := 4) rfl ?_); (try (refine gate_guard (by rfl) ?_; dsimp only)); refine box_event ?hg (N := 4) ?hd (cs := #[.int .i64 0, .int .i64 0]) (t := 55) ?hr ?_; (case hd => rfl); (case hg => rfl); (case hr => first | (go_simp; done) | (go_simp; rfl)); intro gb280 hg w4 hbox hb; have n0_ := Aside0.mk (below_step (bz0 HB.out) hb); have n1_ := Aside0.mk (hbox); have n2_ := Aside0.mk ((by rw [hg]; exact (below_size (bz0 HB.out)) : w.heap.size ≤ gb280)); have n3_ := Aside0.mk ((by rw [hg]; exact (below_size (bz0 HB.out)) : w.heap.size ≤ gb280)); clear HB; have HB := n0_; have BK280 := n1_; have GW280 := n2_; have GE280 := n3_; clear n0_ n1_ n2_ n3_; clear hb hbox hg) | ((with_reducible refine gate_dst (N := 5) rfl ?_); (try (refine gate_guard (by rfl) ?_; dsimp only)); refine box_event ?hg (N := 5) ?hd (cs := #[.int .i64 0, .int .i64 0]) (t := 55) ?hr ?_; (case hd => rfl); (case hg => rfl); (case hr => first | (go_simp; done) | (go_simp; rfl)); intro gb281 hg w5 hbox hb; have n0_ := Aside0.mk (blk_below (g := gb280) (o := .cells #[.int .i64 0, .int .i64 0] 55 (0, 0)) (kz BK280.out) hb); have n1_ := Aside0.mk (below_step (bz1 HB.out GE280.out) hb); have n2_ := Aside0.mk (hbox); have n3_ := Aside0.mk ((by rw [hg]; exact (below_size (bz1 HB.out GE280.out)) : w.heap.size ≤ gb281)); have n4_ := Aside0.mk ((by rw [hg]; exact (below_size (bz1 HB.out GE280.out)) : w.heap.size ≤ gb281)); have n5_ := Aside0.mk ((by rw [hg]; exact Nat.ne_of_lt (blk_lt (g := gb280) (o := .cells #[.int .i64 0, .int .i64 0] 55 (0, 0)) (kz BK280.out)) : gb280 ≠ gb281)); have n6_ := Aside0.mk ((by rw [hg]; exact Nat.ne_of_gt (blk_lt (g := gb280) (o := .cells #[.int .i64 0, .int .i64 0] 55 (0, 0)) (kz BK280.out)) : gb281 ≠ gb280)); clear BK280; clear HB; have BK280 := n0_; have HB := n1_; have BK281 := n2_; have GW281 := n3_; have GE281 := n4_; have NB280_281 := n5_; have NB281_280 := n6_; clear n0_ n1_ n2_ n3_ n4_ n5_ n6_; clear hb hbox hg; have hnb6 := NB281_280.out; have hnc6 := NB280_281.out; have hcz7_0 : w5.cell? ⟨gb281, 0, none⟩ = some (.int .i64 0) := (blk_cell BK281.out 0).trans rfl; have hcz7_1 : w5.cell? ⟨gb281, 1, none⟩ = some (.int .i64 0) := (blk_cell BK281.out 1).trans rfl; have hfz7_0 := blk_frozen BK281.out 0; have hfz7_1 := blk_frozen BK281.out 1)))
 (try simp only [Act.put, List.setIfInBounds_toArray, List.set_cons_zero, List.set_cons_succ])
 go_cut [30] (fun v30 wc => ∃ (kq : Nat) (x30_2 : Bool), v30 = .bool x30_2 ∧ Aside0 (spec_BinderOf.j0 kq l0 a1 x30_2 (-1) (-1) = some (r1, r2)) ∧ Aside0 (kq ≤ k) ∧ Aside0 (wc.heap[gb280]? = some (.cells #[.int .i64 0, .int .i64 0] 55 (0, 0))) ∧ Aside0 (wc.heap[gb281]? = some (.cells #[.int .i64 (-1), .int .i64 (-1)] 55 (0, 0))) ∧ Aside0 (Below w.heap.size w wc))
 case first =>
  have H := HC3.out
  clear HC3
  replace H := Option.bind_eq_some_iff.mp H
  obtain ⟨t282, A80, H⟩ := H
  replace H : (if t282 = true then ((spec_l1In.f a1 0 (wrap64 ((l0.length : Int) - 1))).bind fun t283 => (if t283 = true then (if 0 ≤ a1 then (if a1 < (l0.length : Int) then (spec_BinderOf.j0 k l0 a1 (((rd_T43 l0 a1).f0) != 1) (-1) (-1)) else (none)) else (none)) else (spec_BinderOf.j0 k l0 a1 true (-1) (-1)))) else (spec_BinderOf.j0 k l0 a1 true (-1) (-1))) = some (r1, r2) := H
  have A8 := Aside0.mk A80
  clear A80
  by_cases c9 : t282 = true
  ·subst c9
   have H1 : ((spec_l1In.f a1 0 (wrap64 ((l0.length : Int) - 1))).bind fun t283 => (if t283 = true then (if 0 ≤ a1 then (if a1 < (l0.length : Int) then (spec_BinderOf.j0 k l0 a1 (((rd_T43 l0 a1).f0) != 1) (-1) (-1)) else (none)) else (none)) else (spec_BinderOf.j0 k l0 a1 true (-1) (-1)))) = some (r1, r2) := by rw [if_pos rfl] at H; exact H
   clear H
   have H := H1
   clear H1
   replace H := Option.bind_eq_some_iff.mp H
   obtain ⟨t283, A100, H⟩ := H
   replace H : (if t283 = true then (if 0 ≤ a1 then (if a1 < (l0.length : Int) then (spec_BinderOf.j0 k l0 a1 (((rd_T43 l0 a1).f0) != 1) (-1) (-1)) else (none)) else (none)) else (spec_BinderOf.j0 k l0 a1 true (-1) (-1))) = some (r1, r2) := H
   have A10 := Aside0.mk A100
   clear A100
   by_cases c11 : t283 = true
   ·subst c11
    have H1 : (if 0 ≤ a1 then (if a1 < (l0.length : Int) then (spec_BinderOf.j0 k l0 a1 (((rd_T43 l0 a1).f0) != 1) (-1) (-1)) else (none)) else (none)) = some (r1, r2) := by rw [if_pos rfl] at H; exact H
    clear H
    have H := H1
    clear H1
    by_cases c12 : 0 ≤ a1
    ·rw [if_pos c12] at H
     have c12b0 : decide (0 ≤ a1) = true := decide_eq_true c12
     clear c12
     (first | rw [c12b0] | (simp only [i64_w, i32_w]; rw [c12b0]) | skip)
     by_cases c13 : a1 < (l0.length : Int)
     ·rw [if_pos c13] at H
      have c13b0 : decide (a1 < (l0.length : Int)) = true := decide_eq_true c13
      clear c13
      have H' := Aside0.mk H
      clear H
      go_wp2_with (first | (go_at_call 33; (with_reducible refine (spec_NodesOk.calls k _ _ l0 true _ ?side1 ?side2 A8.out).mono ?_); (case side1 => exact Kd.C_below HR0.out (bz2 HB.out GE280.out GE281.out)); (case side2 => exact HC0.out); rintro e w14 ⟨rfl, hb⟩; have n0_ := Aside0.mk (blk_below (g := gb280) (o := .cells #[.int .i64 0, .int .i64 0] 55 (0, 0)) (by (with_reducible repeat (first | refine blk_drewN ?_ _ | refine blk_drew ?_ | refine blk_alloc ?_ _)); refine blk_far ?_ NB280_281.out _; (with_reducible repeat (first | refine blk_drewN ?_ _ | refine blk_drew ?_ | refine blk_alloc ?_ _)); refine blk_far ?_ NB280_281.out _; (with_reducible repeat (first | refine blk_drewN ?_ _ | refine blk_drew ?_ | refine blk_alloc ?_ _)); exact BK280.out) hb); have n1_ := Aside0.mk (blk_below (g := gb281) (o := .cells #[.int .i64 (-1), .int .i64 (-1)] 55 (0, 0)) (by (with_reducible repeat (first | refine blk_drewN ?_ _ | refine blk_drew ?_ | refine blk_alloc ?_ _)); refine blk_put (cs := #[.int .i64 (-1), .int .i64 0]) ?_ 1 _ rfl; (with_reducible repeat (first | refine blk_drewN ?_ _ | refine blk_drew ?_ | refine blk_alloc ?_ _)); refine blk_put (cs := #[.int .i64 0, .int .i64 0]) ?_ 0 _ rfl; (with_reducible repeat (first | refine blk_drewN ?_ _ | refine blk_drew ?_ | refine blk_alloc ?_ _)); exact BK281.out) hb); have n2_ := Aside0.mk (below_step (bz2 HB.out GE280.out GE281.out) hb); clear BK280; clear BK281; clear HB; have BK280 := n0_; have BK281 := n1_; have HB := n2_; clear n0_ n1_ n2_; (try clear hb); (try clear hb2); (try clear hk); (try clear hi)) | (go_at_call 39; (with_reducible refine (spec_l1In.calls a1 0 (wrap64 ((l0.length : Int) - 1)) true _ A10.out).mono ?_); rintro e w' ⟨rfl, ⟨nd, rfl⟩⟩; (try first | exact ⟨rfl, _, World.drewN_drewN _ _ _⟩ | exact ⟨rfl, _, Eq.trans (World.drewN_drewN _ _ _) (congrArg (World.drewN _) (Nat.add_assoc _ _ _))⟩); have p284 : 0 ≤ (a1 : Int) := of_decide_eq_true az; have q284 : a1 < (l0.length : Int) := of_decide_eq_true az; obtain ⟨ad284, e284, hx284_0, hx284_1, hx284_2, hx284_3, hx284_4, hx284_5, hx284_6⟩ := at_T43 HR0.out a1 p284 q284; cases e284; replace hx284_0 := hz HB.out hx284_0; replace hx284_1 := hz HB.out hx284_1; replace hx284_2 := hz HB.out hx284_2; replace hx284_3 := hz HB.out hx284_3; replace hx284_4 := hz HB.out hx284_4; replace hx284_5 := hz HB.out hx284_5; replace hx284_6 := hz HB.out hx284_6; replace p284 := eq_true p284; replace q284 := eq_true q284))
      repeat (go_quiet (first | (go_at_call 33; (with_reducible refine (spec_NodesOk.calls k _ _ l0 true _ ?side1 ?side2 A8.out).mono ?_); (case side1 => exact Kd.C_below HR0.out (bz2 HB.out GE280.out GE281.out)); (case side2 => exact HC0.out); rintro e w14 ⟨rfl, hb⟩; have n0_ := Aside0.mk (blk_below (g := gb280) (o := .cells #[.int .i64 0, .int .i64 0] 55 (0, 0)) (by (with_reducible repeat (first | refine blk_drewN ?_ _ | refine blk_drew ?_ | refine blk_alloc ?_ _)); refine blk_far ?_ NB280_281.out _; (with_reducible repeat (first | refine blk_drewN ?_ _ | refine blk_drew ?_ | refine blk_alloc ?_ _)); refine blk_far ?_ NB280_281.out _; (with_reducible repeat (first | refine blk_drewN ?_ _ | refine blk_drew ?_ | refine blk_alloc ?_ _)); exact BK280.out) hb); have n1_ := Aside0.mk (blk_below (g := gb281) (o := .cells #[.int .i64 (-1), .int .i64 (-1)] 55 (0, 0)) (by (with_reducible repeat (first | refine blk_drewN ?_ _ | refine blk_drew ?_ | refine blk_alloc ?_ _)); refine blk_put (cs := #[.int .i64 (-1), .int .i64 0]) ?_ 1 _ rfl; (with_reducible repeat (first | refine blk_drewN ?_ _ | refine blk_drew ?_ | refine blk_alloc ?_ _)); refine blk_put (cs := #[.int .i64 0, .int .i64 0]) ?_ 0 _ rfl; (with_reducible repeat (first | refine blk_drewN ?_ _ | refine blk_drew ?_ | refine blk_alloc ?_ _)); exact BK281.out) hb); have n2_ := Aside0.mk (below_step (bz2 HB.out GE280.out GE281.out) hb); clear BK280; clear BK281; clear HB; have BK280 := n0_; have BK281 := n1_; have HB := n2_; clear n0_ n1_ n2_; (try clear hb); (try clear hb2); (try clear hk); (try clear hi)) | (go_at_call 39; (with_reducible refine (spec_l1In.calls a1 0 (wrap64 ((l0.length : Int) - 1)) true _ A10.out).mono ?_); rintro e w' ⟨rfl, ⟨nd, rfl⟩⟩; (try first | exact ⟨rfl, _, World.drewN_drewN _ _ _⟩ | exact ⟨rfl, _, Eq.trans (World.drewN_drewN _ _ _) (congrArg (World.drewN _) (Nat.add_assoc _ _ _))⟩); have p284 : 0 ≤ (a1 : Int) := of_decide_eq_true az; have q284 : a1 < (l0.length : Int) := of_decide_eq_true az; obtain ⟨ad284, e284, hx284_0, hx284_1, hx284_2, hx284_3, hx284_4, hx284_5, hx284_6⟩ := at_T43 HR0.out a1 p284 q284; cases e284; replace hx284_0 := hz HB.out hx284_0; replace hx284_1 := hz HB.out hx284_1; replace hx284_2 := hz HB.out hx284_2; replace hx284_3 := hz HB.out hx284_3; replace hx284_4 := hz HB.out hx284_4; replace hx284_5 := hz HB.out hx284_5; replace hx284_6 := hz HB.out hx284_6; replace p284 := eq_true p284; replace q284 := eq_true q284)); try go_wp2_with (first | (go_at_call 33; (with_reducible refine (spec_NodesOk.calls k _ _ l0 true _ ?side1 ?side2 A8.out).mono ?_); (case side1 => exact Kd.C_below HR0.out (bz2 HB.out GE280.out GE281.out)); (case side2 => exact HC0.out); rintro e w14 ⟨rfl, hb⟩; have n0_ := Aside0.mk (blk_below (g := gb280) (o := .cells #[.int .i64 0, .int .i64 0] 55 (0, 0)) (by (with_reducible repeat (first | refine blk_drewN ?_ _ | refine blk_drew ?_ | refine blk_alloc ?_ _)); refine blk_far ?_ NB280_281.out _; (with_reducible repeat (first | refine blk_drewN ?_ _ | refine blk_drew ?_ | refine blk_alloc ?_ _)); refine blk_far ?_ NB280_281.out _; (with_reducible repeat (first | refine blk_drewN ?_ _ | refine blk_drew ?_ | refine blk_alloc ?_ _)); exact BK280.out) hb); have n1_ := Aside0.mk (blk_below (g := gb281) (o := .cells #[.int .i64 (-1), .int .i64 (-1)] 55 (0, 0)) (by (with_reducible repeat (first | refine blk_drewN ?_ _ | refine blk_drew ?_ | refine blk_alloc ?_ _)); refine blk_put (cs := #[.int .i64 (-1), .int .i64 0]) ?_ 1 _ rfl; (with_reducible repeat (first | refine blk_drewN ?_ _ | refine blk_drew ?_ | refine blk_alloc ?_ _)); refine blk_put (cs := #[.int .i64 0, .int .i64 0]) ?_ 0 _ rfl; (with_reducible repeat (first | refine blk_drewN ?_ _ | refine blk_drew ?_ | refine blk_alloc ?_ _)); exact BK281.out) hb); have n2_ := Aside0.mk (below_step (bz2 HB.out GE280.out GE281.out) hb); clear BK280; clear BK281; clear HB; have BK280 := n0_; have BK281 := n1_; have HB := n2_; clear n0_ n1_ n2_; (try clear hb); (try clear hb2); (try clear hk); (try clear hi)) | (go_at_call 39; (with_reducible refine (spec_l1In.calls a1 0 (wrap64 ((l0.length : Int) - 1)) true _ A10.out).mono ?_); rintro e w' ⟨rfl, ⟨nd, rfl⟩⟩; (try first | exact ⟨rfl, _, World.drewN_drewN _ _ _⟩ | exact ⟨rfl, _, Eq.trans (World.drewN_drewN _ _ _) (congrArg (World.drewN _) (Nat.add_assoc _ _ _))⟩); have p284 : 0 ≤ (a1 : Int) := of_decide_eq_true az; have q284 : a1 < (l0.length : Int) := of_decide_eq_true az; obtain ⟨ad284, e284, hx284_0, hx284_1, hx284_2, hx284_3, hx284_4, hx284_5, hx284_6⟩ := at_T43 HR0.out a1 p284 q284; cases e284; replace hx284_0 := hz HB.out hx284_0; replace hx284_1 := hz HB.out hx284_1; replace hx284_2 := hz HB.out hx284_2; replace hx284_3 := hz HB.out hx284_3; replace hx284_4 := hz HB.out hx284_4; replace hx284_5 := hz HB.out hx284_5; replace hx284_6 := hz HB.out hx284_6; replace p284 := eq_true p284; replace q284 := eq_true q284)))
      go_meet
      case rel => exact ⟨_, ((((rd_T43 l0 a1).f0) != 1)), ez, H', ⟨by first | omega | exact Nat.le_refl _⟩, ⟨by (with_reducible repeat (first | refine blk_drewN ?_ _ | refine blk_drew ?_ | refine blk_alloc ?_ _)); exact BK280.out⟩, ⟨by (with_reducible repeat (first | refine blk_drewN ?_ _ | refine blk_drew ?_ | refine blk_alloc ?_ _)); exact BK281.out⟩, ⟨(bz2 HB.out GE280.out GE281.out)⟩⟩
     ·rw [if_neg c13] at H
      exact absurd H (by simp)
    ·rw [if_neg c12] at H
     exact absurd H (by simp)
   ·replace c11 := Bool.eq_false_iff.mpr c11
    subst c11
    have H1 : (spec_BinderOf.j0 k l0 a1 true (-1) (-1)) = some (r1, r2) := by rw [if_neg (show ¬ (false = true) by decide)] at H; exact H
    clear H
    have H := H1
    clear H1
    have H' := Aside0.mk H
    clear H
    go_wp2_with (first | (go_at_call 33; (with_reducible refine (spec_NodesOk.calls k _ _ l0 true _ ?side1 ?side2 A8.out).mono ?_); (case side1 => exact Kd.C_below HR0.out (bz2 HB.out GE280.out GE281.out)); (case side2 => exact HC0.out); rintro e w15 ⟨rfl, hb⟩; have n0_ := Aside0.mk (blk_below (g := gb280) (o := .cells #[.int .i64 0, .int .i64 0] 55 (0, 0)) (by (with_reducible repeat (first | refine blk_drewN ?_ _ | refine blk_drew ?_ | refine blk_alloc ?_ _)); refine blk_far ?_ NB280_281.out _; (with_reducible repeat (first | refine blk_drewN ?_ _ | refine blk_drew ?_ | refine blk_alloc ?_ _)); refine blk_far ?_ NB280_281.out _; (with_reducible repeat (first | refine blk_drewN ?_ _ | refine blk_drew ?_ | refine blk_alloc ?_ _)); exact BK280.out) hb); have n1_ := Aside0.mk (blk_below (g := gb281) (o := .cells #[.int .i64 (-1), .int .i64 (-1)] 55 (0, 0)) (by (with_reducible repeat (first | refine blk_drewN ?_ _ | refine blk_drew ?_ | refine blk_alloc ?_ _)); refine blk_put (cs := #[.int .i64 (-1), .int .i64 0]) ?_ 1 _ rfl; (with_reducible repeat (first | refine blk_drewN ?_ _ | refine blk_drew ?_ | refine blk_alloc ?_ _)); refine blk_put (cs := #[.int .i64 0, .int .i64 0]) ?_ 0 _ rfl; (with_reducible repeat (first | refine blk_drewN ?_ _ | refine blk_drew ?_ | refine blk_alloc ?_ _)); exact BK281.out) hb); have n2_ := Aside0.mk (below_step (bz2 HB.out GE280.out GE281.out) hb); clear BK280; clear BK281; clear HB; have BK280 := n0_; have BK281 := n1_; have HB := n2_; clear n0_ n1_ n2_; (try clear hb); (try clear hb2); (try clear hk); (try clear hi)) | (go_at_call 39; (with_reducible refine (spec_l1In.calls a1 0 (wrap64 ((l0.length : Int) - 1)) false _ A10.out).mono ?_); rintro e w' ⟨rfl, ⟨nd, rfl⟩⟩; (try first | exact ⟨rfl, _, World.drewN_drewN _ _ _⟩ | exact ⟨rfl, _, Eq.trans (World.drewN_drewN _ _ _) (congrArg (World.drewN _) (Nat.add_assoc _ _ _))⟩)))
    repeat (go_quiet (first | (go_at_call 33; (with_reducible refine (spec_NodesOk.calls k _ _ l0 true _ ?side1 ?side2 A8.out).mono ?_); (case side1 => exact Kd.C_below HR0.out (bz2 HB.out GE280.out GE281.out)); (case side2 => exact HC0.out); rintro e w15 ⟨rfl, hb⟩; have n0_ := Aside0.mk (blk_below (g := gb280) (o := .cells #[.int .i64 0, .int .i64 0] 55 (0, 0)) (by (with_reducible repeat (first | refine blk_drewN ?_ _ | refine blk_drew ?_ | refine blk_alloc ?_ _)); refine blk_far ?_ NB280_281.out _; (with_reducible repeat (first | refine blk_drewN ?_ _ | refine blk_drew ?_ | refine blk_alloc ?_ _)); refine blk_far ?_ NB280_281.out _; (with_reducible repeat (first | refine blk_drewN ?_ _ | refine blk_drew ?_ | refine blk_alloc ?_ _)); exact BK280.out) hb); have n1_ := Aside0.mk (blk_below (g := gb281) (o := .cells #[.int .i64 (-1), .int .i64 (-1)] 55 (0, 0)) (by (with_reducible repeat (first | refine blk_drewN ?_ _ | refine blk_drew ?_ | refine blk_alloc ?_ _)); refine blk_put (cs := #[.int .i64 (-1), .int .i64 0]) ?_ 1 _ rfl; (with_reducible repeat (first | refine blk_drewN ?_ _ | refine blk_drew ?_ | refine blk_alloc ?_ _)); refine blk_put (cs := #[.int .i64 0, .int .i64 0]) ?_ 0 _ rfl; (with_reducible repeat (first | refine blk_drewN ?_ _ | refine blk_drew ?_ | refine blk_alloc ?_ _)); exact BK281.out) hb); have n2_ := Aside0.mk (below_step (bz2 HB.out GE280.out GE281.out) hb); clear BK280; clear BK281; clear HB; have BK280 := n0_; have BK281 := n1_; have HB := n2_; clear n0_ n1_ n2_; (try clear hb); (try clear hb2); (try clear hk); (try clear hi)) | (go_at_call 39; (with_reducible refine (spec_l1In.calls a1 0 (wrap64 ((l0.length : Int) - 1)) false _ A10.out).mono ?_); rintro e w' ⟨rfl, ⟨nd, rfl⟩⟩; (try first | exact ⟨rfl, _, World.drewN_drewN _ _ _⟩ | exact ⟨rfl, _, Eq.trans (World.drewN_drewN _ _ _) (congrArg (World.drewN _) (Nat.add_assoc _ _ _))⟩))); try go_wp2_with (first | (go_at_call 33; (with_reducible refine (spec_NodesOk.calls k _ _ l0 true _ ?side1 ?side2 A8.out).mono ?_); (case side1 => exact Kd.C_below HR0.out (bz2 HB.out GE280.out GE281.out)); (case side2 => exact HC0.out); rintro e w15 ⟨rfl, hb⟩; have n0_ := Aside0.mk (blk_below (g := gb280) (o := .cells #[.int .i64 0, .int .i64 0] 55 (0, 0)) (by (with_reducible repeat (first | refine blk_drewN ?_ _ | refine blk_drew ?_ | refine blk_alloc ?_ _)); refine blk_far ?_ NB280_281.out _; (with_reducible repeat (first | refine blk_drewN ?_ _ | refine blk_drew ?_ | refine blk_alloc ?_ _)); refine blk_far ?_ NB280_281.out _; (with_reducible repeat (first | refine blk_drewN ?_ _ | refine blk_drew ?_ | refine blk_alloc ?_ _)); exact BK280.out) hb); have n1_ := Aside0.mk (blk_below (g := gb281) (o := .cells #[.int .i64 (-1), .int .i64 (-1)] 55 (0, 0)) (by (with_reducible repeat (first | refine blk_drewN ?_ _ | refine blk_drew ?_ | refine blk_alloc ?_ _)); refine blk_put (cs := #[.int .i64 (-1), .int .i64 0]) ?_ 1 _ rfl; (with_reducible repeat (first | refine blk_drewN ?_ _ | refine blk_drew ?_ | refine blk_alloc ?_ _)); refine blk_put (cs := #[.int .i64 0, .int .i64 0]) ?_ 0 _ rfl; (with_reducible repeat (first | refine blk_drewN ?_ _ | refine blk_drew ?_ | refine blk_alloc ?_ _)); exact BK281.out) hb); have n2_ := Aside0.mk (below_step (bz2 HB.out GE280.out GE281.out) hb); clear BK280; clear BK281; clear HB; have BK280 := n0_; have BK281 := n1_; have HB := n2_; clear n0_ n1_ n2_; (try clear hb); (try clear hb2); (try clear hk); (try clear hi)) | (go_at_call 39; (with_reducible refine (spec_l1In.calls a1 0 (wrap64 ((l0.length : Int) - 1)) false _ A10.out).mono ?_); rintro e w' ⟨rfl, ⟨nd, rfl⟩⟩; (try first | exact ⟨rfl, _, World.drewN_drewN _ _ _⟩ | exact ⟨rfl, _, Eq.trans (World.drewN_drewN _ _ _) (congrArg (World.drewN _) (Nat.add_assoc _ _ _))⟩))))
    go_meet
    case rel => exact ⟨_, (true), ez, H', ⟨by first | omega | exact Nat.le_refl _⟩, ⟨by (with_reducible repeat (first | refine blk_drewN ?_ _ | refine blk_drew ?_ | refine blk_alloc ?_ _)); exact BK280.out⟩, ⟨by (with_reducible repeat (first | refine blk_drewN ?_ _ | refine blk_drew ?_ | refine blk_alloc ?_ _)); exact BK281.out⟩, ⟨(bz2 HB.out GE280.out GE281.out)⟩⟩
  ·replace c9 := Bool.eq_false_iff.mpr c9
   subst c9
   have H1 : (spec_BinderOf.j0 k l0 a1 true (-1) (-1)) = some (r1, r2) := by rw [if_neg (show ¬ (false = true) by decide)] at H; exact H
   clear H
   have H := H1
   clear H1
   have H' := Aside0.mk H
   clear H
   go_wp2_with (first | (go_at_call 33; (with_reducible refine (spec_NodesOk.calls k _ _ l0 false _ ?side1 ?side2 A8.out).mono ?_); (case side1 => exact Kd.C_below HR0.out (bz2 HB.out GE280.out GE281.out)); (case side2 => exact HC0.out); rintro e w16 ⟨rfl, hb⟩; have n0_ := Aside0.mk (blk_below (g := gb280) (o := .cells #[.int .i64 0, .int .i64 0] 55 (0, 0)) (by (with_reducible repeat (first | refine blk_drewN ?_ _ | refine blk_drew ?_ | refine blk_alloc ?_ _)); refine blk_far ?_ NB280_281.out _; (with_reducible repeat (first | refine blk_drewN ?_ _ | refine blk_drew ?_ | refine blk_alloc ?_ _)); refine blk_far ?_ NB280_281.out _; (with_reducible repeat (first | refine blk_drewN ?_ _ | refine blk_drew ?_ | refine blk_alloc ?_ _)); exact BK280.out) hb); have n1_ := Aside0.mk (blk_below (g := gb281) (o := .cells #[.int .i64 (-1), .int .i64 (-1)] 55 (0, 0)) (by (with_reducible repeat (first | refine blk_drewN ?_ _ | refine blk_drew ?_ | refine blk_alloc ?_ _)); refine blk_put (cs := #[.int .i64 (-1), .int .i64 0]) ?_ 1 _ rfl; (with_reducible repeat (first | refine blk_drewN ?_ _ | refine blk_drew ?_ | refine blk_alloc ?_ _)); refine blk_put (cs := #[.int .i64 0, .int .i64 0]) ?_ 0 _ rfl; (with_reducible repeat (first | refine blk_drewN ?_ _ | refine blk_drew ?_ | refine blk_alloc ?_ _)); exact BK281.out) hb); have n2_ := Aside0.mk (below_step (bz2 HB.out GE280.out GE281.out) hb); clear BK280; clear BK281; clear HB; have BK280 := n0_; have BK281 := n1_; have HB := n2_; clear n0_ n1_ n2_; (try clear hb); (try clear hb2); (try clear hk); (try clear hi)))
   repeat (go_quiet (first | (go_at_call 33; (with_reducible refine (spec_NodesOk.calls k _ _ l0 false _ ?side1 ?side2 A8.out).mono ?_); (case side1 => exact Kd.C_below HR0.out (bz2 HB.out GE280.out GE281.out)); (case side2 => exact HC0.out); rintro e w16 ⟨rfl, hb⟩; have n0_ := Aside0.mk (blk_below (g := gb280) (o := .cells #[.int .i64 0, .int .i64 0] 55 (0, 0)) (by (with_reducible repeat (first | refine blk_drewN ?_ _ | refine blk_drew ?_ | refine blk_alloc ?_ _)); refine blk_far ?_ NB280_281.out _; (with_reducible repeat (first | refine blk_drewN ?_ _ | refine blk_drew ?_ | refine blk_alloc ?_ _)); refine blk_far ?_ NB280_281.out _; (with_reducible repeat (first | refine blk_drewN ?_ _ | refine blk_drew ?_ | refine blk_alloc ?_ _)); exact BK280.out) hb); have n1_ := Aside0.mk (blk_below (g := gb281) (o := .cells #[.int .i64 (-1), .int .i64 (-1)] 55 (0, 0)) (by (with_reducible repeat (first | refine blk_drewN ?_ _ | refine blk_drew ?_ | refine blk_alloc ?_ _)); refine blk_put (cs := #[.int .i64 (-1), .int .i64 0]) ?_ 1 _ rfl; (with_reducible repeat (first | refine blk_drewN ?_ _ | refine blk_drew ?_ | refine blk_alloc ?_ _)); refine blk_put (cs := #[.int .i64 0, .int .i64 0]) ?_ 0 _ rfl; (with_reducible repeat (first | refine blk_drewN ?_ _ | refine blk_drew ?_ | refine blk_alloc ?_ _)); exact BK281.out) hb); have n2_ := Aside0.mk (below_step (bz2 HB.out GE280.out GE281.out) hb); clear BK280; clear BK281; clear HB; have BK280 := n0_; have BK281 := n1_; have HB := n2_; clear n0_ n1_ n2_; (try clear hb); (try clear hb2); (try clear hk); (try clear hi))); try go_wp2_with (first | (go_at_call 33; (with_reducible refine (spec_NodesOk.calls k _ _ l0 false _ ?side1 ?side2 A8.out).mono ?_); (case side1 => exact Kd.C_below HR0.out (bz2 HB.out GE280.out GE281.out)); (case side2 => exact HC0.out); rintro e w16 ⟨rfl, hb⟩; have n0_ := Aside0.mk (blk_below (g := gb280) (o := .cells #[.int .i64 0, .int .i64 0] 55 (0, 0)) (by (with_reducible repeat (first | refine blk_drewN ?_ _ | refine blk_drew ?_ | refine blk_alloc ?_ _)); refine blk_far ?_ NB280_281.out _; (with_reducible repeat (first | refine blk_drewN ?_ _ | refine blk_drew ?_ | refine blk_alloc ?_ _)); refine blk_far ?_ NB280_281.out _; (with_reducible repeat (first | refine blk_drewN ?_ _ | refine blk_drew ?_ | refine blk_alloc ?_ _)); exact BK280.out) hb); have n1_ := Aside0.mk (blk_below (g := gb281) (o := .cells #[.int .i64 (-1), .int .i64 (-1)] 55 (0, 0)) (by (with_reducible repeat (first | refine blk_drewN ?_ _ | refine blk_drew ?_ | refine blk_alloc ?_ _)); refine blk_put (cs := #[.int .i64 (-1), .int .i64 0]) ?_ 1 _ rfl; (with_reducible repeat (first | refine blk_drewN ?_ _ | refine blk_drew ?_ | refine blk_alloc ?_ _)); refine blk_put (cs := #[.int .i64 0, .int .i64 0]) ?_ 0 _ rfl; (with_reducible repeat (first | refine blk_drewN ?_ _ | refine blk_drew ?_ | refine blk_alloc ?_ _)); exact BK281.out) hb); have n2_ := Aside0.mk (below_step (bz2 HB.out GE280.out GE281.out) hb); clear BK280; clear BK281; clear HB; have BK280 := n0_; have BK281 := n1_; have HB := n2_; clear n0_ n1_ n2_; (try clear hb); (try clear hb2); (try clear hk); (try clear hi))))
   go_meet
   case rel => exact ⟨_, (true), ez, H', ⟨by first | omega | exact Nat.le_refl _⟩, ⟨by (with_reducible repeat (first | refine blk_drewN ?_ _ | refine blk_drew ?_ | refine blk_alloc ?_ _)); exact BK280.out⟩, ⟨by (with_reducible repeat (first | refine blk_drewN ?_ _ | refine blk_drew ?_ | refine blk_alloc ?_ _)); exact BK281.out⟩, ⟨(bz2 HB.out GE280.out GE281.out)⟩⟩
 case rest =>
  clear HC3
  try clear c1
  try clear p2
  try clear q2
  try clear hx2
  try clear c4
  try clear c6
  try clear p6
  try clear c9
  try clear c11
  try clear c12
  try clear c12b0
  try clear c13
  try clear c13b0
  try clear hcz7_0
  try clear hcz7_1
  try clear hfz7_0
  try clear hfz7_1
  try clear hx284_0
  try clear hx284_1
  try clear hx284_2
  try clear hx284_3
  try clear hx284_4
  try clear hx284_5
  try clear hx284_6
  try clear p284
  try clear q284
  obtain ⟨kq, x30_2, rfl, HA, HJ2, BK280, BK281, HB⟩ := hcut
  cases kq with
  | zero => exact absurd HA.out (by simp [spec_BinderOf.j0])
  | succ kj2 =>
   have H := HA.out
   clear HA
   simp only [spec_BinderOf.j0] at H
   by_cases c17 : x30_2 = true
   ·subst c17
    have H1 : (some ((-1), (-1))) = some (r1, r2) := by rw [if_pos rfl] at H; exact H
    clear H
    have H := H1
    clear H1
    simp only [Option.some.injEq, Prod.mk.injEq] at H
    obtain ⟨rfl, rfl⟩ := H
    have hnb18 := NB281_280.out
    have hnc18 := NB280_281.out
    have hcz19_0 : wc.cell? ⟨gb281, 0, none⟩ = some (.int .i64 (-1)) := (blk_cell BK281.out 0).trans rfl
    have hcz19_1 : wc.cell? ⟨gb281, 1, none⟩ = some (.int .i64 (-1)) := (blk_cell BK281.out 1).trans rfl
    have hfz19_0 := blk_frozen BK281.out 0
    have hfz19_1 := blk_frozen BK281.out 1
    have hcz20_0 : wc.cell? ⟨gb280, 0, none⟩ = some (.int .i64 0) := (blk_cell BK280.out 0).trans rfl
    have hcz20_1 : wc.cell? ⟨gb280, 1, none⟩ = some (.int .i64 0) := (blk_cell BK280.out 1).trans rfl
    have hfz20_0 := blk_frozen BK280.out 0
    have hfz20_1 := blk_frozen BK280.out 1
    go_wp2
    repeat (go_quiet (fail); try go_wp2)
    refine bodyPost_ret (results_cell_row rfl _ _ gb280 55 #[.int .i64 (-1), .int .i64 (-1)] (0, 0) _ rfl (by (with_reducible repeat (first | refine blk_drewN ?_ _ | refine blk_drew ?_ | refine blk_alloc ?_ _)); refine blk_put (cs := #[.int .i64 (-1), .int .i64 0]) ?_ 1 _ rfl; (with_reducible repeat (first | refine blk_drewN ?_ _ | refine blk_drew ?_ | refine blk_alloc ?_ _)); refine blk_put (cs := #[.int .i64 0, .int .i64 0]) ?_ 0 _ rfl; (with_reducible repeat (first | refine blk_drewN ?_ _ | refine blk_drew ?_ | refine blk_alloc ?_ _)); exact BK280.out) Tryd.underlying55 rfl (by kernel_rfl)) rfl ?_
    exact ⟨gz, (bz2 HB.out GE280.out GE281.out)⟩
   ·replace c17 := Bool.eq_false_iff.mpr c17
    subst c17
    have H1 : ((spec_ParentOf.f kj2 l0 a1).bind fun t285 => (spec_BinderOf.l0 kj2 l0 a1 a1 t285 (-1) (-1))) = some (r1, r2) := by rw [if_neg (show ¬ (false = true) by decide)] at H; exact H
    clear H
    have H := H1
    clear H1
    replace H := Option.bind_eq_some_iff.mp H
    obtain ⟨t285, A210, H⟩ := H
    replace H : (spec_BinderOf.l0 kj2 l0 a1 a1 t285 (-1) (-1)) = some (r1, r2) := H
    have A21 := Aside0.mk A210
    clear A210
    have H' := Aside0.mk H
    clear H
    go_wp2_with (first | (go_at_call 41; (with_reducible refine (spec_ParentOf.calls kj2 _ _ l0 a1 t285 _ ?side1 ?side2 A21.out).mono ?_); (case side1 => exact cz (Kd.C_below HR0.out HB.out)); (case side2 => exact HC0.out); rintro e w22 ⟨rfl, hb⟩; have n0_ := Aside0.mk (blk_below (g := gb280) (o := .cells #[.int .i64 0, .int .i64 0] 55 (0, 0)) (kz BK280.out) hb); have n1_ := Aside0.mk (blk_below (g := gb281) (o := .cells #[.int .i64 (-1), .int .i64 (-1)] 55 (0, 0)) (kz BK281.out) hb); have n2_ := Aside0.mk (below_step (bz2 HB.out GE280.out GE281.out) hb); clear BK280; clear BK281; clear HB; have BK280 := n0_; have BK281 := n1_; have HB := n2_; clear n0_ n1_ n2_; (try clear hb); (try clear hb2); (try clear hk); (try clear hi)))
    repeat (go_quiet (first | (go_at_call 41; (with_reducible refine (spec_ParentOf.calls kj2 _ _ l0 a1 t285 _ ?side1 ?side2 A21.out).mono ?_); (case side1 => exact cz (Kd.C_below HR0.out HB.out)); (case side2 => exact HC0.out); rintro e w22 ⟨rfl, hb⟩; have n0_ := Aside0.mk (blk_below (g := gb280) (o := .cells #[.int .i64 0, .int .i64 0] 55 (0, 0)) (kz BK280.out) hb); have n1_ := Aside0.mk (blk_below (g := gb281) (o := .cells #[.int .i64 (-1), .int .i64 (-1)] 55 (0, 0)) (kz BK281.out) hb); have n2_ := Aside0.mk (below_step (bz2 HB.out GE280.out GE281.out) hb); clear BK280; clear BK281; clear HB; have BK280 := n0_; have BK281 := n1_; have HB := n2_; clear n0_ n1_ n2_; (try clear hb); (try clear hb2); (try clear hk); (try clear hi))); try go_wp2_with (first | (go_at_call 41; (with_reducible refine (spec_ParentOf.calls kj2 _ _ l0 a1 t285 _ ?side1 ?side2 A21.out).mono ?_); (case side1 => exact cz (Kd.C_below HR0.out HB.out)); (case side2 => exact HC0.out); rintro e w22 ⟨rfl, hb⟩; have n0_ := Aside0.mk (blk_below (g := gb280) (o := .cells #[.int .i64 0, .int .i64 0] 55 (0, 0)) (kz BK280.out) hb); have n1_ := Aside0.mk (blk_below (g := gb281) (o := .cells #[.int .i64 (-1), .int .i64 (-1)] 55 (0, 0)) (kz BK281.out) hb); have n2_ := Aside0.mk (below_step (bz2 HB.out GE280.out GE281.out) hb); clear BK280; clear BK281; clear HB; have BK280 := n0_; have BK281 := n1_; have HB := n2_; clear n0_ n1_ n2_; (try clear hb); (try clear hb2); (try clear hk); (try clear hi))))
    go_loopg [6, 7] kj2 (fun kq v6 v7 w' => ∃ (x6_2 : Int) (x7_2 : Int) (x281000_2 : Int) (x281001_2 : Int), v6 = .int .i64 x6_2 ∧ v7 = .int .i64 x7_2 ∧ Aside0 (spec_BinderOf.l0 kq l0 a1 x6_2 x7_2 (-1) (-1) = some (r1, r2)) ∧ Aside0 (kq ≤ kj2) ∧ Aside0 (w'.heap[gb280]? = some (.cells #[.int .i64 x281000_2, .int .i64 x281001_2] 55 (0, 0))) ∧ Aside0 (w'.heap[gb281]? = some (.cells #[.int .i64 (-1), .int .i64 (-1)] 55 (0, 0))) ∧ Aside0 (Below w.heap.size w w'))
    case atStart => exact ⟨(a1), (t285), (0), (0), ez, ez, H', ⟨Nat.le_refl _⟩, ⟨by (with_reducible repeat (first | refine blk_drewN ?_ _ | refine blk_drew ?_ | refine blk_alloc ?_ _)); exact BK280.out⟩, ⟨by (with_reducible repeat (first | refine blk_drewN ?_ _ | refine blk_drew ?_ | refine blk_alloc ?_ _)); exact BK281.out⟩, ⟨(bz2 HB.out GE280.out GE281.out)⟩⟩
    case round =>
     clear H'
     try clear c1
     try clear p2
     try clear q2
     try clear hx2
     try clear c4
     try clear c6
     try clear p6
     try clear c9
     try clear c11
     try clear c12
     try clear c12b0
     try clear c13
     try clear c13b0
     try clear c17
     try clear c18
     try clear hcz19_0
     try clear hcz19_1
     try clear hcz20_0
     try clear hcz20_1
     try clear hcz7_0
     try clear hcz7_1
     try clear hfz19_0
     try clear hfz19_1
     try clear hfz20_0
     try clear hfz20_1
     try clear hfz7_0
     try clear hfz7_1
     try clear hx284_0
     try clear hx284_1
     try clear hx284_2
     try clear hx284_3
     try clear hx284_4
     try clear hx284_5
     try clear hx284_6
     try clear p2
     try clear p284
     try clear p6
     try clear q2
     try clear q284
     obtain ⟨x6_2, x7_2, x281000_2, x281001_2, rfl, rfl, HA, HK2, BK280, BK281, HB⟩ := hrel
     cases gk with
     | zero => exact absurd HA.out (by simp [spec_BinderOf.l0])
     | succ k2 =>
      have H := HA.out
      clear HA
      simp only [spec_BinderOf.l0] at H
      by_cases c23 : x7_2 ≥ 0
      ·rw [if_pos c23] at H
       have c23b0 : decide (0 ≤ x7_2) = true := decide_eq_true c23
       clear c23
       by_cases c24 : 0 ≤ x7_2
       ·rw [if_pos c24] at H
        have c24b0 : decide (0 ≤ x7_2) = true := decide_eq_true c24
        clear c24
        by_cases c25 : x7_2 < (l0.length : Int)
        ·rw [if_pos c25] at H
         have c25b0 : decide (x7_2 < (l0.length : Int)) = true := decide_eq_true c25
         clear c25
         replace H := Option.bind_eq_some_iff.mp H
         obtain ⟨⟨t287, t290⟩, A260, H⟩ := H
         replace H : (spec_BinderOf.l1 k2 l0 a1 x7_2 t287 t290 0 (-1) (-1)) = some (r1, r2) := H
         have A26 := Aside0.mk A260
         clear A260
         have H' := Aside0.mk H
         clear H
         have p286 : 0 ≤ (x7_2 : Int) := of_decide_eq_true az
         have q286 : x7_2 < (l0.length : Int) := of_decide_eq_true az
         obtain ⟨ad286, e286, hx286_0, hx286_1, hx286_2, hx286_3, hx286_4, hx286_5, hx286_6⟩ := at_T43 HR0.out x7_2 p286 q286
         cases e286
         replace hx286_0 := hz HB.out hx286_0
         replace hx286_1 := hz HB.out hx286_1
         replace hx286_2 := hz HB.out hx286_2
         replace hx286_3 := hz HB.out hx286_3
         replace hx286_4 := hz HB.out hx286_4
         replace hx286_5 := hz HB.out hx286_5
         replace hx286_6 := hz HB.out hx286_6
         replace p286 := eq_true p286
         replace q286 := eq_true q286
         go_wp2_with (first | (go_at_call 42; (with_reducible refine (spec_l6Bound.calls k2 ((rd_T43 l0 x7_2).f0) ((rd_T43 l0 x7_2).f1) ((rd_T43 l0 x7_2).f2) ((rd_T43 l0 x7_2).f3) ((rd_T43 l0 x7_2).f4) ((rd_T43 l0 x7_2).f5) ((rd_T43 l0 x7_2).f6) x6_2 t287 t290 _ A26.out).mono ?_); rintro e w27 ⟨v288, v291, rfl, ho0, ho1, hb⟩; have n0_ := Aside0.mk (Kd.R_lower ho0 (below_size (bz2 HB.out GE280.out GE281.out))); have n1_ := Aside0.mk (Kd.R_lower ho1 (below_size (bz2 HB.out GE280.out GE281.out))); have n2_ := Aside0.mk (blk_below (g := gb280) (o := .cells #[.int .i64 x281000_2, .int .i64 x281001_2] 55 (0, 0)) (kz BK280.out) hb); have n3_ := Aside0.mk (blk_below (g := gb281) (o := .cells #[.int .i64 (-1), .int .i64 (-1)] 55 (0, 0)) (kz BK281.out) hb); have n4_ := Aside0.mk (below_step (bz2 HB.out GE280.out GE281.out) hb); clear BK280; clear BK281; clear HB; have HO289 := n0_; have HO292 := n1_; have BK280 := n2_; have BK281 := n3_; have HB := n4_; clear n0_ n1_ n2_ n3_ n4_; (try clear hb); (try clear hb2); (try clear hk); (try clear hi); (try clear ho0); (try clear ho1)))
         repeat (go_quiet (first | (go_at_call 42; (with_reducible refine (spec_l6Bound.calls k2 ((rd_T43 l0 x7_2).f0) ((rd_T43 l0 x7_2).f1) ((rd_T43 l0 x7_2).f2) ((rd_T43 l0 x7_2).f3) ((rd_T43 l0 x7_2).f4) ((rd_T43 l0 x7_2).f5) ((rd_T43 l0 x7_2).f6) x6_2 t287 t290 _ A26.out).mono ?_); rintro e w27 ⟨v288, v291, rfl, ho0, ho1, hb⟩; have n0_ := Aside0.mk (Kd.R_lower ho0 (below_size (bz2 HB.out GE280.out GE281.out))); have n1_ := Aside0.mk (Kd.R_lower ho1 (below_size (bz2 HB.out GE280.out GE281.out))); have n2_ := Aside0.mk (blk_below (g := gb280) (o := .cells #[.int .i64 x281000_2, .int .i64 x281001_2] 55 (0, 0)) (kz BK280.out) hb); have n3_ := Aside0.mk (blk_below (g := gb281) (o := .cells #[.int .i64 (-1), .int .i64 (-1)] 55 (0, 0)) (kz BK281.out) hb); have n4_ := Aside0.mk (below_step (bz2 HB.out GE280.out GE281.out) hb); clear BK280; clear BK281; clear HB; have HO289 := n0_; have HO292 := n1_; have BK280 := n2_; have BK281 := n3_; have HB := n4_; clear n0_ n1_ n2_ n3_ n4_; (try clear hb); (try clear hb2); (try clear hk); (try clear hi); (try clear ho0); (try clear ho1))); try go_wp2_with (first | (go_at_call 42; (with_reducible refine (spec_l6Bound.calls k2 ((rd_T43 l0 x7_2).f0) ((rd_T43 l0 x7_2).f1) ((rd_T43 l0 x7_2).f2) ((rd_T43 l0 x7_2).f3) ((rd_T43 l0 x7_2).f4) ((rd_T43 l0 x7_2).f5) ((rd_T43 l0 x7_2).f6) x6_2 t287 t290 _ A26.out).mono ?_); rintro e w27 ⟨v288, v291, rfl, ho0, ho1, hb⟩; have n0_ := Aside0.mk (Kd.R_lower ho0 (below_size (bz2 HB.out GE280.out GE281.out))); have n1_ := Aside0.mk (Kd.R_lower ho1 (below_size (bz2 HB.out GE280.out GE281.out))); have n2_ := Aside0.mk (blk_below (g := gb280) (o := .cells #[.int .i64 x281000_2, .int .i64 x281001_2] 55 (0, 0)) (kz BK280.out) hb); have n3_ := Aside0.mk (blk_below (g := gb281) (o := .cells #[.int .i64 (-1), .int .i64 (-1)] 55 (0, 0)) (kz BK281.out) hb); have n4_ := Aside0.mk (below_step (bz2 HB.out GE280.out GE281.out) hb); clear BK280; clear BK281; clear HB; have HO289 := n0_; have HO292 := n1_; have BK280 := n2_; have BK281 := n3_; have HB := n4_; clear n0_ n1_ n2_ n3_ n4_; (try clear hb); (try clear hb2); (try clear hk); (try clear hi); (try clear ho0); (try clear ho1))))
         go_loopg [10] k2 (fun kq v10 w' => ∃ (x10_3 : Int) (x281000_3 : Int) (x281001_3 : Int), v10 = .int .i64 x10_3 ∧ Aside0 (spec_BinderOf.l1 kq l0 a1 x7_2 t287 t290 x10_3 (-1) (-1) = some (r1, r2)) ∧ Aside0 (kq ≤ k2) ∧ Aside0 (Kd.R Kd.string 9 w' w.heap.size (fun _ => True) v288 t287) ∧ Aside0 (Kd.R (Kd.int .i64) 3 w' w.heap.size (fun _ => True) v291 t290) ∧ Aside0 (w'.heap[gb280]? = some (.cells #[.int .i64 x281000_3, .int .i64 x281001_3] 55 (0, 0))) ∧ Aside0 (w'.heap[gb281]? = some (.cells #[.int .i64 (-1), .int .i64 (-1)] 55 (0, 0))) ∧ Aside0 (Below w.heap.size w w'))
         case atStart => exact ⟨(0), (x281000_2), (x281001_2), ez, H', ⟨Nat.le_refl _⟩, ⟨by (with_reducible repeat (first | apply Kd.R_alloc | apply Kd.R_drewN | apply Kd.R_drew)); exact HO289.out⟩, ⟨by (with_reducible repeat (first | apply Kd.R_alloc | apply Kd.R_drewN | apply Kd.R_drew)); exact HO292.out⟩, ⟨by (with_reducible repeat (first | refine blk_drewN ?_ _ | refine blk_drew ?_ | refine blk_alloc ?_ _)); exact BK280.out⟩, ⟨by (with_reducible repeat (first | refine blk_drewN ?_ _ | refine blk_drew ?_ | refine blk_alloc ?_ _)); exact BK281.out⟩, ⟨(bz2 HB.out GE280.out GE281.out)⟩⟩
         case round =>
          clear H'
          try clear c1
          try clear c2
          try clear p2
          try clear q2
          try clear hx2
          try clear c4
          try clear c6
          try clear p6
          try clear c9
          try clear c11
          try clear c12
          try clear c12b0
          try clear c13
          try clear c13b0
          try clear c17
          try clear c18
          try clear c23
          try clear c23b0
          try clear c24
          try clear c24b0
          try clear c25
          try clear c25b0
          try clear hcz19_0
          try clear hcz19_1
          try clear hcz20_0
          try clear hcz20_1
          try clear hcz7_0
          try clear hcz7_1
          try clear hfz19_0
          try clear hfz19_1
          try clear hfz20_0
          try clear hfz20_1
          try clear hfz7_0
          try clear hfz7_1
          try clear hx284_0
          try clear hx284_1
          try clear hx284_2
          try clear hx284_3
          try clear hx284_4
          try clear hx284_5
          try clear hx284_6
          try clear hx286_0
          try clear hx286_1
          try clear hx286_2
          try clear hx286_3
          try clear hx286_4
          try clear hx286_5
          try clear hx286_6
          try clear p2
          try clear p284
          try clear p286
          try clear p6
          try clear q2
          try clear q284
          try clear q286
          obtain ⟨x10_3, x281000_3, x281001_3, rfl, HA, HK3, HO_8, HO_9, BK280, BK281, HB⟩ := hrel
          cases gk with
          | zero => exact absurd HA.out (by simp [spec_BinderOf.l1])
          | succ k3 =>
           have H := HA.out
           clear HA
           simp only [spec_BinderOf.l1] at H
           by_cases c28 : x10_3 < (t287.length : Int)
           ·rw [if_pos c28] at H
            have c28b0 : decide (x10_3 < (t287.length : Int)) = true := decide_eq_true c28
            clear c28
            by_cases c29 : 0 ≤ x10_3
            ·rw [if_pos c29] at H
             have c29b0 : decide (0 ≤ x10_3) = true := decide_eq_true c29
             clear c29
             by_cases c30 : 0 ≤ a1
             ·rw [if_pos c30] at H
              have c30b0 : decide (0 ≤ a1) = true := decide_eq_true c30
              clear c30
              by_cases c31 : a1 < (l0.length : Int)
              ·rw [if_pos c31] at H
               have c31b0 : decide (a1 < (l0.length : Int)) = true := decide_eq_true c31
               clear c31
               by_cases c32 : (rdOf ByteArray.empty t287 x10_3).toList = ((rd_T43 l0 a1).f5).toList
               ·rw [if_pos c32] at H
                have c32b0 : ((rdOf ByteArray.empty t287 x10_3).toList == ((rd_T43 l0 a1).f5).toList) = true := beq_iff_eq.mpr c32
                have c32b1 : ((rdOf ByteArray.empty t287 x10_3).toList != ((rd_T43 l0 a1).f5).toList) = false := bne_eq_false_iff_eq.mpr c32
                clear c32
                by_cases c33 : x10_3 < (t290.length : Int)
                ·rw [if_pos c33] at H
                 have c33b0 : decide (x10_3 < (t290.length : Int)) = true := decide_eq_true c33
                 clear c33
                 simp only [Option.some.injEq, Prod.mk.injEq] at H
                 obtain ⟨rfl, rfl⟩ := H
                 obtain ⟨Ao34, co34, eo34⟩ := Kd.R_slice HO_8.out
                 subst eo34
                 have p293 : 0 ≤ (x10_3 : Int) := of_decide_eq_true az
                 have q293 : x10_3 < (t287.length : Int) := of_decide_eq_true az
                 obtain ⟨ad293, e293, hx293_0⟩ := Kd.at_string (Kd.R_reads' HO_8.out).2.2 x10_3 p293 q293
                 cases e293
                 replace p293 := eq_true p293
                 replace q293 := eq_true q293
                 have p294 : 0 ≤ (a1 : Int) := of_decide_eq_true az
                 have q294 : a1 < (l0.length : Int) := of_decide_eq_true az
                 obtain ⟨ad294, e294, hx294_0, hx294_1, hx294_2, hx294_3, hx294_4, hx294_5, hx294_6⟩ := at_T43 HR0.out a1 p294 q294
                 obtain rfl : ad286 = ad294 := (by injection e294)
                 replace hx294_0 := hz HB.out hx294_0
                 replace hx294_1 := hz HB.out hx294_1
                 replace hx294_2 := hz HB.out hx294_2
                 replace hx294_3 := hz HB.out hx294_3
                 replace hx294_4 := hz HB.out hx294_4
                 replace hx294_5 := hz HB.out hx294_5
                 replace hx294_6 := hz HB.out hx294_6
                 replace p294 := eq_true p294
                 replace q294 := eq_true q294
                 obtain ⟨Ao35, co35, eo35⟩ := Kd.R_slice HO_9.out
                 subst eo35
                 have p295 : 0 ≤ (x10_3 : Int) := of_decide_eq_true az
                 have q295 : x10_3 < (t290.length : Int) := of_decide_eq_true az
                 obtain ⟨ad295, e295, hx295_0⟩ := Kd.at_int (Kd.R_reads' HO_9.out).2.2 x10_3 p295 q295
                 cases e295
                 replace p295 := eq_true p295
                 replace q295 := eq_true q295
                 have hnb36 := NB280_281.out
                 have hnc36 := NB281_280.out
                 have hcz37_0 : wr.cell? ⟨gb280, 0, none⟩ = some (.int .i64 x281000_3) := (blk_cell BK280.out 0).trans rfl
                 have hcz37_1 : wr.cell? ⟨gb280, 1, none⟩ = some (.int .i64 x281001_3) := (blk_cell BK280.out 1).trans rfl
                 have hfz37_0 := blk_frozen BK280.out 0
                 have hfz37_1 := blk_frozen BK280.out 1
                 go_wp2
                 repeat (go_quiet (fail); try go_wp2)
                 refine bodyPost_ret (results_cell_row rfl _ _ gb280 55 #[.int .i64 x7_2, .int .i64 (rd t290 x10_3)] (0, 0) _ rfl (by (with_reducible repeat (first | refine blk_drewN ?_ _ | refine blk_drew ?_ | refine blk_alloc ?_ _)); refine blk_put (cs := #[.int .i64 x7_2, .int .i64 x281001_3]) ?_ 1 _ rfl; (with_reducible repeat (first | refine blk_drewN ?_ _ | refine blk_drew ?_ | refine blk_alloc ?_ _)); refine blk_put (cs := #[.int .i64 x281000_3, .int .i64 x281001_3]) ?_ 0 _ rfl; (with_reducible repeat (first | refine blk_drewN ?_ _ | refine blk_drew ?_ | refine blk_alloc ?_ _)); exact BK280.out) Tryd.underlying55 rfl (by kernel_rfl)) rfl ?_
                 exact ⟨gz, (bz2 HB.out GE280.out GE281.out)⟩
                ·rw [if_neg c33] at H
                 exact absurd H (by simp)
               ·rw [if_neg c32] at H
                have c32b0 : ((rdOf ByteArray.empty t287 x10_3).toList == ((rd_T43 l0 a1).f5).toList) = false := beq_eq_false_iff_ne.mpr c32
                have c32b1 : ((rdOf ByteArray.empty t287 x10_3).toList != ((rd_T43 l0 a1).f5).toList) = true := bne_iff_ne.mpr c32
                have H' := Aside0.mk H
                clear H
                obtain ⟨Ao38, co38, eo38⟩ := Kd.R_slice HO_8.out
                subst eo38
                have p293 : 0 ≤ (x10_3 : Int) := of_decide_eq_true az
                have q293 : x10_3 < (t287.length : Int) := of_decide_eq_true az
                obtain ⟨ad293, e293, hx293_0⟩ := Kd.at_string (Kd.R_reads' HO_8.out).2.2 x10_3 p293 q293
                cases e293
                replace p293 := eq_true p293
                replace q293 := eq_true q293
                have p294 : 0 ≤ (a1 : Int) := of_decide_eq_true az
                have q294 : a1 < (l0.length : Int) := of_decide_eq_true az
                obtain ⟨ad294, e294, hx294_0, hx294_1, hx294_2, hx294_3, hx294_4, hx294_5, hx294_6⟩ := at_T43 HR0.out a1 p294 q294
                obtain rfl : ad286 = ad294 := (by injection e294)
                replace hx294_0 := hz HB.out hx294_0
                replace hx294_1 := hz HB.out hx294_1
                replace hx294_2 := hz HB.out hx294_2
                replace hx294_3 := hz HB.out hx294_3
                replace hx294_4 := hz HB.out hx294_4
                replace hx294_5 := hz HB.out hx294_5
                replace hx294_6 := hz HB.out hx294_6
                replace p294 := eq_true p294
                replace q294 := eq_true q294
                go_wp2
                repeat (go_quiet (fail); try go_wp2)
                go_roundg k3
                case measure => have := HJ2.out; have := HK2.out; have := HK3.out; omega
                case rel => exact ⟨(wrap64 (x10_3 + 1)), (x281000_3), (x281001_3), ez, H', ⟨by have := HJ2.out; have := HK2.out; have := HK3.out; omega⟩, ⟨by (with_reducible repeat (first | apply Kd.R_alloc | apply Kd.R_drewN | apply Kd.R_drew)); exact HO_8.out⟩, ⟨by (with_reducible repeat (first | apply Kd.R_alloc | apply Kd.R_drewN | apply Kd.R_drew)); exact HO_9.out⟩, ⟨by (with_reducible repeat (first | refine blk_drewN ?_ _ | refine blk_drew ?_ | refine blk_alloc ?_ _)); exact BK280.out⟩, ⟨by (with_reducible repeat (first | refine blk_drewN ?_ _ | refine blk_drew ?_ | refine blk_alloc ?_ _)); exact BK281.out⟩, ⟨(bz2 HB.out GE280.out GE281.out)⟩⟩
              ·rw [if_neg c31] at H
               exact absurd H (by simp)
             ·rw [if_neg c30] at H
              exact absurd H (by simp)
            ·rw [if_neg c29] at H
             exact absurd H (by simp)
           ·rw [if_neg c28] at H
            have c28b0 : decide (x10_3 < (t287.length : Int)) = false := decide_eq_false c28
            clear c28
            replace H := Option.bind_eq_some_iff.mp H
            obtain ⟨t296, A390, H⟩ := H
            replace H : (spec_BinderOf.l0 k3 l0 a1 x7_2 t296 (-1) (-1)) = some (r1, r2) := H
            have A39 := Aside0.mk A390
            clear A390
            have H' := Aside0.mk H
            clear H
            obtain ⟨Ao40, co40, eo40⟩ := Kd.R_slice HO_8.out
            subst eo40
            go_wp2_with (first | (go_at_call 41; (with_reducible refine (spec_ParentOf.calls k3 _ _ l0 x7_2 t296 _ ?side1 ?side2 A39.out).mono ?_); (case side1 => exact cz (Kd.C_below HR0.out HB.out)); (case side2 => exact HC0.out); rintro e w41 ⟨rfl, hb⟩; have n0_ := Aside0.mk (Kd.R_below (rz HO_8.out) hb); have n1_ := Aside0.mk (Kd.R_below (rz HO_9.out) hb); have n2_ := Aside0.mk (blk_below (g := gb280) (o := .cells #[.int .i64 x281000_3, .int .i64 x281001_3] 55 (0, 0)) (kz BK280.out) hb); have n3_ := Aside0.mk (blk_below (g := gb281) (o := .cells #[.int .i64 (-1), .int .i64 (-1)] 55 (0, 0)) (kz BK281.out) hb); have n4_ := Aside0.mk (below_step (bz2 HB.out GE280.out GE281.out) hb); clear HO_8; clear HO_9; clear BK280; clear BK281; clear HB; have HO_8 := n0_; have HO_9 := n1_; have BK280 := n2_; have BK281 := n3_; have HB := n4_; clear n0_ n1_ n2_ n3_ n4_; (try clear hb); (try clear hb2); (try clear hk); (try clear hi)))
            repeat (go_quiet (first | (go_at_call 41; (with_reducible refine (spec_ParentOf.calls k3 _ _ l0 x7_2 t296 _ ?side1 ?side2 A39.out).mono ?_); (case side1 => exact cz (Kd.C_below HR0.out HB.out)); (case side2 => exact HC0.out); rintro e w41 ⟨rfl, hb⟩; have n0_ := Aside0.mk (Kd.R_below (rz HO_8.out) hb); have n1_ := Aside0.mk (Kd.R_below (rz HO_9.out) hb); have n2_ := Aside0.mk (blk_below (g := gb280) (o := .cells #[.int .i64 x281000_3, .int .i64 x281001_3] 55 (0, 0)) (kz BK280.out) hb); have n3_ := Aside0.mk (blk_below (g := gb281) (o := .cells #[.int .i64 (-1), .int .i64 (-1)] 55 (0, 0)) (kz BK281.out) hb); have n4_ := Aside0.mk (below_step (bz2 HB.out GE280.out GE281.out) hb); clear HO_8; clear HO_9; clear BK280; clear BK281; clear HB; have HO_8 := n0_; have HO_9 := n1_; have BK280 := n2_; have BK281 := n3_; have HB := n4_; clear n0_ n1_ n2_ n3_ n4_; (try clear hb); (try clear hb2); (try clear hk); (try clear hi))); try go_wp2_with (first | (go_at_call 41; (with_reducible refine (spec_ParentOf.calls k3 _ _ l0 x7_2 t296 _ ?side1 ?side2 A39.out).mono ?_); (case side1 => exact cz (Kd.C_below HR0.out HB.out)); (case side2 => exact HC0.out); rintro e w41 ⟨rfl, hb⟩; have n0_ := Aside0.mk (Kd.R_below (rz HO_8.out) hb); have n1_ := Aside0.mk (Kd.R_below (rz HO_9.out) hb); have n2_ := Aside0.mk (blk_below (g := gb280) (o := .cells #[.int .i64 x281000_3, .int .i64 x281001_3] 55 (0, 0)) (kz BK280.out) hb); have n3_ := Aside0.mk (blk_below (g := gb281) (o := .cells #[.int .i64 (-1), .int .i64 (-1)] 55 (0, 0)) (kz BK281.out) hb); have n4_ := Aside0.mk (below_step (bz2 HB.out GE280.out GE281.out) hb); clear HO_8; clear HO_9; clear BK280; clear BK281; clear HB; have HO_8 := n0_; have HO_9 := n1_; have BK280 := n2_; have BK281 := n3_; have HB := n4_; clear n0_ n1_ n2_ n3_ n4_; (try clear hb); (try clear hb2); (try clear hk); (try clear hi))))
            go_roundg k3
            case measure => have := HJ2.out; have := HK2.out; have := HK3.out; omega
            case rel => exact ⟨(x7_2), (t296), (x281000_3), (x281001_3), ez, ez, H', ⟨by have := HJ2.out; have := HK2.out; have := HK3.out; omega⟩, ⟨by (with_reducible repeat (first | refine blk_drewN ?_ _ | refine blk_drew ?_ | refine blk_alloc ?_ _)); exact BK280.out⟩, ⟨by (with_reducible repeat (first | refine blk_drewN ?_ _ | refine blk_drew ?_ | refine blk_alloc ?_ _)); exact BK281.out⟩, ⟨(bz2 HB.out GE280.out GE281.out)⟩⟩
        ·rw [if_neg c25] at H
         exact absurd H (by simp)
       ·rw [if_neg c24] at H
        exact absurd H (by simp)
      ·rw [if_neg c23] at H
       have c23b0 : decide (0 ≤ x7_2) = false := decide_eq_false c23
       clear c23
       simp only [Option.some.injEq, Prod.mk.injEq] at H
       obtain ⟨rfl, rfl⟩ := H
       have hnb42 := NB281_280.out
       have hnc42 := NB280_281.out
       have hcz43_0 : wr.cell? ⟨gb281, 0, none⟩ = some (.int .i64 (-1)) := (blk_cell BK281.out 0).trans rfl
       have hcz43_1 : wr.cell? ⟨gb281, 1, none⟩ = some (.int .i64 (-1)) := (blk_cell BK281.out 1).trans rfl
       have hfz43_0 := blk_frozen BK281.out 0
       have hfz43_1 := blk_frozen BK281.out 1
       have hcz44_0 : wr.cell? ⟨gb280, 0, none⟩ = some (.int .i64 x281000_2) := (blk_cell BK280.out 0).trans rfl
       have hcz44_1 : wr.cell? ⟨gb280, 1, none⟩ = some (.int .i64 x281001_2) := (blk_cell BK280.out 1).trans rfl
       have hfz44_0 := blk_frozen BK280.out 0
       have hfz44_1 := blk_frozen BK280.out 1
       go_wp2
       repeat (go_quiet (fail); try go_wp2)
       refine bodyPost_ret (results_cell_row rfl _ _ gb280 55 #[.int .i64 (-1), .int .i64 (-1)] (0, 0) _ rfl (by (with_reducible repeat (first | refine blk_drewN ?_ _ | refine blk_drew ?_ | refine blk_alloc ?_ _)); refine blk_put (cs := #[.int .i64 (-1), .int .i64 x281001_2]) ?_ 1 _ rfl; (with_reducible repeat (first | refine blk_drewN ?_ _ | refine blk_drew ?_ | refine blk_alloc ?_ _)); refine blk_put (cs := #[.int .i64 x281000_2, .int .i64 x281001_2]) ?_ 0 _ rfl; (with_reducible repeat (first | refine blk_drewN ?_ _ | refine blk_drew ?_ | refine blk_alloc ?_ _)); exact BK280.out) Tryd.underlying55 rfl (by kernel_rfl)) rfl ?_
       exact ⟨gz, (bz2 HB.out GE280.out GE281.out)⟩
theorem bind_node (a b : Int) (w : World) : Sem.run Tryd.prog (Instr.field 55 (.agg #[.int .i64 a, .int .i64 b]) 0) w = .ok (.int .i64 a) w := by
 have h := Tryd.underlying55
 simp [Instr.field, asAgg, go_sem, h]
attribute [local go_sem] bind_node
mutual
def spec_FreeNames.l0 : Nat → List (S43) → List ByteArray → Int → Option (List ByteArray)
 | 0, _, _, _ => none
 | k + 1, x0, x3, x4 => if x4 < (x0.length : Int) then ((spec_NodesOk.f k x0).bind fun t300 => (spec_FreeNames.j1 k x0 x3 x4 t300)) else (spec_FreeNames.j1 k x0 x3 x4 false)
def spec_FreeNames.j1 : Nat → List (S43) → List ByteArray → Int → Bool → Option (List ByteArray)
 | 0, _, _, _, _ => none
 | k + 1, x0, x3, x4, x13 => if x13 = true then (if 0 ≤ x4 then (if x4 < (x0.length : Int) then (if ((rd_T43 x0 x4).f0) = 1 then ((spec_BinderOf.f k x0 x4).bind fun bt302 => (if bt302.1 < 0 then ((spec_l6Sort.f k x3 ((rd_T43 x0 x4).f5)).bind fun t305 => (spec_FreeNames.l0 k x0 t305 (wrap64 (x4 + 1)))) else (spec_FreeNames.l0 k x0 x3 (wrap64 (x4 + 1))))) else (spec_FreeNames.l0 k x0 x3 (wrap64 (x4 + 1)))) else (none)) else (none)) else (some x3)
end
def spec_FreeNames.f (k : Nat) (l0 : List (S43)) : Option (List ByteArray) := spec_FreeNames.l0 k l0 (([] : List ByteArray)) 0
theorem spec_FreeNames.mono_l : ∀ k, (∀ y0 y1 y2, LeO (spec_FreeNames.l0 k y0 y1 y2) (spec_FreeNames.l0 (k + 1) y0 y1 y2)) ∧ (∀ y0 y1 y2 y3, LeO (spec_FreeNames.j1 k y0 y1 y2 y3) (spec_FreeNames.j1 (k + 1) y0 y1 y2 y3))
 | 0 => ⟨fun _ _ _ r h => by simp [spec_FreeNames.l0] at h, fun _ _ _ _ r h => by simp [spec_FreeNames.j1] at h⟩
 | k + 1 => by
  obtain ⟨ih0, ih1⟩ := spec_FreeNames.mono_l k
  refine ⟨?_, ?_⟩
  ·intro y0 y1 y2
   unfold spec_FreeNames.l0
   repeat' first
   | (with_reducible exact ih0 _ _ _)
   | (with_reducible exact ih1 _ _ _ _)
   | (with_reducible exact spec_BinderOf.mono _ _ _)
   | (with_reducible exact spec_NodesOk.mono _ _)
   | (with_reducible exact spec_l6Sort.mono _ _ _)
   | (with_reducible exact LeO.refl _)
   | (with_reducible exact LeO.none _)
   | (with_reducible refine LeO.ite ?_ ?_)
   | (with_reducible refine LeO.bind ?_ (fun _ => ?_))
   | exact ih0 _ _ _
   | exact ih1 _ _ _ _
   | exact spec_BinderOf.mono _ _ _
   | exact spec_NodesOk.mono _ _
   | exact spec_l6Sort.mono _ _ _
   | exact LeO.none _
   | refine LeO.ite ?_ ?_
   | refine LeO.bind ?_ (fun _ => ?_)
  ·intro y0 y1 y2 y3
   unfold spec_FreeNames.j1
   repeat' first
   | (with_reducible exact ih0 _ _ _)
   | (with_reducible exact ih1 _ _ _ _)
   | (with_reducible exact spec_BinderOf.mono _ _ _)
   | (with_reducible exact spec_NodesOk.mono _ _)
   | (with_reducible exact spec_l6Sort.mono _ _ _)
   | (with_reducible exact LeO.refl _)
   | (with_reducible exact LeO.none _)
   | (with_reducible refine LeO.ite ?_ ?_)
   | (with_reducible refine LeO.bind ?_ (fun _ => ?_))
   | exact ih0 _ _ _
   | exact ih1 _ _ _ _
   | exact spec_BinderOf.mono _ _ _
   | exact spec_NodesOk.mono _ _
   | exact spec_l6Sort.mono _ _ _
   | exact LeO.none _
   | refine LeO.ite ?_ ?_
   | refine LeO.bind ?_ (fun _ => ?_)
theorem spec_FreeNames.mono : ∀ a0 k, LeO (spec_FreeNames.f k a0) (spec_FreeNames.f (k + 1) a0) := by
 intro a0 k
 obtain ⟨ih0, ih1⟩ := spec_FreeNames.mono_l k
 unfold spec_FreeNames.f
 repeat' first
   | (with_reducible exact ih0 _ _ _)
   | (with_reducible exact ih1 _ _ _ _)
   | (with_reducible exact spec_BinderOf.mono _ _ _)
   | (with_reducible exact spec_NodesOk.mono _ _)
   | (with_reducible exact spec_l6Sort.mono _ _ _)
   | (with_reducible exact LeO.refl _)
   | (with_reducible exact LeO.none _)
   | (with_reducible refine LeO.ite ?_ ?_)
   | (with_reducible refine LeO.bind ?_ (fun _ => ?_))
   | exact ih0 _ _ _
   | exact ih1 _ _ _ _
   | exact spec_BinderOf.mono _ _ _
   | exact spec_NodesOk.mono _ _
   | exact spec_l6Sort.mono _ _ _
   | exact LeO.none _
   | refine LeO.ite ?_ ?_
   | refine LeO.bind ?_ (fun _ => ?_)
set_option maxHeartbeats 8000000 in
set_option maxRecDepth 100000 in
theorem spec_FreeNames.calls (k : Nat) (A0 : Option Addr) (c0 : Nat) (l0 : List (S43)) (r : List ByteArray) (w : World) (hr0 : Kd.C k43 w A0 l0.length l0) (hc0 : l0.length ≤ c0) (h : spec_FreeNames.f k l0 = some r) :
  Calls Tryd.prog 25 #[.slice A0 l0.length c0] w fun e w' => ∃ v0_ : Value, e = .returned (v0_) ∧ Kd.R Kd.string 9 w' w.heap.size (fun _ => True) v0_ r ∧ Below w.heap.size w w' := by
 have HR0 := Aside0.mk hr0
 have HC0 := Aside0.mk hc0
 clear hr0 hc0
 have HB := Aside0.mk (Below.refl w.heap.size w)
 have H : (spec_FreeNames.l0 k l0 (([] : List ByteArray)) 0) = some r := h
 clear h
 obtain ⟨y297, hy297⟩ : ∃ y_ : List ByteArray, y_ = (([] : List ByteArray)) := ⟨_, rfl⟩
 replace H : (spec_FreeNames.l0 k l0 y297 0) = some r := by first | (rw [hy297]; with_reducible exact H) | (have H2_ := (Option.bind_some _ _).symm.trans H; rw [hy297]; with_reducible exact H2_) | (have H2_ := (Option.bind_some _ _).symm.trans H; with_reducible exact H2_) | with_reducible exact H | (rw [hy297]; exact H) | exact H
 have Ny297 := Aside0.mk hy297
 clear hy297
 have H' := Aside0.mk H
 clear H
 go_enter Tryd.func25, Tryd.ntmps25
 go_wp2_with (first | ((with_reducible refine gate_dst (N := 5) rfl ?_); refine Kd.R_lit Kd.string _ 9 ?hg (N := 5) ?hd (xs := ([] : List ByteArray)) (inner := []) (ok := fun _ => True) (okp := fun _ => True) ?hr ?hp (fun _ hk => hk) trivial (Below.refl _ _) (Nat.le_refl _) (by simp) ?_; (case hd => rfl); (case hg => rfl); (case hr => first | (go_simp; done) | (go_simp; rfl)); (case hp => exact (Reps.none _ _)); intro v298 w2 ho3 hb hg_ hnew_; clear hg_ hnew_; (first | rw [← Ny297.out] at ho3 | (simp only [Int.reduceToNat] at ho3; rw [← Ny297.out] at ho3)); have n0_ := Aside0.mk (Kd.R_lower ho3 (below_size (bz0 HB.out))); have n1_ := Aside0.mk (below_step (bz0 HB.out) hb); clear HB; have HO299 := n0_; have HB := n1_; clear n0_ n1_; clear hb ho3))
 (try simp only [Act.put, List.setIfInBounds_toArray, List.set_cons_zero, List.set_cons_succ])
 go_loopg [3, 4] k (fun kq v3 v4 w' => ∃ (x3_1 : List ByteArray) (x4_1 : Int), v4 = .int .i64 x4_1 ∧ Aside0 (spec_FreeNames.l0 kq l0 x3_1 x4_1 = some r) ∧ Aside0 (kq ≤ k) ∧ Aside0 (Kd.R Kd.string 9 w' w.heap.size (fun _ => True) v3 x3_1) ∧ Aside0 (Below w.heap.size w w'))
 case atStart => exact ⟨(y297), (0), ez, H', ⟨Nat.le_refl _⟩, ⟨by (with_reducible repeat (first | apply Kd.R_alloc | apply Kd.R_drewN | apply Kd.R_drew)); exact HO299.out⟩, ⟨(bz0 HB.out)⟩⟩
 case round =>
  clear H'
  try clear c2
  try clear p2
  obtain ⟨x3_1, x4_1, rfl, HA, HK1, HO_3, HB⟩ := hrel
  cases gk with
  | zero => exact absurd HA.out (by simp [spec_FreeNames.l0])
  | succ k1 =>
   have H := HA.out
   clear HA
   simp only [spec_FreeNames.l0] at H
   have HC4 := Aside0.mk H
   clear H
   go_upto_region 3 with (fail)
   go_cut [13] (fun v13 wc => ∃ (kq : Nat) (x13_3 : Bool), v13 = .bool x13_3 ∧ Aside0 (spec_FreeNames.j1 kq l0 x3_1 x4_1 x13_3 = some r) ∧ Aside0 (kq ≤ k1) ∧ Aside0 (Kd.R Kd.string 9 wc w.heap.size (fun _ => True) u3 x3_1) ∧ Aside0 (Below w.heap.size w wc))
   case first =>
    have H := HC4.out
    clear HC4
    by_cases c5 : x4_1 < (l0.length : Int)
    ·rw [if_pos c5] at H
     have c5b0 : decide (x4_1 < (l0.length : Int)) = true := decide_eq_true c5
     clear c5
     (first | rw [c5b0] | (simp only [i64_w, i32_w]; rw [c5b0]) | skip)
     replace H := Option.bind_eq_some_iff.mp H
     obtain ⟨t300, A60, H⟩ := H
     replace H : (spec_FreeNames.j1 k1 l0 x3_1 x4_1 t300) = some r := H
     have A6 := Aside0.mk A60
     clear A60
     have H' := Aside0.mk H
     clear H
     go_wp2_with (first | (go_at_call 33; (with_reducible refine (spec_NodesOk.calls k1 _ _ l0 t300 _ ?side1 ?side2 A6.out).mono ?_); (case side1 => exact cz (Kd.C_below HR0.out HB.out)); (case side2 => exact HC0.out); rintro e w7 ⟨rfl, hb⟩; have n0_ := Aside0.mk (Kd.R_below (rz HO_3.out) hb); have n1_ := Aside0.mk (below_step (bz0 HB.out) hb); clear HO_3; clear HB; have HO_3 := n0_; have HB := n1_; clear n0_ n1_; (try clear hb); (try clear hb2); (try clear hk); (try clear hi)))
     go_meet
     case rel => exact ⟨_, (t300), ez, H', ⟨by have := HK1.out; first | omega | exact Nat.le_refl _⟩, ⟨by (with_reducible repeat (first | apply Kd.R_alloc | apply Kd.R_drewN | apply Kd.R_drew)); exact HO_3.out⟩, ⟨(bz0 HB.out)⟩⟩
    ·rw [if_neg c5] at H
     have c5b0 : decide (x4_1 < (l0.length : Int)) = false := decide_eq_false c5
     clear c5
     (first | rw [c5b0] | (simp only [i64_w, i32_w]; rw [c5b0]) | skip)
     have H' := Aside0.mk H
     clear H
     go_wp2
     go_meet
     case rel => exact ⟨_, (false), ez, H', ⟨by have := HK1.out; first | omega | exact Nat.le_refl _⟩, ⟨by (with_reducible repeat (first | apply Kd.R_alloc | apply Kd.R_drewN | apply Kd.R_drew)); exact HO_3.out⟩, ⟨(bz0 HB.out)⟩⟩
   case rest =>
    clear HC4
    try clear c2
    try clear p2
    try clear c5
    try clear c5b0
    try clear p2
    obtain ⟨kq, x13_3, rfl, HA, HJ3, HO_3, HB⟩ := hcut
    cases kq with
    | zero => exact absurd HA.out (by simp [spec_FreeNames.j1])
    | succ kj3 =>
     have H := HA.out
     clear HA
     simp only [spec_FreeNames.j1] at H
     by_cases c8 : x13_3 = true
     ·subst c8
      have H1 : (if 0 ≤ x4_1 then (if x4_1 < (l0.length : Int) then (if ((rd_T43 l0 x4_1).f0) = 1 then ((spec_BinderOf.f kj3 l0 x4_1).bind fun bt302 => (if bt302.1 < 0 then ((spec_l6Sort.f kj3 x3_1 ((rd_T43 l0 x4_1).f5)).bind fun t305 => (spec_FreeNames.l0 kj3 l0 t305 (wrap64 (x4_1 + 1)))) else (spec_FreeNames.l0 kj3 l0 x3_1 (wrap64 (x4_1 + 1))))) else (spec_FreeNames.l0 kj3 l0 x3_1 (wrap64 (x4_1 + 1)))) else (none)) else (none)) = some r := by rw [if_pos rfl] at H; exact H
      clear H
      have H := H1
      clear H1
      by_cases c9 : 0 ≤ x4_1
      ·rw [if_pos c9] at H
       have c9b0 : decide (0 ≤ x4_1) = true := decide_eq_true c9
       clear c9
       by_cases c10 : x4_1 < (l0.length : Int)
       ·rw [if_pos c10] at H
        have c10b0 : decide (x4_1 < (l0.length : Int)) = true := decide_eq_true c10
        clear c10
        by_cases c11 : ((rd_T43 l0 x4_1).f0) = 1
        ·rw [if_pos c11] at H
         have c11b0 : (((rd_T43 l0 x4_1).f0) == 1) = true := beq_iff_eq.mpr c11
         have c11b1 : (((rd_T43 l0 x4_1).f0) != 1) = false := bne_eq_false_iff_eq.mpr c11
         clear c11
         replace H := Option.bind_eq_some_iff.mp H
         obtain ⟨⟨t302, t303⟩, A120, H⟩ := H
         replace H : (if t302 < 0 then ((spec_l6Sort.f kj3 x3_1 ((rd_T43 l0 x4_1).f5)).bind fun t305 => (spec_FreeNames.l0 kj3 l0 t305 (wrap64 (x4_1 + 1)))) else (spec_FreeNames.l0 kj3 l0 x3_1 (wrap64 (x4_1 + 1)))) = some r := H
         have A12 := Aside0.mk A120
         clear A120
         by_cases c13 : t302 < 0
         ·rw [if_pos c13] at H
          have c13b0 : decide (t302 < 0) = true := decide_eq_true c13
          clear c13
          replace H := Option.bind_eq_some_iff.mp H
          obtain ⟨t305, A140, H⟩ := H
          replace H : (spec_FreeNames.l0 kj3 l0 t305 (wrap64 (x4_1 + 1))) = some r := H
          have A14 := Aside0.mk A140
          clear A140
          have H' := Aside0.mk H
          clear H
          have p301 : 0 ≤ (x4_1 : Int) := of_decide_eq_true az
          have q301 : x4_1 < (l0.length : Int) := of_decide_eq_true az
          obtain ⟨ad301, e301, hx301_0, hx301_1, hx301_2, hx301_3, hx301_4, hx301_5, hx301_6⟩ := at_T43 HR0.out x4_1 p301 q301
          cases e301
          replace hx301_0 := hz HB.out hx301_0
          replace hx301_1 := hz HB.out hx301_1
          replace hx301_2 := hz HB.out hx301_2
          replace hx301_3 := hz HB.out hx301_3
          replace hx301_4 := hz HB.out hx301_4
          replace hx301_5 := hz HB.out hx301_5
          replace hx301_6 := hz HB.out hx301_6
          replace p301 := eq_true p301
          replace q301 := eq_true q301
          go_wp2_with (first | (go_at_call 49; (with_reducible refine (spec_BinderOf.calls kj3 _ _ l0 x4_1 t302 t303 _ ?side1 ?side2 A12.out).mono ?_); (case side1 => exact cz (Kd.C_below HR0.out HB.out)); (case side2 => exact HC0.out); rintro e w15 ⟨rfl, hb⟩; have n0_ := Aside0.mk (Kd.R_below (rz HO_3.out) hb); have n1_ := Aside0.mk (below_step (bz0 HB.out) hb); clear HO_3; clear HB; have HO_3 := n0_; have HB := n1_; clear n0_ n1_; (try clear hb); (try clear hb2); (try clear hk); (try clear hi); have p304 : 0 ≤ (x4_1 : Int) := of_decide_eq_true az; have q304 : x4_1 < (l0.length : Int) := of_decide_eq_true az; obtain ⟨ad304, e304, hx304_0, hx304_1, hx304_2, hx304_3, hx304_4, hx304_5, hx304_6⟩ := at_T43 HR0.out x4_1 p304 q304; obtain rfl : ad301 = ad304 := (by injection e304); replace hx304_0 := hz HB.out hx304_0; replace hx304_1 := hz HB.out hx304_1; replace hx304_2 := hz HB.out hx304_2; replace hx304_3 := hz HB.out hx304_3; replace hx304_4 := hz HB.out hx304_4; replace hx304_5 := hz HB.out hx304_5; replace hx304_6 := hz HB.out hx304_6; replace p304 := eq_true p304; replace q304 := eq_true q304; obtain ⟨Ao16, co16, eo16⟩ := Kd.R_slice HO_3.out; subst eo16) | ((with_reducible refine gate_callee (f := 43) rfl ?_); refine goesL_ (some 35) rfl rfl Tryd.func43 (by kernel_rfl) rfl #[.slice Ao16 x3_1.length co16, .string ((rd_T43 l0 x4_1).f5)] rfl lz ?_; (with_reducible refine (spec_l6Sort.calls kj3 (fun k_ => some k_ = (.slice Ao16 x3_1.length co16 : Value).ownBlock) (.slice Ao16 x3_1.length co16) x3_1 ((rd_T43 l0 x4_1).f5) t305 w _ ?side1 ?side2 A14.out).mono ?_); (case side1 => repeat (first | (with_reducible first | exact HB.out | apply below_alloc | apply pw_below_drewN | apply below_drew1) | exact HB.out)); (case side2 => exact Kd.R_tight rfl HO_3.out); rintro e w17 ⟨v306, rfl, ho0, hb, hkp⟩; refine ⟨_, rfl, ?_⟩; have n0_ := Aside0.mk (Kd.R_mono (ok' := fun k_ => True) ho0 (fun k_ hk_ => trivial)); have n1_ := Aside0.mk (hb); clear HB; clear HO_3; have HO307 := n0_; have HB := n1_; clear n0_ n1_; (try clear hb); (try clear hkp); (try clear ho0)))
          go_roundg kj3
          case measure => have := HK1.out; have := HJ3.out; omega
          case rel => exact ⟨(t305), (wrap64 (x4_1 + 1)), ez, H', ⟨by have := HK1.out; have := HJ3.out; omega⟩, ⟨by (with_reducible repeat (first | apply Kd.R_alloc | apply Kd.R_drewN | apply Kd.R_drew)); exact HO307.out⟩, ⟨(bz0 HB.out)⟩⟩
         ·rw [if_neg c13] at H
          have c13b0 : decide (t302 < 0) = false := decide_eq_false c13
          clear c13
          have H' := Aside0.mk H
          clear H
          have p301 : 0 ≤ (x4_1 : Int) := of_decide_eq_true az
          have q301 : x4_1 < (l0.length : Int) := of_decide_eq_true az
          obtain ⟨ad301, e301, hx301_0, hx301_1, hx301_2, hx301_3, hx301_4, hx301_5, hx301_6⟩ := at_T43 HR0.out x4_1 p301 q301
          cases e301
          replace hx301_0 := hz HB.out hx301_0
          replace hx301_1 := hz HB.out hx301_1
          replace hx301_2 := hz HB.out hx301_2
          replace hx301_3 := hz HB.out hx301_3
          replace hx301_4 := hz HB.out hx301_4
          replace hx301_5 := hz HB.out hx301_5
          replace hx301_6 := hz HB.out hx301_6
          replace p301 := eq_true p301
          replace q301 := eq_true q301
          go_wp2_with (first | (go_at_call 49; (with_reducible refine (spec_BinderOf.calls kj3 _ _ l0 x4_1 t302 t303 _ ?side1 ?side2 A12.out).mono ?_); (case side1 => exact cz (Kd.C_below HR0.out HB.out)); (case side2 => exact HC0.out); rintro e w18 ⟨rfl, hb⟩; have n0_ := Aside0.mk (Kd.R_below (rz HO_3.out) hb); have n1_ := Aside0.mk (below_step (bz0 HB.out) hb); clear HO_3; clear HB; have HO_3 := n0_; have HB := n1_; clear n0_ n1_; (try clear hb); (try clear hb2); (try clear hk); (try clear hi)))
          go_roundg kj3
          case measure => have := HK1.out; have := HJ3.out; omega
          case rel => exact ⟨(x3_1), (wrap64 (x4_1 + 1)), ez, H', ⟨by have := HK1.out; have := HJ3.out; omega⟩, ⟨by (with_reducible repeat (first | apply Kd.R_alloc | apply Kd.R_drewN | apply Kd.R_drew)); exact HO_3.out⟩, ⟨(bz0 HB.out)⟩⟩
        ·rw [if_neg c11] at H
         have c11b0 : (((rd_T43 l0 x4_1).f0) == 1) = false := beq_eq_false_iff_ne.mpr c11
         have c11b1 : (((rd_T43 l0 x4_1).f0) != 1) = true := bne_iff_ne.mpr c11
         have H' := Aside0.mk H
         clear H
         have p301 : 0 ≤ (x4_1 : Int) := of_decide_eq_true az
         have q301 : x4_1 < (l0.length : Int) := of_decide_eq_true az
         obtain ⟨ad301, e301, hx301_0, hx301_1, hx301_2, hx301_3, hx301_4, hx301_5, hx301_6⟩ := at_T43 HR0.out x4_1 p301 q301
         cases e301
         replace hx301_0 := hz HB.out hx301_0
         replace hx301_1 := hz HB.out hx301_1
         replace hx301_2 := hz HB.out hx301_2
         replace hx301_3 := hz HB.out hx301_3
         replace hx301_4 := hz HB.out hx301_4
         replace hx301_5 := hz HB.out hx301_5
         replace hx301_6 := hz HB.out hx301_6
         replace p301 := eq_true p301
         replace q301 := eq_true q301
         go_wp2
         go_roundg kj3
         case measure => have := HK1.out; have := HJ3.out; omega
         case rel => exact ⟨(x3_1), (wrap64 (x4_1 + 1)), ez, H', ⟨by have := HK1.out; have := HJ3.out; omega⟩, ⟨by (with_reducible repeat (first | apply Kd.R_alloc | apply Kd.R_drewN | apply Kd.R_drew)); exact HO_3.out⟩, ⟨(bz0 HB.out)⟩⟩
       ·rw [if_neg c10] at H
        exact absurd H (by simp)
      ·rw [if_neg c9] at H
       exact absurd H (by simp)
     ·replace c8 := Bool.eq_false_iff.mpr c8
      subst c8
      have H1 : (some x3_1) = some r := by rw [if_neg (show ¬ (false = true) by decide)] at H; exact H
      clear H
      have H := H1
      clear H1
      obtain rfl := Option.some.inj H
      go_wp2
      go_ret
      exact ⟨_, gz, by (with_reducible repeat (first | apply Kd.R_alloc | apply Kd.R_drewN | apply Kd.R_drew)); exact HO_3.out, (bz0 HB.out)⟩
def impl_in.f (a0 : Int) (a1 : Int) (a2 : Int) : Option (Bool) := if a0 ≥ a1 then (some (decide (a0 ≤ a2))) else (some false)
set_option maxHeartbeats 8000000 in
set_option maxRecDepth 100000 in
theorem impl_in.calls (a0 : Int) (a1 : Int) (a2 : Int) (r : Bool) (w : World) (h : impl_in.f a0 a1 a2 = some r) :
  Calls Tryd.prog 44 #[.int .i64 a0, .int .i64 a1, .int .i64 a2] w fun e w' => e = .returned (.bool r) ∧ Drawn0 w w' := by
 have H : (if a0 ≥ a1 then (some (decide (a0 ≤ a2))) else (some false)) = some r := h
 clear h
 by_cases c4 : a0 ≥ a1
 ·rw [if_pos c4] at H
  have c4b0 : decide (a1 ≤ a0) = true := decide_eq_true c4
  clear c4
  obtain rfl := Option.some.inj H
  go_enter Tryd.func44, Tryd.ntmps44
  go_wp2
  go_ret
  exact ⟨by first | rfl | (simp; done) | (simp [*]; done), by repeat (first | exact Drawn0.refl _ | apply Drawn0.step)⟩
 ·rw [if_neg c4] at H
  have c4b0 : decide (a1 ≤ a0) = false := decide_eq_false c4
  clear c4
  obtain rfl := Option.some.inj H
  go_enter Tryd.func44, Tryd.ntmps44
  go_wp2
  go_ret
  exact ⟨by first | rfl | (simp; done) | (simp [*]; done), by repeat (first | exact Drawn0.refl _ | apply Drawn0.step)⟩
end Go.Proofs.YtmilegjmiiccdaaDoor.PFnExactFreeNames
