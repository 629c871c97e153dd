/- PFnExactUsesOfx8, of the words and walks that the law FnExactUsesOf needs; made by this session's program out of printed texts. -/

import Derived.Test.YthmkeimngfboiaaDoorVEUsesOfPx0
import Derived.Test.YthmkeimngfboiaaDoorVEUsesOfPx3
import Derived.Test.YthmkeimngfboiaaDoorVEUsesOfPx6
import Derived.Test.YthmkeimngfboiaaDoorVEUsesOfPx7
namespace Go.Proofs.YthmkeimngfboiaaDoor.PFnExactUsesOf
open Go.RowKit Go.Proofs.YthmkeimngfboiaaDoorW.PrintWords Go.Proofs.YthmkeimngfboiaaDoorW.PrintLast Go.Proofs.YthmkeimngfboiaaDoorW.PrintMore
attribute [local go_sem] max2_int min2_int max_two min_two max_three min_three max_four min_four
set_option linter.unusedVariables false
set_option linter.unusedSimpArgs false
mutual
def spec_BinderOf.j0 : Nat → List (S54) → Int → Bool → Int → Int → Option (Int × Int)
 | 0, _, _, _, _, _ => none
 | k + 1, x0, x1, x30, x253000, x253001 => if x30 = true then (some (x253000, x253001)) else ((spec_ParentOf.f k x0 x1).bind fun t256 => (spec_BinderOf.l0 k x0 x1 x1 t256 x253000 x253001))
def spec_BinderOf.l0 : Nat → List (S54) → Int → Int → Int → Int → Int → Option (Int × Int)
 | 0, _, _, _, _, _, _ => none
 | k + 1, x0, x1, x6, x7, x253000, x253001 => if x7 ≥ 0 then (if 0 ≤ x7 then (if x7 < (x0.length : Int) then ((spec_l6Bound.f k ((rd_T54 x0 x7).f0) ((rd_T54 x0 x7).f1) ((rd_T54 x0 x7).f2) ((rd_T54 x0 x7).f3) ((rd_T54 x0 x7).f4) ((rd_T54 x0 x7).f5) ((rd_T54 x0 x7).f6) x6).bind fun bt258 => (spec_BinderOf.l1 k x0 x1 x7 bt258.1 bt258.2 0 x253000 x253001)) else (none)) else (none)) else (some (x253000, x253001))
def spec_BinderOf.l1 : Nat → List (S54) → Int → Int → List ByteArray → List Int → Int → Int → Int → Option (Int × Int)
 | 0, _, _, _, _, _, _, _, _ => none
 | k + 1, x0, x1, x7, x8, x9, x10, x253000, x253001 => if x10 < (x8.length : Int) then (if 0 ≤ x10 then (if 0 ≤ x1 then (if x1 < (x0.length : Int) then (if (rdOf ByteArray.empty x8 x10).toList = ((rd_T54 x0 x1).f5).toList then (if x10 < (x9.length : Int) then (some (x7, rd x9 x10)) else (none)) else (spec_BinderOf.l1 k x0 x1 x7 x8 x9 (wrap64 (x10 + 1)) x253000 x253001)) else (none)) else (none)) else (none)) else ((spec_ParentOf.f k x0 x7).bind fun t267 => (spec_BinderOf.l0 k x0 x1 x7 t267 x253000 x253001))
end
def spec_BinderOf.f (k : Nat) (l0 : List (S54)) (a1 : Int) : Option (Int × Int) := (spec_NodesOk.f k l0).bind fun t253 => (if t253 = true then ((spec_l1In.f a1 0 (wrap64 ((l0.length : Int) - 1))).bind fun t254 => (if t254 = true then (if 0 ≤ a1 then (if a1 < (l0.length : Int) then (spec_BinderOf.j0 k l0 a1 (((rd_T54 l0 a1).f0) != 1) (-1) (-1)) else (none)) else (none)) else (spec_BinderOf.j0 k l0 a1 true (-1) (-1)))) else (spec_BinderOf.j0 k l0 a1 true (-1) (-1)))
theorem spec_BinderOf.mono_l : ∀ k, (∀ y0 y1 y2 y3 y4, LeO (spec_BinderOf.j0 k y0 y1 y2 y3 y4) (spec_BinderOf.j0 (k + 1) y0 y1 y2 y3 y4)) ∧ (∀ y0 y1 y2 y3 y4 y5, LeO (spec_BinderOf.l0 k y0 y1 y2 y3 y4 y5) (spec_BinderOf.l0 (k + 1) y0 y1 y2 y3 y4 y5)) ∧ (∀ y0 y1 y2 y3 y4 y5 y6 y7, LeO (spec_BinderOf.l1 k y0 y1 y2 y3 y4 y5 y6 y7) (spec_BinderOf.l1 (k + 1) y0 y1 y2 y3 y4 y5 y6 y7))
 | 0 => ⟨fun _ _ _ _ _ r h => by simp [spec_BinderOf.j0] at h, fun _ _ _ _ _ _ r h => by simp [spec_BinderOf.l0] at h, fun _ _ _ _ _ _ _ _ r h => by simp [spec_BinderOf.l1] at h⟩
 | k + 1 => by
  obtain ⟨ih0, ih1, ih2⟩ := spec_BinderOf.mono_l k
  refine ⟨?_, ?_, ?_⟩
  ·intro y0 y1 y2 y3 y4
   unfold spec_BinderOf.j0
   repeat' first
   | (with_reducible exact ih0 _ _ _ _ _)
   | (with_reducible exact ih1 _ _ _ _ _ _)
   | (with_reducible exact ih2 _ _ _ _ _ _ _ _)
   | (with_reducible exact spec_NodesOk.mono _ _)
   | (with_reducible exact spec_ParentOf.mono _ _ _)
   | (with_reducible exact spec_l6Bound.mono _ _ _ _ _ _ _ _ _)
   | (with_reducible exact LeO.refl _)
   | (with_reducible exact LeO.none _)
   | (with_reducible refine LeO.ite ?_ ?_)
   | (with_reducible refine LeO.bind ?_ (fun _ => ?_))
   | exact ih0 _ _ _ _ _
   | exact ih1 _ _ _ _ _ _
   | exact ih2 _ _ _ _ _ _ _ _
   | exact spec_NodesOk.mono _ _
   | exact spec_ParentOf.mono _ _ _
   | exact spec_l6Bound.mono _ _ _ _ _ _ _ _ _
   | exact LeO.none _
   | refine LeO.ite ?_ ?_
   | refine LeO.bind ?_ (fun _ => ?_)
  ·intro y0 y1 y2 y3 y4 y5
   unfold spec_BinderOf.l0
   repeat' first
   | (with_reducible exact ih0 _ _ _ _ _)
   | (with_reducible exact ih1 _ _ _ _ _ _)
   | (with_reducible exact ih2 _ _ _ _ _ _ _ _)
   | (with_reducible exact spec_NodesOk.mono _ _)
   | (with_reducible exact spec_ParentOf.mono _ _ _)
   | (with_reducible exact spec_l6Bound.mono _ _ _ _ _ _ _ _ _)
   | (with_reducible exact LeO.refl _)
   | (with_reducible exact LeO.none _)
   | (with_reducible refine LeO.ite ?_ ?_)
   | (with_reducible refine LeO.bind ?_ (fun _ => ?_))
   | exact ih0 _ _ _ _ _
   | exact ih1 _ _ _ _ _ _
   | exact ih2 _ _ _ _ _ _ _ _
   | exact spec_NodesOk.mono _ _
   | exact spec_ParentOf.mono _ _ _
   | exact spec_l6Bound.mono _ _ _ _ _ _ _ _ _
   | exact LeO.none _
   | refine LeO.ite ?_ ?_
   | refine LeO.bind ?_ (fun _ => ?_)
  ·intro y0 y1 y2 y3 y4 y5 y6 y7
   unfold spec_BinderOf.l1
   repeat' first
   | (with_reducible exact ih0 _ _ _ _ _)
   | (with_reducible exact ih1 _ _ _ _ _ _)
   | (with_reducible exact ih2 _ _ _ _ _ _ _ _)
   | (with_reducible exact spec_NodesOk.mono _ _)
   | (with_reducible exact spec_ParentOf.mono _ _ _)
   | (with_reducible exact spec_l6Bound.mono _ _ _ _ _ _ _ _ _)
   | (with_reducible exact LeO.refl _)
   | (with_reducible exact LeO.none _)
   | (with_reducible refine LeO.ite ?_ ?_)
   | (with_reducible refine LeO.bind ?_ (fun _ => ?_))
   | exact ih0 _ _ _ _ _
   | exact ih1 _ _ _ _ _ _
   | exact ih2 _ _ _ _ _ _ _ _
   | exact spec_NodesOk.mono _ _
   | exact spec_ParentOf.mono _ _ _
   | exact spec_l6Bound.mono _ _ _ _ _ _ _ _ _
   | exact LeO.none _
   | refine LeO.ite ?_ ?_
   | refine LeO.bind ?_ (fun _ => ?_)
theorem spec_BinderOf.mono : ∀ a0 a1 k, LeO (spec_BinderOf.f k a0 a1) (spec_BinderOf.f (k + 1) a0 a1) := by
 intro a0 a1 k
 obtain ⟨ih0, ih1, ih2⟩ := spec_BinderOf.mono_l k
 unfold spec_BinderOf.f
 repeat' first
   | (with_reducible exact ih0 _ _ _ _ _)
   | (with_reducible exact ih1 _ _ _ _ _ _)
   | (with_reducible exact ih2 _ _ _ _ _ _ _ _)
   | (with_reducible exact spec_NodesOk.mono _ _)
   | (with_reducible exact spec_ParentOf.mono _ _ _)
   | (with_reducible exact spec_l6Bound.mono _ _ _ _ _ _ _ _ _)
   | (with_reducible exact LeO.refl _)
   | (with_reducible exact LeO.none _)
   | (with_reducible refine LeO.ite ?_ ?_)
   | (with_reducible refine LeO.bind ?_ (fun _ => ?_))
   | exact ih0 _ _ _ _ _
   | exact ih1 _ _ _ _ _ _
   | exact ih2 _ _ _ _ _ _ _ _
   | exact spec_NodesOk.mono _ _
   | exact spec_ParentOf.mono _ _ _
   | exact spec_l6Bound.mono _ _ _ _ _ _ _ _ _
   | exact LeO.none _
   | refine LeO.ite ?_ ?_
   | refine LeO.bind ?_ (fun _ => ?_)
set_option maxHeartbeats 8000000 in
set_option maxRecDepth 100000 in
theorem spec_BinderOf.calls (k : Nat) (A0 : Option Addr) (c0 : Nat) (l0 : List (S54)) (a1 : Int) (r1 : Int) (r2 : Int) (w : World) (hr0 : Kd.C k54 w A0 l0.length l0) (hc0 : l0.length ≤ c0) (h : spec_BinderOf.f k l0 a1 = some (r1, r2)) :
  Calls Tryd.prog 28 #[.slice A0 l0.length c0, .int .i64 a1] w fun e w' => e = .returned (.agg #[.int .i64 r1, .int .i64 r2]) ∧ Below w.heap.size w w' := by
 have hu37 := Tryd.underlying37
 have hu54 := Tryd.underlying54
 have HR0 := Aside0.mk hr0
 have HC0 := Aside0.mk hc0
 clear hr0 hc0
 have HB := Aside0.mk (Below.refl w.heap.size w)
 have H : ((spec_NodesOk.f k l0).bind fun t253 => (if t253 = true then ((spec_l1In.f a1 0 (wrap64 ((l0.length : Int) - 1))).bind fun t254 => (if t254 = true then (if 0 ≤ a1 then (if a1 < (l0.length : Int) then (spec_BinderOf.j0 k l0 a1 (((rd_T54 l0 a1).f0) != 1) (-1) (-1)) else (none)) else (none)) else (spec_BinderOf.j0 k l0 a1 true (-1) (-1)))) else (spec_BinderOf.j0 k l0 a1 true (-1) (-1)))) = some (r1, r2) := h
 clear h
 have HC3 := Aside0.mk H
 clear H
 go_enter Tryd.func28, Tryd.ntmps28
 go_upto_region 2 with (first | ((with_reducible refine gate_dst (N := 4) rfl ?_); (try (refine gate_guard (by rfl) ?_; dsimp only)); refine box_event ?hg (N := 4) ?hd (cs := #[.int .i64 0, .int .i64 0]) (t := 37) ?hr ?_; (case hd => rfl); (case hg => rfl); (case hr => first | (go_simp; done) | (go_simp; rfl)); intro gb251 hg w4 hbox hb; have n0_ := Aside0.mk (below_step (bz0 HB.out) hb); have n1_ := Aside0.mk (hbox); have n2_ := Aside0.mk ((by rw [hg]; exact (below_size (bz0 HB.out)) : w.heap.size ≤ gb251)); have n3_ := Aside0.mk ((by rw [hg]; exact (below_size (bz0 HB.out)) : w.heap.size ≤ gb251)); clear HB; have HB := n0_; have BK251 := n1_; have GW251 := n2_; have GE251 := n3_; clear n0_ n1_ n2_ n3_; clear hb hbox hg) | ((with_reducible refine gate_dst (N := 5) rfl ?_); (try (refine gate_guard (by rfl) ?_; dsimp only)); refine box_event ?hg (N := 5) ?hd (cs := #[.int .i64 0, .int .i64 0]) (t := 37) ?hr ?_; (case hd => rfl); (case hg => rfl); (case hr => first | (go_simp; done) | (go_simp; rfl)); intro gb252 hg w5 hbox hb; have n0_ := Aside0.mk (blk_below (g := gb251) (o := .cells #[.int .i64 0, .int .i64 0] 37 (0, 0)) (kz BK251.out) hb); have n1_ := Aside0.mk (below_step (bz1 HB.out GE251.out) hb); have n2_ := Aside0.mk (hbox); have n3_ := Aside0.mk ((by rw [hg]; exact (below_size (bz1 HB.out GE251.out)) : w.heap.size ≤ gb252)); have n4_ := Aside0.mk ((by rw [hg]; exact (below_size (bz1 HB.out GE251.out)) : w.heap.size ≤ gb252)); have n5_ := Aside0.mk ((by rw [hg]; exact Nat.ne_of_lt (blk_lt (g := gb251) (o := .cells #[.int .i64 0, .int .i64 0] 37 (0, 0)) (kz BK251.out)) : gb251 ≠ gb252)); have n6_ := Aside0.mk ((by rw [hg]; exact Nat.ne_of_gt (blk_lt (g := gb251) (o := .cells #[.int .i64 0, .int .i64 0] 37 (0, 0)) (kz BK251.out)) : gb252 ≠ gb251)); clear BK251; clear HB; have BK251 := n0_; have HB := n1_; have BK252 := n2_; have GW252 := n3_; have GE252 := n4_; have NB251_252 := n5_; have NB252_251 := n6_; clear n0_ n1_ n2_ n3_ n4_ n5_ n6_; clear hb hbox hg; have hnb6 := NB252_251.out; have hnc6 := NB251_252.out; have hcz7_0 : w5.cell? ⟨gb252, 0, none⟩ = some (.int .i64 0) := (blk_cell BK252.out 0).trans rfl; have hcz7_1 : w5.cell? ⟨gb252, 1, none⟩ = some (.int .i64 0) := (blk_cell BK252.out 1).trans rfl; have hfz7_0 := blk_frozen BK252.out 0; have hfz7_1 := blk_frozen BK252.out 1))
 repeat (go_quiet (first | ((with_reducible refine gate_dst (N := 4) rfl ?_); (try (refine gate_guard (by rfl) ?_; dsimp only)); refine box_event ?hg (N := 4) ?hd (cs := #[.int .i64 0, .int .i64 0]) (t := 37) ?hr ?_; (case hd => rfl); (case hg => rfl); (case hr => first | (go_simp; done) | (go_simp; rfl)); intro gb251 hg w4 hbox hb; have n0_ := Aside0.mk (below_step (bz0 HB.out) hb); have n1_ := Aside0.mk (hbox); have n2_ := Aside0.mk ((by rw [hg]; exact (below_size (bz0 HB.out)) : w.heap.size ≤ gb251)); have n3_ := Aside0.mk ((by rw [hg]; exact (below_size (bz0 HB.out)) : w.heap.size ≤ gb251)); clear HB; have HB := n0_; have BK251 := n1_; have GW251 := n2_; have GE251 := n3_; clear n0_ n1_ n2_ n3_; clear hb hbox hg) | ((with_reducible refine gate_dst (N := 5) rfl ?_); (try (refine gate_guard (by rfl) ?_; dsimp only)); refine box_event ?hg (N := 5) ?hd (cs := #[.int .i64 0, .int .i64 0]) (t := 37) ?hr ?_; (case hd => rfl); (case hg => rfl); (case hr => first | (go_simp; done) | (go_simp; rfl)); intro gb252 hg w5 hbox hb; have n0_ := Aside0.mk (blk_below (g := gb251) (o := .cells #[.int .i64 0, .int .i64 0] 37 (0, 0)) (kz BK251.out) hb); have n1_ := Aside0.mk (below_step (bz1 HB.out GE251.out) hb); have n2_ := Aside0.mk (hbox); have n3_ := Aside0.mk ((by rw [hg]; exact (below_size (bz1 HB.out GE251.out)) : w.heap.size ≤ gb252)); have n4_ := Aside0.mk ((by rw [hg]; exact (below_size (bz1 HB.out GE251.out)) : w.heap.size ≤ gb252)); have n5_ := Aside0.mk ((by rw [hg]; exact Nat.ne_of_lt (blk_lt (g := gb251) (o := .cells #[.int .i64 0, .int .i64 0] 37 (0, 0)) (kz BK251.out)) : gb251 ≠ gb252)); have n6_ := Aside0.mk ((by rw [hg]; exact Nat.ne_of_gt (blk_lt (g := gb251) (o := .cells #[.int .i64 0, .int .i64 0] 37 (0, 0)) (kz BK251.out)) : gb252 ≠ gb251)); clear BK251; clear HB; have BK251 := n0_; have HB := n1_; have BK252 := n2_; have GW252 := n3_; have GE252 := n4_; have NB251_252 := n5_; have NB252_251 := n6_; clear n0_ n1_ n2_ n3_ n4_ n5_ n6_; clear hb hbox hg; have hnb6 := NB252_251.out; have hnc6 := NB251_252.out; have hcz7_0 : w5.cell? ⟨gb252, 0, none⟩ = some (.int .i64 0) := (blk_cell BK252.out 0).trans rfl; have hcz7_1 : w5.cell? ⟨gb252, 1, none⟩ = some (.int .i64 0) := (blk_cell BK252.out 1).trans rfl; have hfz7_0 := blk_frozen BK252.out 0; have hfz7_1 := blk_frozen BK252.out 1)); go_upto_region 2 with (first | ((with_reducible refine gate_dst (N := 4) rfl ?_); (try (refine gate_guard (by rfl) ?_; dsimp only)); refine box_event ?hg (N := 4) ?hd (cs := #[.int .i64 0, .int .i64 0]) (t := 37) ?hr ?_; (case hd => rfl); (case hg => rfl); (case hr => first | (go_simp; done) | (go_simp; rfl)); intro gb251 hg w4 hbox hb; have n0_ := Aside0.mk (below_step (bz0 HB.out) hb); have n1_ := Aside0.mk (hbox); have n2_ := Aside0.mk ((by rw [hg]; exact (below_size (bz0 HB.out)) : w.heap.size ≤ gb251)); have n3_ := Aside0.mk ((by rw [hg]; exact (below_size (bz0 HB.out)) : w.heap.size ≤ gb251)); clear HB; have HB := n0_; have BK251 := n1_; have GW251 := n2_; have GE251 := n3_; clear n0_ n1_ n2_ n3_; clear hb hbox hg) | ((with_reducible refine gate_dst (N := 5) rfl ?_); (try (refine gate_guard (by rfl) ?_; dsimp only)); refine box_event ?hg (N := 5) ?hd (cs := #[.int .i64 0, .int .i64 0]) (t := 37) ?hr ?_; (case hd => rfl); (case hg => rfl); (case hr => first | (go_simp; done) | (go_simp; rfl)); intro gb252 hg w5 hbox hb; have n0_ := Aside0.mk (blk_below (g := gb251) (o := .cells #[.int .i64 0, .int .i64 0] 37 (0, 0)) (kz BK251.out) hb); have n1_ := Aside0.mk (below_step (bz1 HB.out GE251.out) hb); have n2_ := Aside0.mk (hbox); have n3_ := Aside0.mk ((by rw [hg]; exact (below_size (bz1 HB.out GE251.out)) : w.heap.size ≤ gb252)); have n4_ := Aside0.mk ((by rw [hg]; exact (below_size (bz1 HB.out GE251.out)) : w.heap.size ≤ gb252)); have n5_ := Aside0.mk ((by rw [hg]; exact Nat.ne_of_lt (blk_lt (g := gb251) (o := .cells #[.int .i64 0, .int .i64 0] 37 (0, 0)) (kz BK251.out)) : gb251 ≠ gb252)); have n6_ := Aside0.mk ((by rw [hg]; exact Nat.ne_of_gt (blk_lt (g := gb251) (o := .cells #[.int .i64 0, .int .i64 0] 37 (0, 0)) (kz BK251.out)) : gb252 ≠ gb251)); clear BK251; clear HB; have BK251 := n0_; have HB := n1_; have BK252 := n2_; have GW252 := n3_; have GE252 := n4_; have NB251_252 := n5_; have NB252_251 := n6_; clear n0_ n1_ n2_ n3_ n4_ n5_ n6_; clear hb hbox hg; have hnb6 := NB252_251.out; have hnc6 := NB251_252.out; have hcz7_0 : w5.cell? ⟨gb252, 0, none⟩ = some (.int .i64 0) := (blk_cell BK252.out 0).trans rfl; have hcz7_1 : w5.cell? ⟨gb252, 1, none⟩ = some (.int .i64 0) := (blk_cell BK252.out 1).trans rfl; have hfz7_0 := blk_frozen BK252.out 0; have hfz7_1 := blk_frozen BK252.out 1)))
 (try simp only [Act.put, List.setIfInBounds_toArray, List.set_cons_zero, List.set_cons_succ])
 go_cut [30] (fun v30 wc => ∃ (kq : Nat) (x30_2 : Bool), v30 = .bool x30_2 ∧ Aside0 (spec_BinderOf.j0 kq l0 a1 x30_2 (-1) (-1) = some (r1, r2)) ∧ Aside0 (kq ≤ k) ∧ Aside0 (wc.heap[gb251]? = some (.cells #[.int .i64 0, .int .i64 0] 37 (0, 0))) ∧ Aside0 (wc.heap[gb252]? = some (.cells #[.int .i64 (-1), .int .i64 (-1)] 37 (0, 0))) ∧ Aside0 (Below w.heap.size w wc))
 case first =>
  have H := HC3.out
  clear HC3
  replace H := Option.bind_eq_some_iff.mp H
  obtain ⟨t253, A80, H⟩ := H
  replace H : (if t253 = true then ((spec_l1In.f a1 0 (wrap64 ((l0.length : Int) - 1))).bind fun t254 => (if t254 = true then (if 0 ≤ a1 then (if a1 < (l0.length : Int) then (spec_BinderOf.j0 k l0 a1 (((rd_T54 l0 a1).f0) != 1) (-1) (-1)) else (none)) else (none)) else (spec_BinderOf.j0 k l0 a1 true (-1) (-1)))) else (spec_BinderOf.j0 k l0 a1 true (-1) (-1))) = some (r1, r2) := H
  have A8 := Aside0.mk A80
  clear A80
  by_cases c9 : t253 = true
  ·subst c9
   have H1 : ((spec_l1In.f a1 0 (wrap64 ((l0.length : Int) - 1))).bind fun t254 => (if t254 = true then (if 0 ≤ a1 then (if a1 < (l0.length : Int) then (spec_BinderOf.j0 k l0 a1 (((rd_T54 l0 a1).f0) != 1) (-1) (-1)) else (none)) else (none)) else (spec_BinderOf.j0 k l0 a1 true (-1) (-1)))) = some (r1, r2) := by rw [if_pos rfl] at H; exact H
   clear H
   have H := H1
   clear H1
   replace H := Option.bind_eq_some_iff.mp H
   obtain ⟨t254, A100, H⟩ := H
   replace H : (if t254 = true then (if 0 ≤ a1 then (if a1 < (l0.length : Int) then (spec_BinderOf.j0 k l0 a1 (((rd_T54 l0 a1).f0) != 1) (-1) (-1)) else (none)) else (none)) else (spec_BinderOf.j0 k l0 a1 true (-1) (-1))) = some (r1, r2) := H
   have A10 := Aside0.mk A100
   clear A100
   by_cases c11 : t254 = true
   ·subst c11
    have H1 : (if 0 ≤ a1 then (if a1 < (l0.length : Int) then (spec_BinderOf.j0 k l0 a1 (((rd_T54 l0 a1).f0) != 1) (-1) (-1)) else (none)) else (none)) = some (r1, r2) := by rw [if_pos rfl] at H; exact H
    clear H
    have H := H1
    clear H1
    by_cases c12 : 0 ≤ a1
    ·rw [if_pos c12] at H
     have c12b0 : decide (0 ≤ a1) = true := decide_eq_true c12
     clear c12
     (first | rw [c12b0] | (simp only [i64_w, i32_w]; rw [c12b0]) | skip)
     by_cases c13 : a1 < (l0.length : Int)
     ·rw [if_pos c13] at H
      have c13b0 : decide (a1 < (l0.length : Int)) = true := decide_eq_true c13
      clear c13
      have H' := Aside0.mk H
      clear H
      go_wp2_with (first | (go_at_call 12; (with_reducible refine (spec_NodesOk.calls k _ _ l0 true _ ?side1 ?side2 A8.out).mono ?_); (case side1 => exact Kd.C_below HR0.out (bz2 HB.out GE251.out GE252.out)); (case side2 => exact HC0.out); rintro e w14 ⟨rfl, hb⟩; have n0_ := Aside0.mk (blk_below (g := gb251) (o := .cells #[.int .i64 0, .int .i64 0] 37 (0, 0)) (by (with_reducible repeat (first | refine blk_drewN ?_ _ | refine blk_drew ?_ | refine blk_alloc ?_ _)); refine blk_far ?_ NB251_252.out _; (with_reducible repeat (first | refine blk_drewN ?_ _ | refine blk_drew ?_ | refine blk_alloc ?_ _)); refine blk_far ?_ NB251_252.out _; (with_reducible repeat (first | refine blk_drewN ?_ _ | refine blk_drew ?_ | refine blk_alloc ?_ _)); exact BK251.out) hb); have n1_ := Aside0.mk (blk_below (g := gb252) (o := .cells #[.int .i64 (-1), .int .i64 (-1)] 37 (0, 0)) (by (with_reducible repeat (first | refine blk_drewN ?_ _ | refine blk_drew ?_ | refine blk_alloc ?_ _)); refine blk_put (cs := #[.int .i64 (-1), .int .i64 0]) ?_ 1 _ rfl; (with_reducible repeat (first | refine blk_drewN ?_ _ | refine blk_drew ?_ | refine blk_alloc ?_ _)); refine blk_put (cs := #[.int .i64 0, .int .i64 0]) ?_ 0 _ rfl; (with_reducible repeat (first | refine blk_drewN ?_ _ | refine blk_drew ?_ | refine blk_alloc ?_ _)); exact BK252.out) hb); have n2_ := Aside0.mk (below_step (bz2 HB.out GE251.out GE252.out) hb); clear BK251; clear BK252; clear HB; have BK251 := n0_; have BK252 := n1_; have HB := n2_; clear n0_ n1_ n2_; (try clear hb); (try clear hb2); (try clear hk); (try clear hi)) | (go_at_call 41; (with_reducible refine (spec_l1In.calls a1 0 (wrap64 ((l0.length : Int) - 1)) true _ A10.out).mono ?_); rintro e w' ⟨rfl, ⟨nd, rfl⟩⟩; (try first | exact ⟨rfl, _, World.drewN_drewN _ _ _⟩ | exact ⟨rfl, _, Eq.trans (World.drewN_drewN _ _ _) (congrArg (World.drewN _) (Nat.add_assoc _ _ _))⟩); have p255 : 0 ≤ (a1 : Int) := of_decide_eq_true az; have q255 : a1 < (l0.length : Int) := of_decide_eq_true az; obtain ⟨ad255, e255, hx255_0, hx255_1, hx255_2, hx255_3, hx255_4, hx255_5, hx255_6⟩ := at_T54 HR0.out a1 p255 q255; cases e255; replace hx255_0 := hz HB.out hx255_0; replace hx255_1 := hz HB.out hx255_1; replace hx255_2 := hz HB.out hx255_2; replace hx255_3 := hz HB.out hx255_3; replace hx255_4 := hz HB.out hx255_4; replace hx255_5 := hz HB.out hx255_5; replace hx255_6 := hz HB.out hx255_6; replace p255 := eq_true p255; replace q255 := eq_true q255))
      repeat (go_quiet (first | (go_at_call 12; (with_reducible refine (spec_NodesOk.calls k _ _ l0 true _ ?side1 ?side2 A8.out).mono ?_); (case side1 => exact Kd.C_below HR0.out (bz2 HB.out GE251.out GE252.out)); (case side2 => exact HC0.out); rintro e w14 ⟨rfl, hb⟩; have n0_ := Aside0.mk (blk_below (g := gb251) (o := .cells #[.int .i64 0, .int .i64 0] 37 (0, 0)) (by (with_reducible repeat (first | refine blk_drewN ?_ _ | refine blk_drew ?_ | refine blk_alloc ?_ _)); refine blk_far ?_ NB251_252.out _; (with_reducible repeat (first | refine blk_drewN ?_ _ | refine blk_drew ?_ | refine blk_alloc ?_ _)); refine blk_far ?_ NB251_252.out _; (with_reducible repeat (first | refine blk_drewN ?_ _ | refine blk_drew ?_ | refine blk_alloc ?_ _)); exact BK251.out) hb); have n1_ := Aside0.mk (blk_below (g := gb252) (o := .cells #[.int .i64 (-1), .int .i64 (-1)] 37 (0, 0)) (by (with_reducible repeat (first | refine blk_drewN ?_ _ | refine blk_drew ?_ | refine blk_alloc ?_ _)); refine blk_put (cs := #[.int .i64 (-1), .int .i64 0]) ?_ 1 _ rfl; (with_reducible repeat (first | refine blk_drewN ?_ _ | refine blk_drew ?_ | refine blk_alloc ?_ _)); refine blk_put (cs := #[.int .i64 0, .int .i64 0]) ?_ 0 _ rfl; (with_reducible repeat (first | refine blk_drewN ?_ _ | refine blk_drew ?_ | refine blk_alloc ?_ _)); exact BK252.out) hb); have n2_ := Aside0.mk (below_step (bz2 HB.out GE251.out GE252.out) hb); clear BK251; clear BK252; clear HB; have BK251 := n0_; have BK252 := n1_; have HB := n2_; clear n0_ n1_ n2_; (try clear hb); (try clear hb2); (try clear hk); (try clear hi)) | (go_at_call 41; (with_reducible refine (spec_l1In.calls a1 0 (wrap64 ((l0.length : Int) - 1)) true _ A10.out).mono ?_); rintro e w' ⟨rfl, ⟨nd, rfl⟩⟩; (try first | exact ⟨rfl, _, World.drewN_drewN _ _ _⟩ | exact ⟨rfl, _, Eq.trans (World.drewN_drewN _ _ _) (congrArg (World.drewN _) (Nat.add_assoc _ _ _))⟩); have p255 : 0 ≤ (a1 : Int) := of_decide_eq_true az; have q255 : a1 < (l0.length : Int) := of_decide_eq_true az; obtain ⟨ad255, e255, hx255_0, hx255_1, hx255_2, hx255_3, hx255_4, hx255_5, hx255_6⟩ := at_T54 HR0.out a1 p255 q255; cases e255; replace hx255_0 := hz HB.out hx255_0; replace hx255_1 := hz HB.out hx255_1; replace hx255_2 := hz HB.out hx255_2; replace hx255_3 := hz HB.out hx255_3; replace hx255_4 := hz HB.out hx255_4; replace hx255_5 := hz HB.out hx255_5; replace hx255_6 := hz HB.out hx255_6; replace p255 := eq_true p255; replace q255 := eq_true q255)); try go_wp2_with (first | (go_at_call 12; (with_reducible refine (spec_NodesOk.calls k _ _ l0 true _ ?side1 ?side2 A8.out).mono ?_); (case side1 => exact Kd.C_below HR0.out (bz2 HB.out GE251.out GE252.out)); (case side2 => exact HC0.out); rintro e w14 ⟨rfl, hb⟩; have n0_ := Aside0.mk (blk_below (g := gb251) (o := .cells #[.int .i64 0, .int .i64 0] 37 (0, 0)) (by (with_reducible repeat (first | refine blk_drewN ?_ _ | refine blk_drew ?_ | refine blk_alloc ?_ _)); refine blk_far ?_ NB251_252.out _; (with_reducible repeat (first | refine blk_drewN ?_ _ | refine blk_drew ?_ | refine blk_alloc ?_ _)); refine blk_far ?_ NB251_252.out _; (with_reducible repeat (first | refine blk_drewN ?_ _ | refine blk_drew ?_ | refine blk_alloc ?_ _)); exact BK251.out) hb); have n1_ := Aside0.mk (blk_below (g := gb252) (o := .cells #[.int .i64 (-1), .int .i64 (-1)] 37 (0, 0)) (by (with_reducible repeat (first | refine blk_drewN ?_ _ | refine blk_drew ?_ | refine blk_alloc ?_ _)); refine blk_put (cs := #[.int .i64 (-1), .int .i64 0]) ?_ 1 _ rfl; (with_reducible repeat (first | refine blk_drewN ?_ _ | refine blk_drew ?_ | refine blk_alloc ?_ _)); refine blk_put (cs := #[.int .i64 0, .int .i64 0]) ?_ 0 _ rfl; (with_reducible repeat (first | refine blk_drewN ?_ _ | refine blk_drew ?_ | refine blk_alloc ?_ _)); exact BK252.out) hb); have n2_ := Aside0.mk (below_step (bz2 HB.out GE251.out GE252.out) hb); clear BK251; clear BK252; clear HB; have BK251 := n0_; have BK252 := n1_; have HB := n2_; clear n0_ n1_ n2_; (try clear hb); (try clear hb2); (try clear hk); (try clear hi)) | (go_at_call 41; (with_reducible refine (spec_l1In.calls a1 0 (wrap64 ((l0.length : Int) - 1)) true _ A10.out).mono ?_); rintro e w' ⟨rfl, ⟨nd, rfl⟩⟩; (try first | exact ⟨rfl, _, World.drewN_drewN _ _ _⟩ | exact ⟨rfl, _, Eq.trans (World.drewN_drewN _ _ _) (congrArg (World.drewN _) (Nat.add_assoc _ _ _))⟩); have p255 : 0 ≤ (a1 : Int) := of_decide_eq_true az; have q255 : a1 < (l0.length : Int) := of_decide_eq_true az; obtain ⟨ad255, e255, hx255_0, hx255_1, hx255_2, hx255_3, hx255_4, hx255_5, hx255_6⟩ := at_T54 HR0.out a1 p255 q255; cases e255; replace hx255_0 := hz HB.out hx255_0; replace hx255_1 := hz HB.out hx255_1; replace hx255_2 := hz HB.out hx255_2; replace hx255_3 := hz HB.out hx255_3; replace hx255_4 := hz HB.out hx255_4; replace hx255_5 := hz HB.out hx255_5; replace hx255_6 := hz HB.out hx255_6; replace p255 := eq_true p255; replace q255 := eq_true q255)))
      go_meet
      case rel => exact ⟨_, ((((rd_T54 l0 a1).f0) != 1)), ez, H', ⟨by first | omega | exact Nat.le_refl _⟩, ⟨by (with_reducible repeat (first | refine blk_drewN ?_ _ | refine blk_drew ?_ | refine blk_alloc ?_ _)); exact BK251.out⟩, ⟨by (with_reducible repeat (first | refine blk_drewN ?_ _ | refine blk_drew ?_ | refine blk_alloc ?_ _)); exact BK252.out⟩, ⟨(bz2 HB.out GE251.out GE252.out)⟩⟩
     ·rw [if_neg c13] at H
      exact absurd H (by simp)
    ·rw [if_neg c12] at H
     exact absurd H (by simp)
   ·replace c11 := Bool.eq_false_iff.mpr c11
    subst c11
    have H1 : (spec_BinderOf.j0 k l0 a1 true (-1) (-1)) = some (r1, r2) := by rw [if_neg (show ¬ (false = true) by decide)] at H; exact H
    clear H
    have H := H1
    clear H1
    have H' := Aside0.mk H
    clear H
    go_wp2_with (first | (go_at_call 12; (with_reducible refine (spec_NodesOk.calls k _ _ l0 true _ ?side1 ?side2 A8.out).mono ?_); (case side1 => exact Kd.C_below HR0.out (bz2 HB.out GE251.out GE252.out)); (case side2 => exact HC0.out); rintro e w15 ⟨rfl, hb⟩; have n0_ := Aside0.mk (blk_below (g := gb251) (o := .cells #[.int .i64 0, .int .i64 0] 37 (0, 0)) (by (with_reducible repeat (first | refine blk_drewN ?_ _ | refine blk_drew ?_ | refine blk_alloc ?_ _)); refine blk_far ?_ NB251_252.out _; (with_reducible repeat (first | refine blk_drewN ?_ _ | refine blk_drew ?_ | refine blk_alloc ?_ _)); refine blk_far ?_ NB251_252.out _; (with_reducible repeat (first | refine blk_drewN ?_ _ | refine blk_drew ?_ | refine blk_alloc ?_ _)); exact BK251.out) hb); have n1_ := Aside0.mk (blk_below (g := gb252) (o := .cells #[.int .i64 (-1), .int .i64 (-1)] 37 (0, 0)) (by (with_reducible repeat (first | refine blk_drewN ?_ _ | refine blk_drew ?_ | refine blk_alloc ?_ _)); refine blk_put (cs := #[.int .i64 (-1), .int .i64 0]) ?_ 1 _ rfl; (with_reducible repeat (first | refine blk_drewN ?_ _ | refine blk_drew ?_ | refine blk_alloc ?_ _)); refine blk_put (cs := #[.int .i64 0, .int .i64 0]) ?_ 0 _ rfl; (with_reducible repeat (first | refine blk_drewN ?_ _ | refine blk_drew ?_ | refine blk_alloc ?_ _)); exact BK252.out) hb); have n2_ := Aside0.mk (below_step (bz2 HB.out GE251.out GE252.out) hb); clear BK251; clear BK252; clear HB; have BK251 := n0_; have BK252 := n1_; have HB := n2_; clear n0_ n1_ n2_; (try clear hb); (try clear hb2); (try clear hk); (try clear hi)) | (go_at_call 41; (with_reducible refine (spec_l1In.calls a1 0 (wrap64 ((l0.length : Int) - 1)) false _ A10.out).mono ?_); rintro e w' ⟨rfl, ⟨nd, rfl⟩⟩; (try first | exact ⟨rfl, _, World.drewN_drewN _ _ _⟩ | exact ⟨rfl, _, Eq.trans (World.drewN_drewN _ _ _) (congrArg (World.drewN _) (Nat.add_assoc _ _ _))⟩)))
    repeat (go_quiet (first | (go_at_call 12; (with_reducible refine (spec_NodesOk.calls k _ _ l0 true _ ?side1 ?side2 A8.out).mono ?_); (case side1 => exact Kd.C_below HR0.out (bz2 HB.out GE251.out GE252.out)); (case side2 => exact HC0.out); rintro e w15 ⟨rfl, hb⟩; have n0_ := Aside0.mk (blk_below (g := gb251) (o := .cells #[.int .i64 0, .int .i64 0] 37 (0, 0)) (by (with_reducible repeat (first | refine blk_drewN ?_ _ | refine blk_drew ?_ | refine blk_alloc ?_ _)); refine blk_far ?_ NB251_252.out _; (with_reducible repeat (first | refine blk_drewN ?_ _ | refine blk_drew ?_ | refine blk_alloc ?_ _)); refine blk_far ?_ NB251_252.out _; (with_reducible repeat (first | refine blk_drewN ?_ _ | refine blk_drew ?_ | refine blk_alloc ?_ _)); exact BK251.out) hb); have n1_ := Aside0.mk (blk_below (g := gb252) (o := .cells #[.int .i64 (-1), .int .i64 (-1)] 37 (0, 0)) (by (with_reducible repeat (first | refine blk_drewN ?_ _ | refine blk_drew ?_ | refine blk_alloc ?_ _)); refine blk_put (cs := #[.int .i64 (-1), .int .i64 0]) ?_ 1 _ rfl; (with_reducible repeat (first | refine blk_drewN ?_ _ | refine blk_drew ?_ | refine blk_alloc ?_ _)); refine blk_put (cs := #[.int .i64 0, .int .i64 0]) ?_ 0 _ rfl; (with_reducible repeat (first | refine blk_drewN ?_ _ | refine blk_drew ?_ | refine blk_alloc ?_ _)); exact BK252.out) hb); have n2_ := Aside0.mk (below_step (bz2 HB.out GE251.out GE252.out) hb); clear BK251; clear BK252; clear HB; have BK251 := n0_; have BK252 := n1_; have HB := n2_; clear n0_ n1_ n2_; (try clear hb); (try clear hb2); (try clear hk); (try clear hi)) | (go_at_call 41; (with_reducible refine (spec_l1In.calls a1 0 (wrap64 ((l0.length : Int) - 1)) false _ A10.out).mono ?_); rintro e w' ⟨rfl, ⟨nd, rfl⟩⟩; (try first | exact ⟨rfl, _, World.drewN_drewN _ _ _⟩ | exact ⟨rfl, _, Eq.trans (World.drewN_drewN _ _ _) (congrArg (World.drewN _) (Nat.add_assoc _ _ _))⟩))); try go_wp2_with (first | (go_at_call 12; (with_reducible refine (spec_NodesOk.calls k _ _ l0 true _ ?side1 ?side2 A8.out).mono ?_); (case side1 => exact Kd.C_below HR0.out (bz2 HB.out GE251.out GE252.out)); (case side2 => exact HC0.out); rintro e w15 ⟨rfl, hb⟩; have n0_ := Aside0.mk (blk_below (g := gb251) (o := .cells #[.int .i64 0, .int .i64 0] 37 (0, 0)) (by (with_reducible repeat (first | refine blk_drewN ?_ _ | refine blk_drew ?_ | refine blk_alloc ?_ _)); refine blk_far ?_ NB251_252.out _; (with_reducible repeat (first | refine blk_drewN ?_ _ | refine blk_drew ?_ | refine blk_alloc ?_ _)); refine blk_far ?_ NB251_252.out _; (with_reducible repeat (first | refine blk_drewN ?_ _ | refine blk_drew ?_ | refine blk_alloc ?_ _)); exact BK251.out) hb); have n1_ := Aside0.mk (blk_below (g := gb252) (o := .cells #[.int .i64 (-1), .int .i64 (-1)] 37 (0, 0)) (by (with_reducible repeat (first | refine blk_drewN ?_ _ | refine blk_drew ?_ | refine blk_alloc ?_ _)); refine blk_put (cs := #[.int .i64 (-1), .int .i64 0]) ?_ 1 _ rfl; (with_reducible repeat (first | refine blk_drewN ?_ _ | refine blk_drew ?_ | refine blk_alloc ?_ _)); refine blk_put (cs := #[.int .i64 0, .int .i64 0]) ?_ 0 _ rfl; (with_reducible repeat (first | refine blk_drewN ?_ _ | refine blk_drew ?_ | refine blk_alloc ?_ _)); exact BK252.out) hb); have n2_ := Aside0.mk (below_step (bz2 HB.out GE251.out GE252.out) hb); clear BK251; clear BK252; clear HB; have BK251 := n0_; have BK252 := n1_; have HB := n2_; clear n0_ n1_ n2_; (try clear hb); (try clear hb2); (try clear hk); (try clear hi)) | (go_at_call 41; (with_reducible refine (spec_l1In.calls a1 0 (wrap64 ((l0.length : Int) - 1)) false _ A10.out).mono ?_); rintro e w' ⟨rfl, ⟨nd, rfl⟩⟩; (try first | exact ⟨rfl, _, World.drewN_drewN _ _ _⟩ | exact ⟨rfl, _, Eq.trans (World.drewN_drewN _ _ _) (congrArg (World.drewN _) (Nat.add_assoc _ _ _))⟩))))
    go_meet
    case rel => exact ⟨_, (true), ez, H', ⟨by first | omega | exact Nat.le_refl _⟩, ⟨by (with_reducible repeat (first | refine blk_drewN ?_ _ | refine blk_drew ?_ | refine blk_alloc ?_ _)); exact BK251.out⟩, ⟨by (with_reducible repeat (first | refine blk_drewN ?_ _ | refine blk_drew ?_ | refine blk_alloc ?_ _)); exact BK252.out⟩, ⟨(bz2 HB.out GE251.out GE252.out)⟩⟩
  ·replace c9 := Bool.eq_false_iff.mpr c9
   subst c9
   have H1 : (spec_BinderOf.j0 k l0 a1 true (-1) (-1)) = some (r1, r2) := by rw [if_neg (show ¬ (false = true) by decide)] at H; exact H
   clear H
   have H := H1
   clear H1
   have H' := Aside0.mk H
   clear H
   go_wp2_with (first | (go_at_call 12; (with_reducible refine (spec_NodesOk.calls k _ _ l0 false _ ?side1 ?side2 A8.out).mono ?_); (case side1 => exact Kd.C_below HR0.out (bz2 HB.out GE251.out GE252.out)); (case side2 => exact HC0.out); rintro e w16 ⟨rfl, hb⟩; have n0_ := Aside0.mk (blk_below (g := gb251) (o := .cells #[.int .i64 0, .int .i64 0] 37 (0, 0)) (by (with_reducible repeat (first | refine blk_drewN ?_ _ | refine blk_drew ?_ | refine blk_alloc ?_ _)); refine blk_far ?_ NB251_252.out _; (with_reducible repeat (first | refine blk_drewN ?_ _ | refine blk_drew ?_ | refine blk_alloc ?_ _)); refine blk_far ?_ NB251_252.out _; (with_reducible repeat (first | refine blk_drewN ?_ _ | refine blk_drew ?_ | refine blk_alloc ?_ _)); exact BK251.out) hb); have n1_ := Aside0.mk (blk_below (g := gb252) (o := .cells #[.int .i64 (-1), .int .i64 (-1)] 37 (0, 0)) (by (with_reducible repeat (first | refine blk_drewN ?_ _ | refine blk_drew ?_ | refine blk_alloc ?_ _)); refine blk_put (cs := #[.int .i64 (-1), .int .i64 0]) ?_ 1 _ rfl; (with_reducible repeat (first | refine blk_drewN ?_ _ | refine blk_drew ?_ | refine blk_alloc ?_ _)); refine blk_put (cs := #[.int .i64 0, .int .i64 0]) ?_ 0 _ rfl; (with_reducible repeat (first | refine blk_drewN ?_ _ | refine blk_drew ?_ | refine blk_alloc ?_ _)); exact BK252.out) hb); have n2_ := Aside0.mk (below_step (bz2 HB.out GE251.out GE252.out) hb); clear BK251; clear BK252; clear HB; have BK251 := n0_; have BK252 := n1_; have HB := n2_; clear n0_ n1_ n2_; (try clear hb); (try clear hb2); (try clear hk); (try clear hi)))
   repeat (go_quiet (first | (go_at_call 12; (with_reducible refine (spec_NodesOk.calls k _ _ l0 false _ ?side1 ?side2 A8.out).mono ?_); (case side1 => exact Kd.C_below HR0.out (bz2 HB.out GE251.out GE252.out)); (case side2 => exact HC0.out); rintro e w16 ⟨rfl, hb⟩; have n0_ := Aside0.mk (blk_below (g := gb251) (o := .cells #[.int .i64 0, .int .i64 0] 37 (0, 0)) (by (with_reducible repeat (first | refine blk_drewN ?_ _ | refine blk_drew ?_ | refine blk_alloc ?_ _)); refine blk_far ?_ NB251_252.out _; (with_reducible repeat (first | refine blk_drewN ?_ _ | refine blk_drew ?_ | refine blk_alloc ?_ _)); refine blk_far ?_ NB251_252.out _; (with_reducible repeat (first | refine blk_drewN ?_ _ | refine blk_drew ?_ | refine blk_alloc ?_ _)); exact BK251.out) hb); have n1_ := Aside0.mk (blk_below (g := gb252) (o := .cells #[.int .i64 (-1), .int .i64 (-1)] 37 (0, 0)) (by (with_reducible repeat (first | refine blk_drewN ?_ _ | refine blk_drew ?_ | refine blk_alloc ?_ _)); refine blk_put (cs := #[.int .i64 (-1), .int .i64 0]) ?_ 1 _ rfl; (with_reducible repeat (first | refine blk_drewN ?_ _ | refine blk_drew ?_ | refine blk_alloc ?_ _)); refine blk_put (cs := #[.int .i64 0, .int .i64 0]) ?_ 0 _ rfl; (with_reducible repeat (first | refine blk_drewN ?_ _ | refine blk_drew ?_ | refine blk_alloc ?_ _)); exact BK252.out) hb); have n2_ := Aside0.mk (below_step (bz2 HB.out GE251.out GE252.out) hb); clear BK251; clear BK252; clear HB; have BK251 := n0_; have BK252 := n1_; have HB := n2_; clear n0_ n1_ n2_; (try clear hb); (try clear hb2); (try clear hk); (try clear hi))); try go_wp2_with (first | (go_at_call 12; (with_reducible refine (spec_NodesOk.calls k _ _ l0 false _ ?side1 ?side2 A8.out).mono ?_); (case side1 => exact Kd.C_below HR0.out (bz2 HB.out GE251.out GE252.out)); (case side2 => exact HC0.out); rintro e w16 ⟨rfl, hb⟩; have n0_ := Aside0.mk (blk_below (g := gb251) (o := .cells #[.int .i64 0, .int .i64 0] 37 (0, 0)) (by (with_reducible repeat (first | refine blk_drewN ?_ _ | refine blk_drew ?_ | refine blk_alloc ?_ _)); refine blk_far ?_ NB251_252.out _; (with_reducible repeat (first | refine blk_drewN ?_ _ | refine blk_drew ?_ | refine blk_alloc ?_ _)); refine blk_far ?_ NB251_252.out _; (with_reducible repeat (first | refine blk_drewN ?_ _ | refine blk_drew ?_ | refine blk_alloc ?_ _)); exact BK251.out) hb); have n1_ := Aside0.mk (blk_below (g := gb252) (o := .cells #[.int .i64 (-1), .int .i64 (-1)] 37 (0, 0)) (by (with_reducible repeat (first | refine blk_drewN ?_ _ | refine blk_drew ?_ | refine blk_alloc ?_ _)); refine blk_put (cs := #[.int .i64 (-1), .int .i64 0]) ?_ 1 _ rfl; (with_reducible repeat (first | refine blk_drewN ?_ _ | refine blk_drew ?_ | refine blk_alloc ?_ _)); refine blk_put (cs := #[.int .i64 0, .int .i64 0]) ?_ 0 _ rfl; (with_reducible repeat (first | refine blk_drewN ?_ _ | refine blk_drew ?_ | refine blk_alloc ?_ _)); exact BK252.out) hb); have n2_ := Aside0.mk (below_step (bz2 HB.out GE251.out GE252.out) hb); clear BK251; clear BK252; clear HB; have BK251 := n0_; have BK252 := n1_; have HB := n2_; clear n0_ n1_ n2_; (try clear hb); (try clear hb2); (try clear hk); (try clear hi))))
   go_meet
   case rel => exact ⟨_, (true), ez, H', ⟨by first | omega | exact Nat.le_refl _⟩, ⟨by (with_reducible repeat (first | refine blk_drewN ?_ _ | refine blk_drew ?_ | refine blk_alloc ?_ _)); exact BK251.out⟩, ⟨by (with_reducible repeat (first | refine blk_drewN ?_ _ | refine blk_drew ?_ | refine blk_alloc ?_ _)); exact BK252.out⟩, ⟨(bz2 HB.out GE251.out GE252.out)⟩⟩
 case rest =>
  clear HC3
  try clear c1
  try clear c2
  try clear p2
  try clear q2
  try clear hx2
  try clear c6
  try clear p6
  try clear c9
  try clear c11
  try clear c12
  try clear c12b0
  try clear c13
  try clear c13b0
  try clear hcz7_0
  try clear hcz7_1
  try clear hfz7_0
  try clear hfz7_1
  try clear hx255_0
  try clear hx255_1
  try clear hx255_2
  try clear hx255_3
  try clear hx255_4
  try clear hx255_5
  try clear hx255_6
  try clear p255
  try clear q255
  obtain ⟨kq, x30_2, rfl, HA, HJ2, BK251, BK252, HB⟩ := hcut
  cases kq with
  | zero => exact absurd HA.out (by simp [spec_BinderOf.j0])
  | succ kj2 =>
   have H := HA.out
   clear HA
   simp only [spec_BinderOf.j0] at H
   by_cases c17 : x30_2 = true
   ·subst c17
    have H1 : (some ((-1), (-1))) = some (r1, r2) := by rw [if_pos rfl] at H; exact H
    clear H
    have H := H1
    clear H1
    simp only [Option.some.injEq, Prod.mk.injEq] at H
    obtain ⟨rfl, rfl⟩ := H
    have hnb18 := NB252_251.out
    have hnc18 := NB251_252.out
    have hcz19_0 : wc.cell? ⟨gb252, 0, none⟩ = some (.int .i64 (-1)) := (blk_cell BK252.out 0).trans rfl
    have hcz19_1 : wc.cell? ⟨gb252, 1, none⟩ = some (.int .i64 (-1)) := (blk_cell BK252.out 1).trans rfl
    have hfz19_0 := blk_frozen BK252.out 0
    have hfz19_1 := blk_frozen BK252.out 1
    have hcz20_0 : wc.cell? ⟨gb251, 0, none⟩ = some (.int .i64 0) := (blk_cell BK251.out 0).trans rfl
    have hcz20_1 : wc.cell? ⟨gb251, 1, none⟩ = some (.int .i64 0) := (blk_cell BK251.out 1).trans rfl
    have hfz20_0 := blk_frozen BK251.out 0
    have hfz20_1 := blk_frozen BK251.out 1
    go_wp2
    repeat (go_quiet (fail); try go_wp2)
    refine bodyPost_ret (results_cell_row rfl _ _ gb251 37 #[.int .i64 (-1), .int .i64 (-1)] (0, 0) _ rfl (by (with_reducible repeat (first | refine blk_drewN ?_ _ | refine blk_drew ?_ | refine blk_alloc ?_ _)); refine blk_put (cs := #[.int .i64 (-1), .int .i64 0]) ?_ 1 _ rfl; (with_reducible repeat (first | refine blk_drewN ?_ _ | refine blk_drew ?_ | refine blk_alloc ?_ _)); refine blk_put (cs := #[.int .i64 0, .int .i64 0]) ?_ 0 _ rfl; (with_reducible repeat (first | refine blk_drewN ?_ _ | refine blk_drew ?_ | refine blk_alloc ?_ _)); exact BK251.out) Tryd.underlying37 rfl (by kernel_rfl)) rfl ?_
    exact ⟨gz, (bz2 HB.out GE251.out GE252.out)⟩
   ·replace c17 := Bool.eq_false_iff.mpr c17
    subst c17
    have H1 : ((spec_ParentOf.f kj2 l0 a1).bind fun t256 => (spec_BinderOf.l0 kj2 l0 a1 a1 t256 (-1) (-1))) = some (r1, r2) := by rw [if_neg (show ¬ (false = true) by decide)] at H; exact H
    clear H
    have H := H1
    clear H1
    replace H := Option.bind_eq_some_iff.mp H
    obtain ⟨t256, A210, H⟩ := H
    replace H : (spec_BinderOf.l0 kj2 l0 a1 a1 t256 (-1) (-1)) = some (r1, r2) := H
    have A21 := Aside0.mk A210
    clear A210
    have H' := Aside0.mk H
    clear H
    go_wp2_with (first | (go_at_call 20; (with_reducible refine (spec_ParentOf.calls kj2 _ _ l0 a1 t256 _ ?side1 ?side2 A21.out).mono ?_); (case side1 => exact cz (Kd.C_below HR0.out HB.out)); (case side2 => exact HC0.out); rintro e w22 ⟨rfl, hb⟩; have n0_ := Aside0.mk (blk_below (g := gb251) (o := .cells #[.int .i64 0, .int .i64 0] 37 (0, 0)) (kz BK251.out) hb); have n1_ := Aside0.mk (blk_below (g := gb252) (o := .cells #[.int .i64 (-1), .int .i64 (-1)] 37 (0, 0)) (kz BK252.out) hb); have n2_ := Aside0.mk (below_step (bz2 HB.out GE251.out GE252.out) hb); clear BK251; clear BK252; clear HB; have BK251 := n0_; have BK252 := n1_; have HB := n2_; clear n0_ n1_ n2_; (try clear hb); (try clear hb2); (try clear hk); (try clear hi)))
    repeat (go_quiet (first | (go_at_call 20; (with_reducible refine (spec_ParentOf.calls kj2 _ _ l0 a1 t256 _ ?side1 ?side2 A21.out).mono ?_); (case side1 => exact cz (Kd.C_below HR0.out HB.out)); (case side2 => exact HC0.out); rintro e w22 ⟨rfl, hb⟩; have n0_ := Aside0.mk (blk_below (g := gb251) (o := .cells #[.int .i64 0, .int .i64 0] 37 (0, 0)) (kz BK251.out) hb); have n1_ := Aside0.mk (blk_below (g := gb252) (o := .cells #[.int .i64 (-1), .int .i64 (-1)] 37 (0, 0)) (kz BK252.out) hb); have n2_ := Aside0.mk (below_step (bz2 HB.out GE251.out GE252.out) hb); clear BK251; clear BK252; clear HB; have BK251 := n0_; have BK252 := n1_; have HB := n2_; clear n0_ n1_ n2_; (try clear hb); (try clear hb2); (try clear hk); (try clear hi))); try go_wp2_with (first | (go_at_call 20; (with_reducible refine (spec_ParentOf.calls kj2 _ _ l0 a1 t256 _ ?side1 ?side2 A21.out).mono ?_); (case side1 => exact cz (Kd.C_below HR0.out HB.out)); (case side2 => exact HC0.out); rintro e w22 ⟨rfl, hb⟩; have n0_ := Aside0.mk (blk_below (g := gb251) (o := .cells #[.int .i64 0, .int .i64 0] 37 (0, 0)) (kz BK251.out) hb); have n1_ := Aside0.mk (blk_below (g := gb252) (o := .cells #[.int .i64 (-1), .int .i64 (-1)] 37 (0, 0)) (kz BK252.out) hb); have n2_ := Aside0.mk (below_step (bz2 HB.out GE251.out GE252.out) hb); clear BK251; clear BK252; clear HB; have BK251 := n0_; have BK252 := n1_; have HB := n2_; clear n0_ n1_ n2_; (try clear hb); (try clear hb2); (try clear hk); (try clear hi))))
    go_loopg [6, 7] kj2 (fun kq v6 v7 w' => ∃ (x6_2 : Int) (x7_2 : Int) (x252000_2 : Int) (x252001_2 : Int), v6 = .int .i64 x6_2 ∧ v7 = .int .i64 x7_2 ∧ Aside0 (spec_BinderOf.l0 kq l0 a1 x6_2 x7_2 (-1) (-1) = some (r1, r2)) ∧ Aside0 (kq ≤ kj2) ∧ Aside0 (w'.heap[gb251]? = some (.cells #[.int .i64 x252000_2, .int .i64 x252001_2] 37 (0, 0))) ∧ Aside0 (w'.heap[gb252]? = some (.cells #[.int .i64 (-1), .int .i64 (-1)] 37 (0, 0))) ∧ Aside0 (Below w.heap.size w w'))
    case atStart => exact ⟨(a1), (t256), (0), (0), ez, ez, H', ⟨Nat.le_refl _⟩, ⟨by (with_reducible repeat (first | refine blk_drewN ?_ _ | refine blk_drew ?_ | refine blk_alloc ?_ _)); exact BK251.out⟩, ⟨by (with_reducible repeat (first | refine blk_drewN ?_ _ | refine blk_drew ?_ | refine blk_alloc ?_ _)); exact BK252.out⟩, ⟨(bz2 HB.out GE251.out GE252.out)⟩⟩
    case round =>
     clear H'
     try clear c1
     try clear c2
     try clear p2
     try clear q2
     try clear hx2
     try clear c6
     try clear p6
     try clear c9
     try clear c11
     try clear c12
     try clear c12b0
     try clear c13
     try clear c13b0
     try clear c17
     try clear c18
     try clear hcz19_0
     try clear hcz19_1
     try clear hcz20_0
     try clear hcz20_1
     try clear hcz7_0
     try clear hcz7_1
     try clear hfz19_0
     try clear hfz19_1
     try clear hfz20_0
     try clear hfz20_1
     try clear hfz7_0
     try clear hfz7_1
     try clear hx255_0
     try clear hx255_1
     try clear hx255_2
     try clear hx255_3
     try clear hx255_4
     try clear hx255_5
     try clear hx255_6
     try clear p2
     try clear p255
     try clear p6
     try clear q2
     try clear q255
     obtain ⟨x6_2, x7_2, x252000_2, x252001_2, rfl, rfl, HA, HK2, BK251, BK252, HB⟩ := hrel
     cases gk with
     | zero => exact absurd HA.out (by simp [spec_BinderOf.l0])
     | succ k2 =>
      have H := HA.out
      clear HA
      simp only [spec_BinderOf.l0] at H
      by_cases c23 : x7_2 ≥ 0
      ·rw [if_pos c23] at H
       have c23b0 : decide (0 ≤ x7_2) = true := decide_eq_true c23
       clear c23
       by_cases c24 : 0 ≤ x7_2
       ·rw [if_pos c24] at H
        have c24b0 : decide (0 ≤ x7_2) = true := decide_eq_true c24
        clear c24
        by_cases c25 : x7_2 < (l0.length : Int)
        ·rw [if_pos c25] at H
         have c25b0 : decide (x7_2 < (l0.length : Int)) = true := decide_eq_true c25
         clear c25
         replace H := Option.bind_eq_some_iff.mp H
         obtain ⟨⟨t258, t261⟩, A260, H⟩ := H
         replace H : (spec_BinderOf.l1 k2 l0 a1 x7_2 t258 t261 0 (-1) (-1)) = some (r1, r2) := H
         have A26 := Aside0.mk A260
         clear A260
         have H' := Aside0.mk H
         clear H
         have p257 : 0 ≤ (x7_2 : Int) := of_decide_eq_true az
         have q257 : x7_2 < (l0.length : Int) := of_decide_eq_true az
         obtain ⟨ad257, e257, hx257_0, hx257_1, hx257_2, hx257_3, hx257_4, hx257_5, hx257_6⟩ := at_T54 HR0.out x7_2 p257 q257
         cases e257
         replace hx257_0 := hz HB.out hx257_0
         replace hx257_1 := hz HB.out hx257_1
         replace hx257_2 := hz HB.out hx257_2
         replace hx257_3 := hz HB.out hx257_3
         replace hx257_4 := hz HB.out hx257_4
         replace hx257_5 := hz HB.out hx257_5
         replace hx257_6 := hz HB.out hx257_6
         replace p257 := eq_true p257
         replace q257 := eq_true q257
         go_wp2_with (first | (go_at_call 56; (with_reducible refine (spec_l6Bound.calls k2 ((rd_T54 l0 x7_2).f0) ((rd_T54 l0 x7_2).f1) ((rd_T54 l0 x7_2).f2) ((rd_T54 l0 x7_2).f3) ((rd_T54 l0 x7_2).f4) ((rd_T54 l0 x7_2).f5) ((rd_T54 l0 x7_2).f6) x6_2 t258 t261 _ A26.out).mono ?_); rintro e w27 ⟨v259, v262, rfl, ho0, ho1, hb⟩; have n0_ := Aside0.mk (Kd.R_lower ho0 (below_size (bz2 HB.out GE251.out GE252.out))); have n1_ := Aside0.mk (Kd.R_lower ho1 (below_size (bz2 HB.out GE251.out GE252.out))); have n2_ := Aside0.mk (blk_below (g := gb251) (o := .cells #[.int .i64 x252000_2, .int .i64 x252001_2] 37 (0, 0)) (kz BK251.out) hb); have n3_ := Aside0.mk (blk_below (g := gb252) (o := .cells #[.int .i64 (-1), .int .i64 (-1)] 37 (0, 0)) (kz BK252.out) hb); have n4_ := Aside0.mk (below_step (bz2 HB.out GE251.out GE252.out) hb); clear BK251; clear BK252; clear HB; have HO260 := n0_; have HO263 := n1_; have BK251 := n2_; have BK252 := n3_; have HB := n4_; clear n0_ n1_ n2_ n3_ n4_; (try clear hb); (try clear hb2); (try clear hk); (try clear hi); (try clear ho0); (try clear ho1)))
         repeat (go_quiet (first | (go_at_call 56; (with_reducible refine (spec_l6Bound.calls k2 ((rd_T54 l0 x7_2).f0) ((rd_T54 l0 x7_2).f1) ((rd_T54 l0 x7_2).f2) ((rd_T54 l0 x7_2).f3) ((rd_T54 l0 x7_2).f4) ((rd_T54 l0 x7_2).f5) ((rd_T54 l0 x7_2).f6) x6_2 t258 t261 _ A26.out).mono ?_); rintro e w27 ⟨v259, v262, rfl, ho0, ho1, hb⟩; have n0_ := Aside0.mk (Kd.R_lower ho0 (below_size (bz2 HB.out GE251.out GE252.out))); have n1_ := Aside0.mk (Kd.R_lower ho1 (below_size (bz2 HB.out GE251.out GE252.out))); have n2_ := Aside0.mk (blk_below (g := gb251) (o := .cells #[.int .i64 x252000_2, .int .i64 x252001_2] 37 (0, 0)) (kz BK251.out) hb); have n3_ := Aside0.mk (blk_below (g := gb252) (o := .cells #[.int .i64 (-1), .int .i64 (-1)] 37 (0, 0)) (kz BK252.out) hb); have n4_ := Aside0.mk (below_step (bz2 HB.out GE251.out GE252.out) hb); clear BK251; clear BK252; clear HB; have HO260 := n0_; have HO263 := n1_; have BK251 := n2_; have BK252 := n3_; have HB := n4_; clear n0_ n1_ n2_ n3_ n4_; (try clear hb); (try clear hb2); (try clear hk); (try clear hi); (try clear ho0); (try clear ho1))); try go_wp2_with (first | (go_at_call 56; (with_reducible refine (spec_l6Bound.calls k2 ((rd_T54 l0 x7_2).f0) ((rd_T54 l0 x7_2).f1) ((rd_T54 l0 x7_2).f2) ((rd_T54 l0 x7_2).f3) ((rd_T54 l0 x7_2).f4) ((rd_T54 l0 x7_2).f5) ((rd_T54 l0 x7_2).f6) x6_2 t258 t261 _ A26.out).mono ?_); rintro e w27 ⟨v259, v262, rfl, ho0, ho1, hb⟩; have n0_ := Aside0.mk (Kd.R_lower ho0 (below_size (bz2 HB.out GE251.out GE252.out))); have n1_ := Aside0.mk (Kd.R_lower ho1 (below_size (bz2 HB.out GE251.out GE252.out))); have n2_ := Aside0.mk (blk_below (g := gb251) (o := .cells #[.int .i64 x252000_2, .int .i64 x252001_2] 37 (0, 0)) (kz BK251.out) hb); have n3_ := Aside0.mk (blk_below (g := gb252) (o := .cells #[.int .i64 (-1), .int .i64 (-1)] 37 (0, 0)) (kz BK252.out) hb); have n4_ := Aside0.mk (below_step (bz2 HB.out GE251.out GE252.out) hb); clear BK251; clear BK252; clear HB; have HO260 := n0_; have HO263 := n1_; have BK251 := n2_; have BK252 := n3_; have HB := n4_; clear n0_ n1_ n2_ n3_ n4_; (try clear hb); (try clear hb2); (try clear hk); (try clear hi); (try clear ho0); (try clear ho1))))
         go_loopg [10] k2 (fun kq v10 w' => ∃ (x10_3 : Int) (x252000_3 : Int) (x252001_3 : Int), v10 = .int .i64 x10_3 ∧ Aside0 (spec_BinderOf.l1 kq l0 a1 x7_2 t258 t261 x10_3 (-1) (-1) = some (r1, r2)) ∧ Aside0 (kq ≤ k2) ∧ Aside0 (Kd.R Kd.string 9 w' w.heap.size (fun _ => True) v259 t258) ∧ Aside0 (Kd.R (Kd.int .i64) 3 w' w.heap.size (fun _ => True) v262 t261) ∧ Aside0 (w'.heap[gb251]? = some (.cells #[.int .i64 x252000_3, .int .i64 x252001_3] 37 (0, 0))) ∧ Aside0 (w'.heap[gb252]? = some (.cells #[.int .i64 (-1), .int .i64 (-1)] 37 (0, 0))) ∧ Aside0 (Below w.heap.size w w'))
         case atStart => exact ⟨(0), (x252000_2), (x252001_2), ez, H', ⟨Nat.le_refl _⟩, ⟨by (with_reducible repeat (first | apply Kd.R_alloc | apply Kd.R_drewN | apply Kd.R_drew)); exact HO260.out⟩, ⟨by (with_reducible repeat (first | apply Kd.R_alloc | apply Kd.R_drewN | apply Kd.R_drew)); exact HO263.out⟩, ⟨by (with_reducible repeat (first | refine blk_drewN ?_ _ | refine blk_drew ?_ | refine blk_alloc ?_ _)); exact BK251.out⟩, ⟨by (with_reducible repeat (first | refine blk_drewN ?_ _ | refine blk_drew ?_ | refine blk_alloc ?_ _)); exact BK252.out⟩, ⟨(bz2 HB.out GE251.out GE252.out)⟩⟩
         case round =>
          clear H'
          try clear c1
          try clear c2
          try clear p2
          try clear q2
          try clear hx2
          try clear c6
          try clear p6
          try clear c9
          try clear c11
          try clear c12
          try clear c12b0
          try clear c13
          try clear c13b0
          try clear c17
          try clear c18
          try clear c23
          try clear c23b0
          try clear c24
          try clear c24b0
          try clear c25
          try clear c25b0
          try clear p25
          try clear q25
          try clear hx25
          try clear hcz19_0
          try clear hcz19_1
          try clear hcz20_0
          try clear hcz20_1
          try clear hcz7_0
          try clear hcz7_1
          try clear hfz19_0
          try clear hfz19_1
          try clear hfz20_0
          try clear hfz20_1
          try clear hfz7_0
          try clear hfz7_1
          try clear hx255_0
          try clear hx255_1
          try clear hx255_2
          try clear hx255_3
          try clear hx255_4
          try clear hx255_5
          try clear hx255_6
          try clear hx257_0
          try clear hx257_1
          try clear hx257_2
          try clear hx257_3
          try clear hx257_4
          try clear hx257_5
          try clear hx257_6
          try clear p2
          try clear p255
          try clear p257
          try clear p6
          try clear q2
          try clear q255
          try clear q257
          obtain ⟨x10_3, x252000_3, x252001_3, rfl, HA, HK3, HO_8, HO_9, BK251, BK252, HB⟩ := hrel
          cases gk with
          | zero => exact absurd HA.out (by simp [spec_BinderOf.l1])
          | succ k3 =>
           have H := HA.out
           clear HA
           simp only [spec_BinderOf.l1] at H
           by_cases c28 : x10_3 < (t258.length : Int)
           ·rw [if_pos c28] at H
            have c28b0 : decide (x10_3 < (t258.length : Int)) = true := decide_eq_true c28
            clear c28
            by_cases c29 : 0 ≤ x10_3
            ·rw [if_pos c29] at H
             have c29b0 : decide (0 ≤ x10_3) = true := decide_eq_true c29
             clear c29
             by_cases c30 : 0 ≤ a1
             ·rw [if_pos c30] at H
              have c30b0 : decide (0 ≤ a1) = true := decide_eq_true c30
              clear c30
              by_cases c31 : a1 < (l0.length : Int)
              ·rw [if_pos c31] at H
               have c31b0 : decide (a1 < (l0.length : Int)) = true := decide_eq_true c31
               clear c31
               by_cases c32 : (rdOf ByteArray.empty t258 x10_3).toList = ((rd_T54 l0 a1).f5).toList
               ·rw [if_pos c32] at H
                have c32b0 : ((rdOf ByteArray.empty t258 x10_3).toList == ((rd_T54 l0 a1).f5).toList) = true := beq_iff_eq.mpr c32
                have c32b1 : ((rdOf ByteArray.empty t258 x10_3).toList != ((rd_T54 l0 a1).f5).toList) = false := bne_eq_false_iff_eq.mpr c32
                clear c32
                by_cases c33 : x10_3 < (t261.length : Int)
                ·rw [if_pos c33] at H
                 have c33b0 : decide (x10_3 < (t261.length : Int)) = true := decide_eq_true c33
                 clear c33
                 simp only [Option.some.injEq, Prod.mk.injEq] at H
                 obtain ⟨rfl, rfl⟩ := H
                 obtain ⟨Ao34, co34, eo34⟩ := Kd.R_slice HO_8.out
                 subst eo34
                 have p264 : 0 ≤ (x10_3 : Int) := of_decide_eq_true az
                 have q264 : x10_3 < (t258.length : Int) := of_decide_eq_true az
                 obtain ⟨ad264, e264, hx264_0⟩ := Kd.at_string (Kd.R_reads' HO_8.out).2.2 x10_3 p264 q264
                 cases e264
                 replace p264 := eq_true p264
                 replace q264 := eq_true q264
                 have p265 : 0 ≤ (a1 : Int) := of_decide_eq_true az
                 have q265 : a1 < (l0.length : Int) := of_decide_eq_true az
                 obtain ⟨ad265, e265, hx265_0, hx265_1, hx265_2, hx265_3, hx265_4, hx265_5, hx265_6⟩ := at_T54 HR0.out a1 p265 q265
                 obtain rfl : ad257 = ad265 := (by injection e265)
                 replace hx265_0 := hz HB.out hx265_0
                 replace hx265_1 := hz HB.out hx265_1
                 replace hx265_2 := hz HB.out hx265_2
                 replace hx265_3 := hz HB.out hx265_3
                 replace hx265_4 := hz HB.out hx265_4
                 replace hx265_5 := hz HB.out hx265_5
                 replace hx265_6 := hz HB.out hx265_6
                 replace p265 := eq_true p265
                 replace q265 := eq_true q265
                 obtain ⟨Ao35, co35, eo35⟩ := Kd.R_slice HO_9.out
                 subst eo35
                 have p266 : 0 ≤ (x10_3 : Int) := of_decide_eq_true az
                 have q266 : x10_3 < (t261.length : Int) := of_decide_eq_true az
                 obtain ⟨ad266, e266, hx266_0⟩ := Kd.at_int (Kd.R_reads' HO_9.out).2.2 x10_3 p266 q266
                 cases e266
                 replace p266 := eq_true p266
                 replace q266 := eq_true q266
                 have hnb36 := NB251_252.out
                 have hnc36 := NB252_251.out
                 have hcz37_0 : wr.cell? ⟨gb251, 0, none⟩ = some (.int .i64 x252000_3) := (blk_cell BK251.out 0).trans rfl
                 have hcz37_1 : wr.cell? ⟨gb251, 1, none⟩ = some (.int .i64 x252001_3) := (blk_cell BK251.out 1).trans rfl
                 have hfz37_0 := blk_frozen BK251.out 0
                 have hfz37_1 := blk_frozen BK251.out 1
                 go_wp2
                 repeat (go_quiet (fail); try go_wp2)
                 refine bodyPost_ret (results_cell_row rfl _ _ gb251 37 #[.int .i64 x7_2, .int .i64 (rd t261 x10_3)] (0, 0) _ rfl (by (with_reducible repeat (first | refine blk_drewN ?_ _ | refine blk_drew ?_ | refine blk_alloc ?_ _)); refine blk_put (cs := #[.int .i64 x7_2, .int .i64 x252001_3]) ?_ 1 _ rfl; (with_reducible repeat (first | refine blk_drewN ?_ _ | refine blk_drew ?_ | refine blk_alloc ?_ _)); refine blk_put (cs := #[.int .i64 x252000_3, .int .i64 x252001_3]) ?_ 0 _ rfl; (with_reducible repeat (first | refine blk_drewN ?_ _ | refine blk_drew ?_ | refine blk_alloc ?_ _)); exact BK251.out) Tryd.underlying37 rfl (by kernel_rfl)) rfl ?_
                 exact ⟨gz, (bz2 HB.out GE251.out GE252.out)⟩
                ·rw [if_neg c33] at H
                 exact absurd H (by simp)
               ·rw [if_neg c32] at H
                have c32b0 : ((rdOf ByteArray.empty t258 x10_3).toList == ((rd_T54 l0 a1).f5).toList) = false := beq_eq_false_iff_ne.mpr c32
                have c32b1 : ((rdOf ByteArray.empty t258 x10_3).toList != ((rd_T54 l0 a1).f5).toList) = true := bne_iff_ne.mpr c32
                have H' := Aside0.mk H
                clear H
                obtain ⟨Ao38, co38, eo38⟩ := Kd.R_slice HO_8.out
                subst eo38
                have p264 : 0 ≤ (x10_3 : Int) := of_decide_eq_true az
                have q264 : x10_3 < (t258.length : Int) := of_decide_eq_true az
                obtain ⟨ad264, e264, hx264_0⟩ := Kd.at_string (Kd.R_reads' HO_8.out).2.2 x10_3 p264 q264
                cases e264
                replace p264 := eq_true p264
                replace q264 := eq_true q264
                have p265 : 0 ≤ (a1 : Int) := of_decide_eq_true az
                have q265 : a1 < (l0.length : Int) := of_decide_eq_true az
                obtain ⟨ad265, e265, hx265_0, hx265_1, hx265_2, hx265_3, hx265_4, hx265_5, hx265_6⟩ := at_T54 HR0.out a1 p265 q265
                obtain rfl : ad257 = ad265 := (by injection e265)
                replace hx265_0 := hz HB.out hx265_0
                replace hx265_1 := hz HB.out hx265_1
                replace hx265_2 := hz HB.out hx265_2
                replace hx265_3 := hz HB.out hx265_3
                replace hx265_4 := hz HB.out hx265_4
                replace hx265_5 := hz HB.out hx265_5
                replace hx265_6 := hz HB.out hx265_6
                replace p265 := eq_true p265
                replace q265 := eq_true q265
                go_wp2
                repeat (go_quiet (fail); try go_wp2)
                go_roundg k3
                case measure => have := HJ2.out; have := HK2.out; have := HK3.out; omega
                case rel => exact ⟨(wrap64 (x10_3 + 1)), (x252000_3), (x252001_3), ez, H', ⟨by have := HJ2.out; have := HK2.out; have := HK3.out; omega⟩, ⟨by (with_reducible repeat (first | apply Kd.R_alloc | apply Kd.R_drewN | apply Kd.R_drew)); exact HO_8.out⟩, ⟨by (with_reducible repeat (first | apply Kd.R_alloc | apply Kd.R_drewN | apply Kd.R_drew)); exact HO_9.out⟩, ⟨by (with_reducible repeat (first | refine blk_drewN ?_ _ | refine blk_drew ?_ | refine blk_alloc ?_ _)); exact BK251.out⟩, ⟨by (with_reducible repeat (first | refine blk_drewN ?_ _ | refine blk_drew ?_ | refine blk_alloc ?_ _)); exact BK252.out⟩, ⟨(bz2 HB.out GE251.out GE252.out)⟩⟩
              ·rw [if_neg c31] at H
               exact absurd H (by simp)
             ·rw [if_neg c30] at H
              exact absurd H (by simp)
            ·rw [if_neg c29] at H
             exact absurd H (by simp)
           ·rw [if_neg c28] at H
            have c28b0 : decide (x10_3 < (t258.length : Int)) = false := decide_eq_false c28
            clear c28
            replace H := Option.bind_eq_some_iff.mp H
            obtain ⟨t267, A390, H⟩ := H
            replace H : (spec_BinderOf.l0 k3 l0 a1 x7_2 t267 (-1) (-1)) = some (r1, r2) := H
            have A39 := Aside0.mk A390
            clear A390
            have H' := Aside0.mk H
            clear H
            obtain ⟨Ao40, co40, eo40⟩ := Kd.R_slice HO_8.out
            subst eo40
            go_wp2_with (first | (go_at_call 20; (with_reducible refine (spec_ParentOf.calls k3 _ _ l0 x7_2 t267 _ ?side1 ?side2 A39.out).mono ?_); (case side1 => exact cz (Kd.C_below HR0.out HB.out)); (case side2 => exact HC0.out); rintro e w41 ⟨rfl, hb⟩; have n0_ := Aside0.mk (Kd.R_below (rz HO_8.out) hb); have n1_ := Aside0.mk (Kd.R_below (rz HO_9.out) hb); have n2_ := Aside0.mk (blk_below (g := gb251) (o := .cells #[.int .i64 x252000_3, .int .i64 x252001_3] 37 (0, 0)) (kz BK251.out) hb); have n3_ := Aside0.mk (blk_below (g := gb252) (o := .cells #[.int .i64 (-1), .int .i64 (-1)] 37 (0, 0)) (kz BK252.out) hb); have n4_ := Aside0.mk (below_step (bz2 HB.out GE251.out GE252.out) hb); clear HO_8; clear HO_9; clear BK251; clear BK252; clear HB; have HO_8 := n0_; have HO_9 := n1_; have BK251 := n2_; have BK252 := n3_; have HB := n4_; clear n0_ n1_ n2_ n3_ n4_; (try clear hb); (try clear hb2); (try clear hk); (try clear hi)))
            repeat (go_quiet (first | (go_at_call 20; (with_reducible refine (spec_ParentOf.calls k3 _ _ l0 x7_2 t267 _ ?side1 ?side2 A39.out).mono ?_); (case side1 => exact cz (Kd.C_below HR0.out HB.out)); (case side2 => exact HC0.out); rintro e w41 ⟨rfl, hb⟩; have n0_ := Aside0.mk (Kd.R_below (rz HO_8.out) hb); have n1_ := Aside0.mk (Kd.R_below (rz HO_9.out) hb); have n2_ := Aside0.mk (blk_below (g := gb251) (o := .cells #[.int .i64 x252000_3, .int .i64 x252001_3] 37 (0, 0)) (kz BK251.out) hb); have n3_ := Aside0.mk (blk_below (g := gb252) (o := .cells #[.int .i64 (-1), .int .i64 (-1)] 37 (0, 0)) (kz BK252.out) hb); have n4_ := Aside0.mk (below_step (bz2 HB.out GE251.out GE252.out) hb); clear HO_8; clear HO_9; clear BK251; clear BK252; clear HB; have HO_8 := n0_; have HO_9 := n1_; have BK251 := n2_; have BK252 := n3_; have HB := n4_; clear n0_ n1_ n2_ n3_ n4_; (try clear hb); (try clear hb2); (try clear hk); (try clear hi))); try go_wp2_with (first | (go_at_call 20; (with_reducible refine (spec_ParentOf.calls k3 _ _ l0 x7_2 t267 _ ?side1 ?side2 A39.out).mono ?_); (case side1 => exact cz (Kd.C_below HR0.out HB.out)); (case side2 => exact HC0.out); rintro e w41 ⟨rfl, hb⟩; have n0_ := Aside0.mk (Kd.R_below (rz HO_8.out) hb); have n1_ := Aside0.mk (Kd.R_below (rz HO_9.out) hb); have n2_ := Aside0.mk (blk_below (g := gb251) (o := .cells #[.int .i64 x252000_3, .int .i64 x252001_3] 37 (0, 0)) (kz BK251.out) hb); have n3_ := Aside0.mk (blk_below (g := gb252) (o := .cells #[.int .i64 (-1), .int .i64 (-1)] 37 (0, 0)) (kz BK252.out) hb); have n4_ := Aside0.mk (below_step (bz2 HB.out GE251.out GE252.out) hb); clear HO_8; clear HO_9; clear BK251; clear BK252; clear HB; have HO_8 := n0_; have HO_9 := n1_; have BK251 := n2_; have BK252 := n3_; have HB := n4_; clear n0_ n1_ n2_ n3_ n4_; (try clear hb); (try clear hb2); (try clear hk); (try clear hi))))
            go_roundg k3
            case measure => have := HJ2.out; have := HK2.out; have := HK3.out; omega
            case rel => exact ⟨(x7_2), (t267), (x252000_3), (x252001_3), ez, ez, H', ⟨by have := HJ2.out; have := HK2.out; have := HK3.out; omega⟩, ⟨by (with_reducible repeat (first | refine blk_drewN ?_ _ | refine blk_drew ?_ | refine blk_alloc ?_ _)); exact BK251.out⟩, ⟨by (with_reducible repeat (first | refine blk_drewN ?_ _ | refine blk_drew ?_ | refine blk_alloc ?_ _)); exact BK252.out⟩, ⟨(bz2 HB.out GE251.out GE252.out)⟩⟩
        ·rw [if_neg c25] at H
         exact absurd H (by simp)
       ·rw [if_neg c24] at H
        exact absurd H (by simp)
      ·rw [if_neg c23] at H
       have c23b0 : decide (0 ≤ x7_2) = false := decide_eq_false c23
       clear c23
       simp only [Option.some.injEq, Prod.mk.injEq] at H
       obtain ⟨rfl, rfl⟩ := H
       have hnb42 := NB252_251.out
       have hnc42 := NB251_252.out
       have hcz43_0 : wr.cell? ⟨gb252, 0, none⟩ = some (.int .i64 (-1)) := (blk_cell BK252.out 0).trans rfl
       have hcz43_1 : wr.cell? ⟨gb252, 1, none⟩ = some (.int .i64 (-1)) := (blk_cell BK252.out 1).trans rfl
       have hfz43_0 := blk_frozen BK252.out 0
       have hfz43_1 := blk_frozen BK252.out 1
       have hcz44_0 : wr.cell? ⟨gb251, 0, none⟩ = some (.int .i64 x252000_2) := (blk_cell BK251.out 0).trans rfl
       have hcz44_1 : wr.cell? ⟨gb251, 1, none⟩ = some (.int .i64 x252001_2) := (blk_cell BK251.out 1).trans rfl
       have hfz44_0 := blk_frozen BK251.out 0
       have hfz44_1 := blk_frozen BK251.out 1
       go_wp2
       repeat (go_quiet (fail); try go_wp2)
       refine bodyPost_ret (results_cell_row rfl _ _ gb251 37 #[.int .i64 (-1), .int .i64 (-1)] (0, 0) _ rfl (by (with_reducible repeat (first | refine blk_drewN ?_ _ | refine blk_drew ?_ | refine blk_alloc ?_ _)); refine blk_put (cs := #[.int .i64 (-1), .int .i64 x252001_2]) ?_ 1 _ rfl; (with_reducible repeat (first | refine blk_drewN ?_ _ | refine blk_drew ?_ | refine blk_alloc ?_ _)); refine blk_put (cs := #[.int .i64 x252000_2, .int .i64 x252001_2]) ?_ 0 _ rfl; (with_reducible repeat (first | refine blk_drewN ?_ _ | refine blk_drew ?_ | refine blk_alloc ?_ _)); exact BK251.out) Tryd.underlying37 rfl (by kernel_rfl)) rfl ?_
       exact ⟨gz, (bz2 HB.out GE251.out GE252.out)⟩
end Go.Proofs.YthmkeimngfboiaaDoor.PFnExactUsesOf
