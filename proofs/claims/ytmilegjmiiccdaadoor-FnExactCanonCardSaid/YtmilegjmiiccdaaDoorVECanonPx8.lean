/- PFnExactCanonx8, of the words and walks that the law FnExactCanon needs; made by this session's program out of printed texts. -/

import Derived.Test.YtmilegjmiiccdaaDoorVECanonPx0
import Derived.Test.YtmilegjmiiccdaaDoorVECanonPx3
import Derived.Test.YtmilegjmiiccdaaDoorVECanonPx6
import Derived.Test.YtmilegjmiiccdaaDoorVECanonPx7
namespace Go.Proofs.YtmilegjmiiccdaaDoor.PFnExactCanon
open Go.RowKit Go.Proofs.YtmilegjmiiccdaaDoorW.PrintWords Go.Proofs.YtmilegjmiiccdaaDoorW.PrintLast Go.Proofs.YtmilegjmiiccdaaDoorW.PrintMore
attribute [local go_sem] max2_int min2_int max_two min_two max_three min_three max_four min_four
set_option linter.unusedVariables false
set_option linter.unusedSimpArgs false
mutual
def spec_BinderOf.j0 : Nat -> List (S43) -> Int -> Bool -> Int -> Int -> Option (Int × Int)
 | 0, _, _, _, _, _ => none
 | k + 1, x0, x1, x30, x276000, x276001 => if x30 = true then (some (x276000, x276001)) else ((spec_ParentOf.f k x0 x1).bind fun t279 => (spec_BinderOf.l0 k x0 x1 x1 t279 x276000 x276001))
def spec_BinderOf.l0 : Nat -> List (S43) -> Int -> Int -> Int -> Int -> Int -> Option (Int × Int)
 | 0, _, _, _, _, _, _ => none
 | k + 1, x0, x1, x6, x7, x276000, x276001 => if x7 ≥ 0 then (if 0 <= x7 then (if x7 < (x0.length : Int) then ((spec_l6Bound.f k ((rd_T43 x0 x7).f0) ((rd_T43 x0 x7).f1) ((rd_T43 x0 x7).f2) ((rd_T43 x0 x7).f3) ((rd_T43 x0 x7).f4) ((rd_T43 x0 x7).f5) ((rd_T43 x0 x7).f6) x6).bind fun bt281 => (spec_BinderOf.l1 k x0 x1 x7 bt281.1 bt281.2 0 x276000 x276001)) else (none)) else (none)) else (some (x276000, x276001))
def spec_BinderOf.l1 : Nat -> List (S43) -> Int -> Int -> List ByteArray -> List Int -> Int -> Int -> Int -> Option (Int × Int)
 | 0, _, _, _, _, _, _, _, _ => none
 | k + 1, x0, x1, x7, x8, x9, x10, x276000, x276001 => if x10 < (x8.length : Int) then (if 0 <= x10 then (if 0 <= x1 then (if x1 < (x0.length : Int) then (if (rdOf ByteArray.empty x8 x10).toList = ((rd_T43 x0 x1).f5).toList then (if x10 < (x9.length : Int) then (some (x7, rd x9 x10)) else (none)) else (spec_BinderOf.l1 k x0 x1 x7 x8 x9 (wrap64 (x10 + 1)) x276000 x276001)) else (none)) else (none)) else (none)) else ((spec_ParentOf.f k x0 x7).bind fun t290 => (spec_BinderOf.l0 k x0 x1 x7 t290 x276000 x276001))
end
def spec_BinderOf.f (k : Nat) (l0 : List (S43)) (a1 : Int) : Option (Int × Int) := (spec_NodesOk.f k l0).bind fun t276 => (if t276 = true then ((spec_l1In.f a1 0 (wrap64 ((l0.length : Int) - 1))).bind fun t277 => (if t277 = true then (if 0 <= a1 then (if a1 < (l0.length : Int) then (spec_BinderOf.j0 k l0 a1 (((rd_T43 l0 a1).f0) != 1) (-1) (-1)) else (none)) else (none)) else (spec_BinderOf.j0 k l0 a1 true (-1) (-1)))) else (spec_BinderOf.j0 k l0 a1 true (-1) (-1)))
theorem spec_BinderOf.mono_l : ∀ k, (∀ y0 y1 y2 y3 y4, LeO (spec_BinderOf.j0 k y0 y1 y2 y3 y4) (spec_BinderOf.j0 (k + 1) y0 y1 y2 y3 y4)) /\ (∀ y0 y1 y2 y3 y4 y5, LeO (spec_BinderOf.l0 k y0 y1 y2 y3 y4 y5) (spec_BinderOf.l0 (k + 1) y0 y1 y2 y3 y4 y5)) /\ (∀ y0 y1 y2 y3 y4 y5 y6 y7, LeO (spec_BinderOf.l1 k y0 y1 y2 y3 y4 y5 y6 y7) (spec_BinderOf.l1 (k + 1) y0 y1 y2 y3 y4 y5 y6 y7))
 | 0 => ⟨fun _ _ _ _ _ r h => by simp [spec_BinderOf.j0] at h, fun _ _ _ _ _ _ r h => by simp [spec_BinderOf.l0] at h, fun _ _ _ _ _ _ _ _ r h => by simp [spec_BinderOf.l1] at h⟩
 | k + 1 => by
  obtain ⟨ih0, ih1, ih2⟩ := spec_BinderOf.mono_l k
  refine ⟨?_, ?_, ?_⟩
  ·intro y0 y1 y2 y3 y4
   unfold spec_BinderOf.j0
   with_reducible repeat' first | exact ih0 _ _ _ _ _ | exact ih1 _ _ _ _ _ _ | exact ih2 _ _ _ _ _ _ _ _ | exact spec_NodesOk.mono _ _ | exact spec_ParentOf.mono _ _ _ | exact spec_l6Bound.mono _ _ _ _ _ _ _ _ _ | exact lrz _ | exact lnz _ | refine liz ?_ ?_ | refine lbz ?_ fun _ => ?_
  ·intro y0 y1 y2 y3 y4 y5
   unfold spec_BinderOf.l0
   with_reducible repeat' first | exact ih0 _ _ _ _ _ | exact ih1 _ _ _ _ _ _ | exact ih2 _ _ _ _ _ _ _ _ | exact spec_NodesOk.mono _ _ | exact spec_ParentOf.mono _ _ _ | exact spec_l6Bound.mono _ _ _ _ _ _ _ _ _ | exact lrz _ | exact lnz _ | refine liz ?_ ?_ | refine lbz ?_ fun _ => ?_
  ·intro y0 y1 y2 y3 y4 y5 y6 y7
   unfold spec_BinderOf.l1
   with_reducible repeat' first | exact ih0 _ _ _ _ _ | exact ih1 _ _ _ _ _ _ | exact ih2 _ _ _ _ _ _ _ _ | exact spec_NodesOk.mono _ _ | exact spec_ParentOf.mono _ _ _ | exact spec_l6Bound.mono _ _ _ _ _ _ _ _ _ | exact lrz _ | exact lnz _ | refine liz ?_ ?_ | refine lbz ?_ fun _ => ?_
theorem spec_BinderOf.mono : ∀ a0 a1 k, LeO (spec_BinderOf.f k a0 a1) (spec_BinderOf.f (k + 1) a0 a1) := by
 intro a0 a1 k
 obtain ⟨ih0, ih1, ih2⟩ := spec_BinderOf.mono_l k
 unfold spec_BinderOf.f
 with_reducible repeat' first | exact ih0 _ _ _ _ _ | exact ih1 _ _ _ _ _ _ | exact ih2 _ _ _ _ _ _ _ _ | exact spec_NodesOk.mono _ _ | exact spec_ParentOf.mono _ _ _ | exact spec_l6Bound.mono _ _ _ _ _ _ _ _ _ | exact lrz _ | exact lnz _ | refine liz ?_ ?_ | refine lbz ?_ fun _ => ?_
set_option maxHeartbeats 8000000 in
set_option maxRecDepth 100000 in
theorem spec_BinderOf.calls (k : Nat) (A0 : Option Addr) (c0 : Nat) (l0 : List (S43)) (a1 : Int) (r1 : Int) (r2 : Int) (w : World) (hr0 : Kd.C k43 w A0 l0.length l0) (hc0 : l0.length <= c0) (h : spec_BinderOf.f k l0 a1 = some (r1, r2)) :
  Calls Tryd.prog 49 #[.slice A0 l0.length c0, .int .i64 a1] w fun e w' => e = .returned (.agg #[.int .i64 r1, .int .i64 r2]) /\ Below w.heap.size w w' := by
 have hu55 := Tryd.underlying55
 have hu43 := Tryd.underlying43
 have HR0 := Aside0.mk hr0
 have HC0 := Aside0.mk hc0
 clear hr0 hc0
 have HB := Aside0.mk (Below.refl w.heap.size w)
 have H : ((spec_NodesOk.f k l0).bind fun t276 => (if t276 = true then ((spec_l1In.f a1 0 (wrap64 ((l0.length : Int) - 1))).bind fun t277 => (if t277 = true then (if 0 <= a1 then (if a1 < (l0.length : Int) then (spec_BinderOf.j0 k l0 a1 (((rd_T43 l0 a1).f0) != 1) (-1) (-1)) else (none)) else (none)) else (spec_BinderOf.j0 k l0 a1 true (-1) (-1)))) else (spec_BinderOf.j0 k l0 a1 true (-1) (-1)))) = some (r1, r2) := h
 clear h
 have HC3 := Aside0.mk H
 clear H
 go_enter Tryd.func49, Tryd.ntmps49
 go_upto_region 2 with (first | ((with_reducible refine gate_dst (N := 4) rfl ?_); (try (refine gate_guard (by rfl) ?_; dsimp only)); refine box_event ?hg (N := 4) ?hd (cs := #[.int .i64 0, .int .i64 0]) (t := 55) ?hr ?_; (case hd => rfl); (case hg => rfl); (case hr => exact vz); intro gb274 hg w4 hbox hb; have BK274 := Aside0.mk (hbox); have GW274 := Aside0.mk ((by rw [hg]; exact (below_size (bz0 HB.out)) : w.heap.size <= gb274)); have GE274 := Aside0.mk ((by rw [hg]; exact (below_size (bz0 HB.out)) : w.heap.size <= gb274)); replace HB := Aside0.mk (below_step (bz0 HB.out) hb); clear hb hbox hg) | ((with_reducible refine gate_dst (N := 5) rfl ?_); (try (refine gate_guard (by rfl) ?_; dsimp only)); refine box_event ?hg (N := 5) ?hd (cs := #[.int .i64 0, .int .i64 0]) (t := 55) ?hr ?_; (case hd => rfl); (case hg => rfl); (case hr => exact vz); intro gb275 hg w5 hbox hb; have BK275 := Aside0.mk (hbox); have GW275 := Aside0.mk ((by rw [hg]; exact (below_size (bz1 HB.out GE274.out)) : w.heap.size <= gb275)); have GE275 := Aside0.mk ((by rw [hg]; exact (below_size (bz1 HB.out GE274.out)) : w.heap.size <= gb275)); replace HB := Aside0.mk (below_step (bz1 HB.out GE274.out) hb); have NB274_275 := Aside0.mk ((by rw [hg]; exact Nat.ne_of_lt (blk_lt (g := gb274) (o := .cells #[.int .i64 0, .int .i64 0] 55 (0, 0)) (kz BK274.out)) : gb274 ≠ gb275)); have NB275_274 := Aside0.mk ((by rw [hg]; exact Nat.ne_of_gt (blk_lt (g := gb274) (o := .cells #[.int .i64 0, .int .i64 0] 55 (0, 0)) (kz BK274.out)) : gb275 ≠ gb274)); replace BK274 := Aside0.mk (blk_below (kz BK274.out) hb); clear hb hbox hg; have hnb6 := NB275_274.out; have hnc6 := NB274_275.out; obtain ⟨hcz7_0, hcz7_1⟩ := cz2 BK275.out; obtain ⟨hfz7_0, hfz7_1⟩ := fz2 BK275.out))
 repeat (go_quiet (first | ((with_reducible refine gate_dst (N := 4) rfl ?_); (try (refine gate_guard (by rfl) ?_; dsimp only)); refine box_event ?hg (N := 4) ?hd (cs := #[.int .i64 0, .int .i64 0]) (t := 55) ?hr ?_; (case hd => rfl); (case hg => rfl); (case hr => exact vz); intro gb274 hg w4 hbox hb; have BK274 := Aside0.mk (hbox); have GW274 := Aside0.mk ((by rw [hg]; exact (below_size (bz0 HB.out)) : w.heap.size <= gb274)); have GE274 := Aside0.mk ((by rw [hg]; exact (below_size (bz0 HB.out)) : w.heap.size <= gb274)); replace HB := Aside0.mk (below_step (bz0 HB.out) hb); clear hb hbox hg) | ((with_reducible refine gate_dst (N := 5) rfl ?_); (try (refine gate_guard (by rfl) ?_; dsimp only)); refine box_event ?hg (N := 5) ?hd (cs := #[.int .i64 0, .int .i64 0]) (t := 55) ?hr ?_; (case hd => rfl); (case hg => rfl); (case hr => exact vz); intro gb275 hg w5 hbox hb; have BK275 := Aside0.mk (hbox); have GW275 := Aside0.mk ((by rw [hg]; exact (below_size (bz1 HB.out GE274.out)) : w.heap.size <= gb275)); have GE275 := Aside0.mk ((by rw [hg]; exact (below_size (bz1 HB.out GE274.out)) : w.heap.size <= gb275)); replace HB := Aside0.mk (below_step (bz1 HB.out GE274.out) hb); have NB274_275 := Aside0.mk ((by rw [hg]; exact Nat.ne_of_lt (blk_lt (g := gb274) (o := .cells #[.int .i64 0, .int .i64 0] 55 (0, 0)) (kz BK274.out)) : gb274 ≠ gb275)); have NB275_274 := Aside0.mk ((by rw [hg]; exact Nat.ne_of_gt (blk_lt (g := gb274) (o := .cells #[.int .i64 0, .int .i64 0] 55 (0, 0)) (kz BK274.out)) : gb275 ≠ gb274)); replace BK274 := Aside0.mk (blk_below (kz BK274.out) hb); clear hb hbox hg; have hnb6 := NB275_274.out; have hnc6 := NB274_275.out; obtain ⟨hcz7_0, hcz7_1⟩ := cz2 BK275.out; obtain ⟨hfz7_0, hfz7_1⟩ := fz2 BK275.out)); go_upto_region 2 with (first | ((with_reducible refine gate_dst (N := 4) rfl ?_); (try (refine gate_guard (by rfl) ?_; dsimp only)); refine box_event ?hg (N := 4) ?hd (cs := #[.int .i64 0, .int .i64 0]) (t := 55) ?hr ?_; (case hd => rfl); (case hg => rfl); (case hr => exact vz); intro gb274 hg w4 hbox hb; have BK274 := Aside0.mk (hbox); have GW274 := Aside0.mk ((by rw [hg]; exact (below_size (bz0 HB.out)) : w.heap.size <= gb274)); have GE274 := Aside0.mk ((by rw [hg]; exact (below_size (bz0 HB.out)) : w.heap.size <= gb274)); replace HB := Aside0.mk (below_step (bz0 HB.out) hb); clear hb hbox hg) | ((with_reducible refine gate_dst (N := 5) rfl ?_); (try (refine gate_guard (by rfl) ?_; dsimp only)); refine box_event ?hg (N := 5) ?hd (cs := #[.int .i64 0, .int .i64 0]) (t := 55) ?hr ?_; (case hd => rfl); (case hg => rfl); (case hr => exact vz); intro gb275 hg w5 hbox hb; have BK275 := Aside0.mk (hbox); have GW275 := Aside0.mk ((by rw [hg]; exact (below_size (bz1 HB.out GE274.out)) : w.heap.size <= gb275)); have GE275 := Aside0.mk ((by rw [hg]; exact (below_size (bz1 HB.out GE274.out)) : w.heap.size <= gb275)); replace HB := Aside0.mk (below_step (bz1 HB.out GE274.out) hb); have NB274_275 := Aside0.mk ((by rw [hg]; exact Nat.ne_of_lt (blk_lt (g := gb274) (o := .cells #[.int .i64 0, .int .i64 0] 55 (0, 0)) (kz BK274.out)) : gb274 ≠ gb275)); have NB275_274 := Aside0.mk ((by rw [hg]; exact Nat.ne_of_gt (blk_lt (g := gb274) (o := .cells #[.int .i64 0, .int .i64 0] 55 (0, 0)) (kz BK274.out)) : gb275 ≠ gb274)); replace BK274 := Aside0.mk (blk_below (kz BK274.out) hb); clear hb hbox hg; have hnb6 := NB275_274.out; have hnc6 := NB274_275.out; obtain ⟨hcz7_0, hcz7_1⟩ := cz2 BK275.out; obtain ⟨hfz7_0, hfz7_1⟩ := fz2 BK275.out)))
 (try simp only [Act.put, sz1, sz2, sz3])
 go_cut [30] (fun v30 wc => ∃ (kq : Nat) (x30_2 : Bool), v30 = .bool x30_2 /\ Aside0 (spec_BinderOf.j0 kq l0 a1 x30_2 (-1) (-1) = some (r1, r2)) /\ Aside0 (kq <= k) /\ Aside0 (wc.heap[gb274]? = some (.cells #[.int .i64 0, .int .i64 0] 55 (0, 0))) /\ Aside0 (wc.heap[gb275]? = some (.cells #[.int .i64 (-1), .int .i64 (-1)] 55 (0, 0))) /\ Aside0 (Below w.heap.size w wc))
 case first =>
  have H := HC3.out
  clear HC3
  replace H := bi H
  obtain ⟨t276, A80, H⟩ := H
  try dsimp only at H
  have A8 := Aside0.mk A80
  clear A80
  by_cases c9 : t276 = true
  ·subst c9
   have H1 := hp H
   clear H
   have H := H1
   clear H1
   replace H := bi H
   obtain ⟨t277, A100, H⟩ := H
   try dsimp only at H
   have A10 := Aside0.mk A100
   clear A100
   by_cases c11 : t277 = true
   ·subst c11
    have H1 := hp H
    clear H
    have H := H1
    clear H1
    replace H := iz H
    obtain ⟨c12, H⟩ := H
    have c12b0 := decide_eq_true c12
    clear c12
    (first | rw [c12b0] | (simp only [i64_w, i32_w]; rw [c12b0]) | skip)
    replace H := iz H
    obtain ⟨c13, H⟩ := H
    have c13b0 := decide_eq_true c13
    clear c13
    have H' := Aside0.mk H
    clear H
    go_wp2_with (first | (go_at_call 33; (with_reducible refine (spec_NodesOk.calls k _ _ l0 true _ ?side1 ?side2 A8.out).mono ?_); (case side1 => exact Kd.C_below HR0.out (bz2 HB.out GE274.out GE275.out)); (case side2 => exact HC0.out); rintro e w14 ⟨rfl, hb⟩; replace BK274 := Aside0.mk (blk_below (g := gb274) (o := .cells #[.int .i64 0, .int .i64 0] 55 (0, 0)) (by refine kq ?_; refine blk_far ?_ NB274_275.out _; refine kq ?_; refine blk_far ?_ NB274_275.out _; refine kq ?_; exact BK274.out) hb); replace BK275 := Aside0.mk (blk_below (g := gb275) (o := .cells #[.int .i64 (-1), .int .i64 (-1)] 55 (0, 0)) (by refine kq ?_; refine blk_put (cs := #[.int .i64 (-1), .int .i64 0]) ?_ 1 _ rfl; refine kq ?_; refine blk_put (cs := #[.int .i64 0, .int .i64 0]) ?_ 0 _ rfl; refine kq ?_; exact BK275.out) hb); replace HB := Aside0.mk (below_step (bz2 HB.out GE274.out GE275.out) hb); (try clear hb); (try clear hi)) | (go_at_call 39; (with_reducible refine (spec_l1In.calls a1 0 (wrap64 ((l0.length : Int) - 1)) true _ A10.out).mono ?_); rintro e w' ⟨rfl, ⟨nd, rfl⟩⟩; (try first | exact ⟨rfl, _, World.drewN_drewN _ _ _⟩ | exact ⟨rfl, _, Eq.trans (World.drewN_drewN _ _ _) (congrArg (World.drewN _) (Nat.add_assoc _ _ _))⟩); have p278 : 0 <= (a1 : Int) := oz; have q278 : a1 < (l0.length : Int) := oz; obtain ⟨ad278, e278, hx278_0, hx278_1, hx278_2, hx278_3, hx278_4, hx278_5, hx278_6⟩ := at_T43 HR0.out a1 p278 q278; cases e278; replace hx278_0 := hz HB.out hx278_0; replace hx278_1 := hz HB.out hx278_1; replace hx278_2 := hz HB.out hx278_2; replace hx278_3 := hz HB.out hx278_3; replace hx278_4 := hz HB.out hx278_4; replace hx278_5 := hz HB.out hx278_5; replace hx278_6 := hz HB.out hx278_6; replace p278 := eq_true p278; replace q278 := eq_true q278))
    repeat (go_quiet (first | (go_at_call 33; (with_reducible refine (spec_NodesOk.calls k _ _ l0 true _ ?side1 ?side2 A8.out).mono ?_); (case side1 => exact Kd.C_below HR0.out (bz2 HB.out GE274.out GE275.out)); (case side2 => exact HC0.out); rintro e w14 ⟨rfl, hb⟩; replace BK274 := Aside0.mk (blk_below (g := gb274) (o := .cells #[.int .i64 0, .int .i64 0] 55 (0, 0)) (by refine kq ?_; refine blk_far ?_ NB274_275.out _; refine kq ?_; refine blk_far ?_ NB274_275.out _; refine kq ?_; exact BK274.out) hb); replace BK275 := Aside0.mk (blk_below (g := gb275) (o := .cells #[.int .i64 (-1), .int .i64 (-1)] 55 (0, 0)) (by refine kq ?_; refine blk_put (cs := #[.int .i64 (-1), .int .i64 0]) ?_ 1 _ rfl; refine kq ?_; refine blk_put (cs := #[.int .i64 0, .int .i64 0]) ?_ 0 _ rfl; refine kq ?_; exact BK275.out) hb); replace HB := Aside0.mk (below_step (bz2 HB.out GE274.out GE275.out) hb); (try clear hb); (try clear hi)) | (go_at_call 39; (with_reducible refine (spec_l1In.calls a1 0 (wrap64 ((l0.length : Int) - 1)) true _ A10.out).mono ?_); rintro e w' ⟨rfl, ⟨nd, rfl⟩⟩; (try first | exact ⟨rfl, _, World.drewN_drewN _ _ _⟩ | exact ⟨rfl, _, Eq.trans (World.drewN_drewN _ _ _) (congrArg (World.drewN _) (Nat.add_assoc _ _ _))⟩); have p278 : 0 <= (a1 : Int) := oz; have q278 : a1 < (l0.length : Int) := oz; obtain ⟨ad278, e278, hx278_0, hx278_1, hx278_2, hx278_3, hx278_4, hx278_5, hx278_6⟩ := at_T43 HR0.out a1 p278 q278; cases e278; replace hx278_0 := hz HB.out hx278_0; replace hx278_1 := hz HB.out hx278_1; replace hx278_2 := hz HB.out hx278_2; replace hx278_3 := hz HB.out hx278_3; replace hx278_4 := hz HB.out hx278_4; replace hx278_5 := hz HB.out hx278_5; replace hx278_6 := hz HB.out hx278_6; replace p278 := eq_true p278; replace q278 := eq_true q278)); try go_wp2_with (first | (go_at_call 33; (with_reducible refine (spec_NodesOk.calls k _ _ l0 true _ ?side1 ?side2 A8.out).mono ?_); (case side1 => exact Kd.C_below HR0.out (bz2 HB.out GE274.out GE275.out)); (case side2 => exact HC0.out); rintro e w14 ⟨rfl, hb⟩; replace BK274 := Aside0.mk (blk_below (g := gb274) (o := .cells #[.int .i64 0, .int .i64 0] 55 (0, 0)) (by refine kq ?_; refine blk_far ?_ NB274_275.out _; refine kq ?_; refine blk_far ?_ NB274_275.out _; refine kq ?_; exact BK274.out) hb); replace BK275 := Aside0.mk (blk_below (g := gb275) (o := .cells #[.int .i64 (-1), .int .i64 (-1)] 55 (0, 0)) (by refine kq ?_; refine blk_put (cs := #[.int .i64 (-1), .int .i64 0]) ?_ 1 _ rfl; refine kq ?_; refine blk_put (cs := #[.int .i64 0, .int .i64 0]) ?_ 0 _ rfl; refine kq ?_; exact BK275.out) hb); replace HB := Aside0.mk (below_step (bz2 HB.out GE274.out GE275.out) hb); (try clear hb); (try clear hi)) | (go_at_call 39; (with_reducible refine (spec_l1In.calls a1 0 (wrap64 ((l0.length : Int) - 1)) true _ A10.out).mono ?_); rintro e w' ⟨rfl, ⟨nd, rfl⟩⟩; (try first | exact ⟨rfl, _, World.drewN_drewN _ _ _⟩ | exact ⟨rfl, _, Eq.trans (World.drewN_drewN _ _ _) (congrArg (World.drewN _) (Nat.add_assoc _ _ _))⟩); have p278 : 0 <= (a1 : Int) := oz; have q278 : a1 < (l0.length : Int) := oz; obtain ⟨ad278, e278, hx278_0, hx278_1, hx278_2, hx278_3, hx278_4, hx278_5, hx278_6⟩ := at_T43 HR0.out a1 p278 q278; cases e278; replace hx278_0 := hz HB.out hx278_0; replace hx278_1 := hz HB.out hx278_1; replace hx278_2 := hz HB.out hx278_2; replace hx278_3 := hz HB.out hx278_3; replace hx278_4 := hz HB.out hx278_4; replace hx278_5 := hz HB.out hx278_5; replace hx278_6 := hz HB.out hx278_6; replace p278 := eq_true p278; replace q278 := eq_true q278)))
    go_meet
    case rel => exact ⟨_, ((((rd_T43 l0 a1).f0) != 1)), ez, H', ⟨by first | omega | exact Nat.le_refl _⟩, ⟨by refine kq ?_; exact BK274.out⟩, ⟨by refine kq ?_; exact BK275.out⟩, ⟨(bz2 HB.out GE274.out GE275.out)⟩⟩
   ·replace c11 := Bool.eq_false_iff.mpr c11
    subst c11
    have H1 := hq H
    clear H
    have H := H1
    clear H1
    have H' := Aside0.mk H
    clear H
    go_wp2_with (first | (go_at_call 33; (with_reducible refine (spec_NodesOk.calls k _ _ l0 true _ ?side1 ?side2 A8.out).mono ?_); (case side1 => exact Kd.C_below HR0.out (bz2 HB.out GE274.out GE275.out)); (case side2 => exact HC0.out); rintro e w15 ⟨rfl, hb⟩; replace BK274 := Aside0.mk (blk_below (g := gb274) (o := .cells #[.int .i64 0, .int .i64 0] 55 (0, 0)) (by refine kq ?_; refine blk_far ?_ NB274_275.out _; refine kq ?_; refine blk_far ?_ NB274_275.out _; refine kq ?_; exact BK274.out) hb); replace BK275 := Aside0.mk (blk_below (g := gb275) (o := .cells #[.int .i64 (-1), .int .i64 (-1)] 55 (0, 0)) (by refine kq ?_; refine blk_put (cs := #[.int .i64 (-1), .int .i64 0]) ?_ 1 _ rfl; refine kq ?_; refine blk_put (cs := #[.int .i64 0, .int .i64 0]) ?_ 0 _ rfl; refine kq ?_; exact BK275.out) hb); replace HB := Aside0.mk (below_step (bz2 HB.out GE274.out GE275.out) hb); (try clear hb); (try clear hi)) | (go_at_call 39; (with_reducible refine (spec_l1In.calls a1 0 (wrap64 ((l0.length : Int) - 1)) false _ A10.out).mono ?_); rintro e w' ⟨rfl, ⟨nd, rfl⟩⟩; (try first | exact ⟨rfl, _, World.drewN_drewN _ _ _⟩ | exact ⟨rfl, _, Eq.trans (World.drewN_drewN _ _ _) (congrArg (World.drewN _) (Nat.add_assoc _ _ _))⟩)))
    repeat (go_quiet (first | (go_at_call 33; (with_reducible refine (spec_NodesOk.calls k _ _ l0 true _ ?side1 ?side2 A8.out).mono ?_); (case side1 => exact Kd.C_below HR0.out (bz2 HB.out GE274.out GE275.out)); (case side2 => exact HC0.out); rintro e w15 ⟨rfl, hb⟩; replace BK274 := Aside0.mk (blk_below (g := gb274) (o := .cells #[.int .i64 0, .int .i64 0] 55 (0, 0)) (by refine kq ?_; refine blk_far ?_ NB274_275.out _; refine kq ?_; refine blk_far ?_ NB274_275.out _; refine kq ?_; exact BK274.out) hb); replace BK275 := Aside0.mk (blk_below (g := gb275) (o := .cells #[.int .i64 (-1), .int .i64 (-1)] 55 (0, 0)) (by refine kq ?_; refine blk_put (cs := #[.int .i64 (-1), .int .i64 0]) ?_ 1 _ rfl; refine kq ?_; refine blk_put (cs := #[.int .i64 0, .int .i64 0]) ?_ 0 _ rfl; refine kq ?_; exact BK275.out) hb); replace HB := Aside0.mk (below_step (bz2 HB.out GE274.out GE275.out) hb); (try clear hb); (try clear hi)) | (go_at_call 39; (with_reducible refine (spec_l1In.calls a1 0 (wrap64 ((l0.length : Int) - 1)) false _ A10.out).mono ?_); rintro e w' ⟨rfl, ⟨nd, rfl⟩⟩; (try first | exact ⟨rfl, _, World.drewN_drewN _ _ _⟩ | exact ⟨rfl, _, Eq.trans (World.drewN_drewN _ _ _) (congrArg (World.drewN _) (Nat.add_assoc _ _ _))⟩))); try go_wp2_with (first | (go_at_call 33; (with_reducible refine (spec_NodesOk.calls k _ _ l0 true _ ?side1 ?side2 A8.out).mono ?_); (case side1 => exact Kd.C_below HR0.out (bz2 HB.out GE274.out GE275.out)); (case side2 => exact HC0.out); rintro e w15 ⟨rfl, hb⟩; replace BK274 := Aside0.mk (blk_below (g := gb274) (o := .cells #[.int .i64 0, .int .i64 0] 55 (0, 0)) (by refine kq ?_; refine blk_far ?_ NB274_275.out _; refine kq ?_; refine blk_far ?_ NB274_275.out _; refine kq ?_; exact BK274.out) hb); replace BK275 := Aside0.mk (blk_below (g := gb275) (o := .cells #[.int .i64 (-1), .int .i64 (-1)] 55 (0, 0)) (by refine kq ?_; refine blk_put (cs := #[.int .i64 (-1), .int .i64 0]) ?_ 1 _ rfl; refine kq ?_; refine blk_put (cs := #[.int .i64 0, .int .i64 0]) ?_ 0 _ rfl; refine kq ?_; exact BK275.out) hb); replace HB := Aside0.mk (below_step (bz2 HB.out GE274.out GE275.out) hb); (try clear hb); (try clear hi)) | (go_at_call 39; (with_reducible refine (spec_l1In.calls a1 0 (wrap64 ((l0.length : Int) - 1)) false _ A10.out).mono ?_); rintro e w' ⟨rfl, ⟨nd, rfl⟩⟩; (try first | exact ⟨rfl, _, World.drewN_drewN _ _ _⟩ | exact ⟨rfl, _, Eq.trans (World.drewN_drewN _ _ _) (congrArg (World.drewN _) (Nat.add_assoc _ _ _))⟩))))
    go_meet
    case rel => exact ⟨_, (true), ez, H', ⟨by first | omega | exact Nat.le_refl _⟩, ⟨by refine kq ?_; exact BK274.out⟩, ⟨by refine kq ?_; exact BK275.out⟩, ⟨(bz2 HB.out GE274.out GE275.out)⟩⟩
  ·replace c9 := Bool.eq_false_iff.mpr c9
   subst c9
   have H1 := hq H
   clear H
   have H := H1
   clear H1
   have H' := Aside0.mk H
   clear H
   go_wp2_with (first | (go_at_call 33; (with_reducible refine (spec_NodesOk.calls k _ _ l0 false _ ?side1 ?side2 A8.out).mono ?_); (case side1 => exact Kd.C_below HR0.out (bz2 HB.out GE274.out GE275.out)); (case side2 => exact HC0.out); rintro e w16 ⟨rfl, hb⟩; replace BK274 := Aside0.mk (blk_below (g := gb274) (o := .cells #[.int .i64 0, .int .i64 0] 55 (0, 0)) (by refine kq ?_; refine blk_far ?_ NB274_275.out _; refine kq ?_; refine blk_far ?_ NB274_275.out _; refine kq ?_; exact BK274.out) hb); replace BK275 := Aside0.mk (blk_below (g := gb275) (o := .cells #[.int .i64 (-1), .int .i64 (-1)] 55 (0, 0)) (by refine kq ?_; refine blk_put (cs := #[.int .i64 (-1), .int .i64 0]) ?_ 1 _ rfl; refine kq ?_; refine blk_put (cs := #[.int .i64 0, .int .i64 0]) ?_ 0 _ rfl; refine kq ?_; exact BK275.out) hb); replace HB := Aside0.mk (below_step (bz2 HB.out GE274.out GE275.out) hb); (try clear hb); (try clear hi)))
   repeat (go_quiet (first | (go_at_call 33; (with_reducible refine (spec_NodesOk.calls k _ _ l0 false _ ?side1 ?side2 A8.out).mono ?_); (case side1 => exact Kd.C_below HR0.out (bz2 HB.out GE274.out GE275.out)); (case side2 => exact HC0.out); rintro e w16 ⟨rfl, hb⟩; replace BK274 := Aside0.mk (blk_below (g := gb274) (o := .cells #[.int .i64 0, .int .i64 0] 55 (0, 0)) (by refine kq ?_; refine blk_far ?_ NB274_275.out _; refine kq ?_; refine blk_far ?_ NB274_275.out _; refine kq ?_; exact BK274.out) hb); replace BK275 := Aside0.mk (blk_below (g := gb275) (o := .cells #[.int .i64 (-1), .int .i64 (-1)] 55 (0, 0)) (by refine kq ?_; refine blk_put (cs := #[.int .i64 (-1), .int .i64 0]) ?_ 1 _ rfl; refine kq ?_; refine blk_put (cs := #[.int .i64 0, .int .i64 0]) ?_ 0 _ rfl; refine kq ?_; exact BK275.out) hb); replace HB := Aside0.mk (below_step (bz2 HB.out GE274.out GE275.out) hb); (try clear hb); (try clear hi))); try go_wp2_with (first | (go_at_call 33; (with_reducible refine (spec_NodesOk.calls k _ _ l0 false _ ?side1 ?side2 A8.out).mono ?_); (case side1 => exact Kd.C_below HR0.out (bz2 HB.out GE274.out GE275.out)); (case side2 => exact HC0.out); rintro e w16 ⟨rfl, hb⟩; replace BK274 := Aside0.mk (blk_below (g := gb274) (o := .cells #[.int .i64 0, .int .i64 0] 55 (0, 0)) (by refine kq ?_; refine blk_far ?_ NB274_275.out _; refine kq ?_; refine blk_far ?_ NB274_275.out _; refine kq ?_; exact BK274.out) hb); replace BK275 := Aside0.mk (blk_below (g := gb275) (o := .cells #[.int .i64 (-1), .int .i64 (-1)] 55 (0, 0)) (by refine kq ?_; refine blk_put (cs := #[.int .i64 (-1), .int .i64 0]) ?_ 1 _ rfl; refine kq ?_; refine blk_put (cs := #[.int .i64 0, .int .i64 0]) ?_ 0 _ rfl; refine kq ?_; exact BK275.out) hb); replace HB := Aside0.mk (below_step (bz2 HB.out GE274.out GE275.out) hb); (try clear hb); (try clear hi))))
   go_meet
   case rel => exact ⟨_, (true), ez, H', ⟨by first | omega | exact Nat.le_refl _⟩, ⟨by refine kq ?_; exact BK274.out⟩, ⟨by refine kq ?_; exact BK275.out⟩, ⟨(bz2 HB.out GE274.out GE275.out)⟩⟩
 case rest =>
  clear HC3
  try clear c1
  try clear p2
  try clear q2
  try clear hx2
  try clear c4
  try clear c6
  try clear p6
  try clear c9
  try clear c11
  try clear c12
  try clear c12b0
  try clear c13
  try clear c13b0
  try clear hcz7_0 hcz7_1
  try clear hfz7_0 hfz7_1
  try clear hx278_0
  try clear hx278_1
  try clear hx278_2
  try clear hx278_3
  try clear hx278_4
  try clear hx278_5
  try clear hx278_6
  try clear p278
  try clear q278
  obtain ⟨kq, x30_2, rfl, HA, HJ2, BK274, BK275, HB⟩ := hcut
  cases kq with
  | zero => exact absurd HA.out (by simp [spec_BinderOf.j0])
  | succ kj2 =>
   have H := HA.out
   clear HA
   simp only [spec_BinderOf.j0] at H
   by_cases c17 : x30_2 = true
   ·subst c17
    have H1 := hp H
    clear H
    have H := H1
    clear H1
    simp only [Option.some.injEq, Prod.mk.injEq] at H
    obtain ⟨rfl, rfl⟩ := H
    have hnb18 := NB275_274.out
    have hnc18 := NB274_275.out
    obtain ⟨hcz19_0, hcz19_1⟩ := cz2 BK275.out
    obtain ⟨hfz19_0, hfz19_1⟩ := fz2 BK275.out
    obtain ⟨hcz20_0, hcz20_1⟩ := cz2 BK274.out
    obtain ⟨hfz20_0, hfz20_1⟩ := fz2 BK274.out
    go_wp2
    repeat (go_quiet (fail); try go_wp2)
    refine bodyPost_ret (results_cell_row rfl _ _ gb274 55 #[.int .i64 (-1), .int .i64 (-1)] (0, 0) _ rfl (by refine kq ?_; refine blk_put (cs := #[.int .i64 (-1), .int .i64 0]) ?_ 1 _ rfl; refine kq ?_; refine blk_put (cs := #[.int .i64 0, .int .i64 0]) ?_ 0 _ rfl; refine kq ?_; exact BK274.out) Tryd.underlying55 rfl (by kernel_rfl)) rfl ?_
    exact ⟨gz, (bz2 HB.out GE274.out GE275.out)⟩
   ·replace c17 := Bool.eq_false_iff.mpr c17
    subst c17
    have H1 := hq H
    clear H
    have H := H1
    clear H1
    replace H := bi H
    obtain ⟨t279, A210, H⟩ := H
    try dsimp only at H
    have A21 := Aside0.mk A210
    clear A210
    have H' := Aside0.mk H
    clear H
    go_wp2_with (first | (go_at_call 41; (with_reducible refine (spec_ParentOf.calls kj2 _ _ l0 a1 t279 _ ?side1 ?side2 A21.out).mono ?_); (case side1 => exact cz (Kd.C_below HR0.out HB.out)); (case side2 => exact HC0.out); rintro e w22 ⟨rfl, hb⟩; replace BK274 := Aside0.mk (blk_below (kz BK274.out) hb); replace BK275 := Aside0.mk (blk_below (kz BK275.out) hb); replace HB := Aside0.mk (below_step (bz2 HB.out GE274.out GE275.out) hb); (try clear hb); (try clear hi)))
    repeat (go_quiet (first | (go_at_call 41; (with_reducible refine (spec_ParentOf.calls kj2 _ _ l0 a1 t279 _ ?side1 ?side2 A21.out).mono ?_); (case side1 => exact cz (Kd.C_below HR0.out HB.out)); (case side2 => exact HC0.out); rintro e w22 ⟨rfl, hb⟩; replace BK274 := Aside0.mk (blk_below (kz BK274.out) hb); replace BK275 := Aside0.mk (blk_below (kz BK275.out) hb); replace HB := Aside0.mk (below_step (bz2 HB.out GE274.out GE275.out) hb); (try clear hb); (try clear hi))); try go_wp2_with (first | (go_at_call 41; (with_reducible refine (spec_ParentOf.calls kj2 _ _ l0 a1 t279 _ ?side1 ?side2 A21.out).mono ?_); (case side1 => exact cz (Kd.C_below HR0.out HB.out)); (case side2 => exact HC0.out); rintro e w22 ⟨rfl, hb⟩; replace BK274 := Aside0.mk (blk_below (kz BK274.out) hb); replace BK275 := Aside0.mk (blk_below (kz BK275.out) hb); replace HB := Aside0.mk (below_step (bz2 HB.out GE274.out GE275.out) hb); (try clear hb); (try clear hi))))
    go_loopg [6, 7] kj2 (fun kq v6 v7 w' => ∃ (x6_2 : Int) (x7_2 : Int) (x275000_2 : Int) (x275001_2 : Int), v6 = .int .i64 x6_2 /\ v7 = .int .i64 x7_2 /\ Aside0 (spec_BinderOf.l0 kq l0 a1 x6_2 x7_2 (-1) (-1) = some (r1, r2)) /\ Aside0 (kq <= kj2) /\ Aside0 (w'.heap[gb274]? = some (.cells #[.int .i64 x275000_2, .int .i64 x275001_2] 55 (0, 0))) /\ Aside0 (w'.heap[gb275]? = some (.cells #[.int .i64 (-1), .int .i64 (-1)] 55 (0, 0))) /\ Aside0 (Below w.heap.size w w'))
    case atStart => exact ⟨(a1), (t279), (0), (0), ez, ez, H', ⟨Nat.le_refl _⟩, ⟨by refine kq ?_; exact BK274.out⟩, ⟨by refine kq ?_; exact BK275.out⟩, ⟨(bz2 HB.out GE274.out GE275.out)⟩⟩
    case round =>
     clear H'
     try clear c1
     try clear p2
     try clear q2
     try clear hx2
     try clear c4
     try clear c6
     try clear p6
     try clear c9
     try clear c11
     try clear c12
     try clear c12b0
     try clear c13
     try clear c13b0
     try clear c17
     try clear c18
     try clear hcz19_0 hcz19_1
     try clear hcz20_0 hcz20_1
     try clear hcz7_0 hcz7_1
     try clear hfz19_0 hfz19_1
     try clear hfz20_0 hfz20_1
     try clear hfz7_0 hfz7_1
     try clear hx278_0
     try clear hx278_1
     try clear hx278_2
     try clear hx278_3
     try clear hx278_4
     try clear hx278_5
     try clear hx278_6
     try clear p2
     try clear p278
     try clear p6
     try clear q2
     try clear q278
     obtain ⟨x6_2, x7_2, x275000_2, x275001_2, rfl, rfl, HA, HK2, BK274, BK275, HB⟩ := hrel
     cases gk with
     | zero => exact absurd HA.out (by simp [spec_BinderOf.l0])
     | succ k2 =>
      have H := HA.out
      clear HA
      simp only [spec_BinderOf.l0] at H
      by_cases c23 : x7_2 ≥ 0
      ·rw [if_pos c23] at H
       have c23b0 : decide (0 <= x7_2) = true := decide_eq_true c23
       clear c23
       replace H := iz H
       obtain ⟨c24, H⟩ := H
       have c24b0 := decide_eq_true c24
       clear c24
       replace H := iz H
       obtain ⟨c25, H⟩ := H
       have c25b0 := decide_eq_true c25
       clear c25
       replace H := bi H
       obtain ⟨⟨t281, t284⟩, A260, H⟩ := H
       try dsimp only at H
       have A26 := Aside0.mk A260
       clear A260
       have H' := Aside0.mk H
       clear H
       have p280 : 0 <= (x7_2 : Int) := oz
       have q280 : x7_2 < (l0.length : Int) := oz
       obtain ⟨ad280, e280, hx280_0, hx280_1, hx280_2, hx280_3, hx280_4, hx280_5, hx280_6⟩ := at_T43 (Kd.C_below HR0.out HB.out) x7_2 p280 q280
       cases e280
       replace p280 := eq_true p280
       replace q280 := eq_true q280
       go_wp2_with (first | (go_at_call 42; (with_reducible refine (spec_l6Bound.calls k2 ((rd_T43 l0 x7_2).f0) ((rd_T43 l0 x7_2).f1) ((rd_T43 l0 x7_2).f2) ((rd_T43 l0 x7_2).f3) ((rd_T43 l0 x7_2).f4) ((rd_T43 l0 x7_2).f5) ((rd_T43 l0 x7_2).f6) x6_2 t281 t284 _ A26.out).mono ?_); rintro e w27 ⟨v282, v285, rfl, ho0, ho1, hb⟩; have HO283 := Aside0.mk (Kd.R_lower ho0 (below_size (bz2 HB.out GE274.out GE275.out))); have HO286 := Aside0.mk (Kd.R_lower ho1 (below_size (bz2 HB.out GE274.out GE275.out))); replace BK274 := Aside0.mk (blk_below (kz BK274.out) hb); replace BK275 := Aside0.mk (blk_below (kz BK275.out) hb); replace HB := Aside0.mk (below_step (bz2 HB.out GE274.out GE275.out) hb); (try clear hb); (try clear ho0); (try clear ho1)))
       repeat (go_quiet (first | (go_at_call 42; (with_reducible refine (spec_l6Bound.calls k2 ((rd_T43 l0 x7_2).f0) ((rd_T43 l0 x7_2).f1) ((rd_T43 l0 x7_2).f2) ((rd_T43 l0 x7_2).f3) ((rd_T43 l0 x7_2).f4) ((rd_T43 l0 x7_2).f5) ((rd_T43 l0 x7_2).f6) x6_2 t281 t284 _ A26.out).mono ?_); rintro e w27 ⟨v282, v285, rfl, ho0, ho1, hb⟩; have HO283 := Aside0.mk (Kd.R_lower ho0 (below_size (bz2 HB.out GE274.out GE275.out))); have HO286 := Aside0.mk (Kd.R_lower ho1 (below_size (bz2 HB.out GE274.out GE275.out))); replace BK274 := Aside0.mk (blk_below (kz BK274.out) hb); replace BK275 := Aside0.mk (blk_below (kz BK275.out) hb); replace HB := Aside0.mk (below_step (bz2 HB.out GE274.out GE275.out) hb); (try clear hb); (try clear ho0); (try clear ho1))); try go_wp2_with (first | (go_at_call 42; (with_reducible refine (spec_l6Bound.calls k2 ((rd_T43 l0 x7_2).f0) ((rd_T43 l0 x7_2).f1) ((rd_T43 l0 x7_2).f2) ((rd_T43 l0 x7_2).f3) ((rd_T43 l0 x7_2).f4) ((rd_T43 l0 x7_2).f5) ((rd_T43 l0 x7_2).f6) x6_2 t281 t284 _ A26.out).mono ?_); rintro e w27 ⟨v282, v285, rfl, ho0, ho1, hb⟩; have HO283 := Aside0.mk (Kd.R_lower ho0 (below_size (bz2 HB.out GE274.out GE275.out))); have HO286 := Aside0.mk (Kd.R_lower ho1 (below_size (bz2 HB.out GE274.out GE275.out))); replace BK274 := Aside0.mk (blk_below (kz BK274.out) hb); replace BK275 := Aside0.mk (blk_below (kz BK275.out) hb); replace HB := Aside0.mk (below_step (bz2 HB.out GE274.out GE275.out) hb); (try clear hb); (try clear ho0); (try clear ho1))))
       go_loopg [10] k2 (fun kq v10 w' => ∃ (x10_3 : Int) (x275000_3 : Int) (x275001_3 : Int), v10 = .int .i64 x10_3 /\ Aside0 (spec_BinderOf.l1 kq l0 a1 x7_2 t281 t284 x10_3 (-1) (-1) = some (r1, r2)) /\ Aside0 (kq <= k2) /\ Aside0 (Kd.R Kd.string 9 w' w.heap.size (fun _ => True) v282 t281) /\ Aside0 (Kd.R (Kd.int .i64) 3 w' w.heap.size (fun _ => True) v285 t284) /\ Aside0 (w'.heap[gb274]? = some (.cells #[.int .i64 x275000_3, .int .i64 x275001_3] 55 (0, 0))) /\ Aside0 (w'.heap[gb275]? = some (.cells #[.int .i64 (-1), .int .i64 (-1)] 55 (0, 0))) /\ Aside0 (Below w.heap.size w w'))
       case atStart => exact ⟨(0), (x275000_2), (x275001_2), ez, H', ⟨Nat.le_refl _⟩, ⟨by refine rq ?_; exact HO283.out⟩, ⟨by refine rq ?_; exact HO286.out⟩, ⟨by refine kq ?_; exact BK274.out⟩, ⟨by refine kq ?_; exact BK275.out⟩, ⟨(bz2 HB.out GE274.out GE275.out)⟩⟩
       case round =>
        clear H'
        try clear c1
        try clear c2
        try clear p2
        try clear q2
        try clear hx2
        try clear c4
        try clear c6
        try clear p6
        try clear c9
        try clear c11
        try clear c12
        try clear c12b0
        try clear c13
        try clear c13b0
        try clear c17
        try clear c18
        try clear c23
        try clear c23b0
        try clear c24
        try clear c24b0
        try clear c25
        try clear c25b0
        try clear p27
        try clear q27
        try clear hx27
        try clear hcz19_0 hcz19_1
        try clear hcz20_0 hcz20_1
        try clear hcz7_0 hcz7_1
        try clear hfz19_0 hfz19_1
        try clear hfz20_0 hfz20_1
        try clear hfz7_0 hfz7_1
        try clear hx278_0
        try clear hx278_1
        try clear hx278_2
        try clear hx278_3
        try clear hx278_4
        try clear hx278_5
        try clear hx278_6
        try clear hx280_0
        try clear hx280_1
        try clear hx280_2
        try clear hx280_3
        try clear hx280_4
        try clear hx280_5
        try clear hx280_6
        try clear p2
        try clear p278
        try clear p280
        try clear p6
        try clear q2
        try clear q278
        try clear q280
        obtain ⟨x10_3, x275000_3, x275001_3, rfl, HA, HK3, HO_8, HO_9, BK274, BK275, HB⟩ := hrel
        cases gk with
        | zero => exact absurd HA.out (by simp [spec_BinderOf.l1])
        | succ k3 =>
         have H := HA.out
         clear HA
         simp only [spec_BinderOf.l1] at H
         by_cases c28 : x10_3 < (t281.length : Int)
         ·rw [if_pos c28] at H
          have c28b0 := decide_eq_true c28
          clear c28
          replace H := iz H
          obtain ⟨c29, H⟩ := H
          have c29b0 := decide_eq_true c29
          clear c29
          replace H := iz H
          obtain ⟨c30, H⟩ := H
          have c30b0 := decide_eq_true c30
          clear c30
          replace H := iz H
          obtain ⟨c31, H⟩ := H
          have c31b0 := decide_eq_true c31
          clear c31
          by_cases c32 : (rdOf ByteArray.empty t281 x10_3).toList = ((rd_T43 l0 a1).f5).toList
          ·rw [if_pos c32] at H
           have c32b0 : ((rdOf ByteArray.empty t281 x10_3).toList == ((rd_T43 l0 a1).f5).toList) = true := beq_iff_eq.mpr c32
           have c32b1 : ((rdOf ByteArray.empty t281 x10_3).toList != ((rd_T43 l0 a1).f5).toList) = false := bne_eq_false_iff_eq.mpr c32
           clear c32
           replace H := iz H
           obtain ⟨c33, H⟩ := H
           have c33b0 := decide_eq_true c33
           clear c33
           simp only [Option.some.injEq, Prod.mk.injEq] at H
           obtain ⟨rfl, rfl⟩ := H
           obtain ⟨Ao34, co34, eo34⟩ := Kd.R_slice HO_8.out
           subst eo34
           have p287 : 0 <= (x10_3 : Int) := oz
           have q287 : x10_3 < (t281.length : Int) := oz
           obtain ⟨ad287, e287, hx287_0⟩ := Kd.at_string (Kd.R_reads' HO_8.out).2.2 x10_3 p287 q287
           cases e287
           replace p287 := eq_true p287
           replace q287 := eq_true q287
           have p288 : 0 <= (a1 : Int) := oz
           have q288 : a1 < (l0.length : Int) := oz
           obtain ⟨ad288, e288, hx288_0, hx288_1, hx288_2, hx288_3, hx288_4, hx288_5, hx288_6⟩ := at_T43 (Kd.C_below HR0.out HB.out) a1 p288 q288
           obtain rfl : ad280 = ad288 := (by injection e288)
           replace p288 := eq_true p288
           replace q288 := eq_true q288
           obtain ⟨Ao35, co35, eo35⟩ := Kd.R_slice HO_9.out
           subst eo35
           have p289 : 0 <= (x10_3 : Int) := oz
           have q289 : x10_3 < (t284.length : Int) := oz
           obtain ⟨ad289, e289, hx289_0⟩ := Kd.at_int (Kd.R_reads' HO_9.out).2.2 x10_3 p289 q289
           cases e289
           replace p289 := eq_true p289
           replace q289 := eq_true q289
           have hnb36 := NB274_275.out
           have hnc36 := NB275_274.out
           obtain ⟨hcz37_0, hcz37_1⟩ := cz2 BK274.out
           obtain ⟨hfz37_0, hfz37_1⟩ := fz2 BK274.out
           go_wp2
           repeat (go_quiet (fail); try go_wp2)
           refine bodyPost_ret (results_cell_row rfl _ _ gb274 55 #[.int .i64 x7_2, .int .i64 (rd t284 x10_3)] (0, 0) _ rfl (by refine kq ?_; refine blk_put (cs := #[.int .i64 x7_2, .int .i64 x275001_3]) ?_ 1 _ rfl; refine kq ?_; refine blk_put (cs := #[.int .i64 x275000_3, .int .i64 x275001_3]) ?_ 0 _ rfl; refine kq ?_; exact BK274.out) Tryd.underlying55 rfl (by kernel_rfl)) rfl ?_
           exact ⟨gz, (bz2 HB.out GE274.out GE275.out)⟩
          ·rw [if_neg c32] at H
           have c32b0 : ((rdOf ByteArray.empty t281 x10_3).toList == ((rd_T43 l0 a1).f5).toList) = false := beq_eq_false_iff_ne.mpr c32
           have c32b1 : ((rdOf ByteArray.empty t281 x10_3).toList != ((rd_T43 l0 a1).f5).toList) = true := bne_iff_ne.mpr c32
           have H' := Aside0.mk H
           clear H
           obtain ⟨Ao38, co38, eo38⟩ := Kd.R_slice HO_8.out
           subst eo38
           have p287 : 0 <= (x10_3 : Int) := oz
           have q287 : x10_3 < (t281.length : Int) := oz
           obtain ⟨ad287, e287, hx287_0⟩ := Kd.at_string (Kd.R_reads' HO_8.out).2.2 x10_3 p287 q287
           cases e287
           replace p287 := eq_true p287
           replace q287 := eq_true q287
           have p288 : 0 <= (a1 : Int) := oz
           have q288 : a1 < (l0.length : Int) := oz
           obtain ⟨ad288, e288, hx288_0, hx288_1, hx288_2, hx288_3, hx288_4, hx288_5, hx288_6⟩ := at_T43 (Kd.C_below HR0.out HB.out) a1 p288 q288
           obtain rfl : ad280 = ad288 := (by injection e288)
           replace p288 := eq_true p288
           replace q288 := eq_true q288
           go_wp2
           repeat (go_quiet (fail); try go_wp2)
           go_roundg k3
           case measure => have := HJ2.out; have := HK2.out; have := HK3.out; omega
           case rel => exact ⟨(wrap64 (x10_3 + 1)), (x275000_3), (x275001_3), ez, H', ⟨by have := HJ2.out; have := HK2.out; have := HK3.out; omega⟩, ⟨by refine rq ?_; exact HO_8.out⟩, ⟨by refine rq ?_; exact HO_9.out⟩, ⟨by refine kq ?_; exact BK274.out⟩, ⟨by refine kq ?_; exact BK275.out⟩, ⟨(bz2 HB.out GE274.out GE275.out)⟩⟩
         ·rw [if_neg c28] at H
          have c28b0 := decide_eq_false c28
          clear c28
          replace H := bi H
          obtain ⟨t290, A390, H⟩ := H
          try dsimp only at H
          have A39 := Aside0.mk A390
          clear A390
          have H' := Aside0.mk H
          clear H
          obtain ⟨Ao40, co40, eo40⟩ := Kd.R_slice HO_8.out
          subst eo40
          go_wp2_with (first | (go_at_call 41; (with_reducible refine (spec_ParentOf.calls k3 _ _ l0 x7_2 t290 _ ?side1 ?side2 A39.out).mono ?_); (case side1 => exact cz (Kd.C_below HR0.out HB.out)); (case side2 => exact HC0.out); rintro e w41 ⟨rfl, hb⟩; replace HO_8 := qz HO_8 hb; replace HO_9 := qz HO_9 hb; replace BK274 := Aside0.mk (blk_below (kz BK274.out) hb); replace BK275 := Aside0.mk (blk_below (kz BK275.out) hb); replace HB := Aside0.mk (below_step (bz2 HB.out GE274.out GE275.out) hb); (try clear hb); (try clear hi)))
          repeat (go_quiet (first | (go_at_call 41; (with_reducible refine (spec_ParentOf.calls k3 _ _ l0 x7_2 t290 _ ?side1 ?side2 A39.out).mono ?_); (case side1 => exact cz (Kd.C_below HR0.out HB.out)); (case side2 => exact HC0.out); rintro e w41 ⟨rfl, hb⟩; replace HO_8 := qz HO_8 hb; replace HO_9 := qz HO_9 hb; replace BK274 := Aside0.mk (blk_below (kz BK274.out) hb); replace BK275 := Aside0.mk (blk_below (kz BK275.out) hb); replace HB := Aside0.mk (below_step (bz2 HB.out GE274.out GE275.out) hb); (try clear hb); (try clear hi))); try go_wp2_with (first | (go_at_call 41; (with_reducible refine (spec_ParentOf.calls k3 _ _ l0 x7_2 t290 _ ?side1 ?side2 A39.out).mono ?_); (case side1 => exact cz (Kd.C_below HR0.out HB.out)); (case side2 => exact HC0.out); rintro e w41 ⟨rfl, hb⟩; replace HO_8 := qz HO_8 hb; replace HO_9 := qz HO_9 hb; replace BK274 := Aside0.mk (blk_below (kz BK274.out) hb); replace BK275 := Aside0.mk (blk_below (kz BK275.out) hb); replace HB := Aside0.mk (below_step (bz2 HB.out GE274.out GE275.out) hb); (try clear hb); (try clear hi))))
          go_roundg k3
          case measure => have := HJ2.out; have := HK2.out; have := HK3.out; omega
          case rel => exact ⟨(x7_2), (t290), (x275000_3), (x275001_3), ez, ez, H', ⟨by have := HJ2.out; have := HK2.out; have := HK3.out; omega⟩, ⟨by refine kq ?_; exact BK274.out⟩, ⟨by refine kq ?_; exact BK275.out⟩, ⟨(bz2 HB.out GE274.out GE275.out)⟩⟩
      ·rw [if_neg c23] at H
       have c23b0 : decide (0 <= x7_2) = false := decide_eq_false c23
       clear c23
       simp only [Option.some.injEq, Prod.mk.injEq] at H
       obtain ⟨rfl, rfl⟩ := H
       have hnb42 := NB275_274.out
       have hnc42 := NB274_275.out
       obtain ⟨hcz43_0, hcz43_1⟩ := cz2 BK275.out
       obtain ⟨hfz43_0, hfz43_1⟩ := fz2 BK275.out
       obtain ⟨hcz44_0, hcz44_1⟩ := cz2 BK274.out
       obtain ⟨hfz44_0, hfz44_1⟩ := fz2 BK274.out
       go_wp2
       repeat (go_quiet (fail); try go_wp2)
       refine bodyPost_ret (results_cell_row rfl _ _ gb274 55 #[.int .i64 (-1), .int .i64 (-1)] (0, 0) _ rfl (by refine kq ?_; refine blk_put (cs := #[.int .i64 (-1), .int .i64 x275001_2]) ?_ 1 _ rfl; refine kq ?_; refine blk_put (cs := #[.int .i64 x275000_2, .int .i64 x275001_2]) ?_ 0 _ rfl; refine kq ?_; exact BK274.out) Tryd.underlying55 rfl (by kernel_rfl)) rfl ?_
       exact ⟨gz, (bz2 HB.out GE274.out GE275.out)⟩
theorem bind_node (a b : Int) (w : World) : Sem.run Tryd.prog (Instr.field 55 (.agg #[.int .i64 a, .int .i64 b]) 0) w = .ok (.int .i64 a) w := by
 have h := Tryd.underlying55
 simp [Instr.field, asAgg, go_sem, h]
attribute [local go_sem] bind_node
mutual
def spec_FreeNames.l0 : Nat -> List (S43) -> List ByteArray -> Int -> Option (List ByteArray)
 | 0, _, _, _ => none
 | k + 1, x0, x3, x4 => if x4 < (x0.length : Int) then ((spec_NodesOk.f k x0).bind fun t294 => (spec_FreeNames.j1 k x0 x3 x4 t294)) else (spec_FreeNames.j1 k x0 x3 x4 false)
def spec_FreeNames.j1 : Nat -> List (S43) -> List ByteArray -> Int -> Bool -> Option (List ByteArray)
 | 0, _, _, _, _ => none
 | k + 1, x0, x3, x4, x13 => if x13 = true then (if 0 <= x4 then (if x4 < (x0.length : Int) then (if ((rd_T43 x0 x4).f0) = 1 then ((spec_BinderOf.f k x0 x4).bind fun bt296 => (if bt296.1 < 0 then ((spec_l6Sort.f k x3 ((rd_T43 x0 x4).f5)).bind fun t299 => (spec_FreeNames.l0 k x0 t299 (wrap64 (x4 + 1)))) else (spec_FreeNames.l0 k x0 x3 (wrap64 (x4 + 1))))) else (spec_FreeNames.l0 k x0 x3 (wrap64 (x4 + 1)))) else (none)) else (none)) else (some x3)
end
def spec_FreeNames.f (k : Nat) (l0 : List (S43)) : Option (List ByteArray) := spec_FreeNames.l0 k l0 (([] : List ByteArray)) 0
theorem spec_FreeNames.mono_l : ∀ k, (∀ y0 y1 y2, LeO (spec_FreeNames.l0 k y0 y1 y2) (spec_FreeNames.l0 (k + 1) y0 y1 y2)) /\ (∀ y0 y1 y2 y3, LeO (spec_FreeNames.j1 k y0 y1 y2 y3) (spec_FreeNames.j1 (k + 1) y0 y1 y2 y3))
 | 0 => ⟨fun _ _ _ r h => by simp [spec_FreeNames.l0] at h, fun _ _ _ _ r h => by simp [spec_FreeNames.j1] at h⟩
 | k + 1 => by
  obtain ⟨ih0, ih1⟩ := spec_FreeNames.mono_l k
  refine ⟨?_, ?_⟩
  ·intro y0 y1 y2
   unfold spec_FreeNames.l0
   with_reducible repeat' first | exact ih0 _ _ _ | exact ih1 _ _ _ _ | exact spec_BinderOf.mono _ _ _ | exact spec_NodesOk.mono _ _ | exact spec_l6Sort.mono _ _ _ | exact lrz _ | exact lnz _ | refine liz ?_ ?_ | refine lbz ?_ fun _ => ?_
  ·intro y0 y1 y2 y3
   unfold spec_FreeNames.j1
   with_reducible repeat' first | exact ih0 _ _ _ | exact ih1 _ _ _ _ | exact spec_BinderOf.mono _ _ _ | exact spec_NodesOk.mono _ _ | exact spec_l6Sort.mono _ _ _ | exact lrz _ | exact lnz _ | refine liz ?_ ?_ | refine lbz ?_ fun _ => ?_
theorem spec_FreeNames.mono : ∀ a0 k, LeO (spec_FreeNames.f k a0) (spec_FreeNames.f (k + 1) a0) := by
 intro a0 k
 obtain ⟨ih0, ih1⟩ := spec_FreeNames.mono_l k
 unfold spec_FreeNames.f
 with_reducible repeat' first | exact ih0 _ _ _ | exact ih1 _ _ _ _ | exact spec_BinderOf.mono _ _ _ | exact spec_NodesOk.mono _ _ | exact spec_l6Sort.mono _ _ _ | exact lrz _ | exact lnz _ | refine liz ?_ ?_ | refine lbz ?_ fun _ => ?_
set_option maxHeartbeats 8000000 in
set_option maxRecDepth 100000 in
theorem spec_FreeNames.calls (k : Nat) (A0 : Option Addr) (c0 : Nat) (l0 : List (S43)) (r : List ByteArray) (w : World) (hr0 : Kd.C k43 w A0 l0.length l0) (hc0 : l0.length <= c0) (h : spec_FreeNames.f k l0 = some r) :
  Calls Tryd.prog 25 #[.slice A0 l0.length c0] w fun e w' => ∃ v0_ : Value, e = .returned (v0_) /\ Kd.R Kd.string 9 w' w.heap.size (fun _ => True) v0_ r /\ Below w.heap.size w w' := by
 have HR0 := Aside0.mk hr0
 have HC0 := Aside0.mk hc0
 clear hr0 hc0
 have HB := Aside0.mk (Below.refl w.heap.size w)
 have H : (spec_FreeNames.l0 k l0 (([] : List ByteArray)) 0) = some r := h
 clear h
 obtain ⟨y291, hy291⟩ : ∃ y_ : List ByteArray, y_ = (([] : List ByteArray)) := ⟨_, rfl⟩
 replace H : (spec_FreeNames.l0 k l0 y291 0) = some r := yz hy291 H
 have Ny291 := Aside0.mk hy291
 clear hy291
 have H' := Aside0.mk H
 clear H
 go_enter Tryd.func25, Tryd.ntmps25
 go_wp2_with (first | ((with_reducible refine gate_dst (N := 5) rfl ?_); refine Kd.R_lit Kd.string _ 9 ?hg (N := 5) ?hd (xs := ([] : List ByteArray)) (inner := []) (ok := fun _ => True) (okp := fun _ => True) ?hr ?hp (fun _ hk => hk) trivial (Below.refl _ _) (Nat.le_refl _) (by simp) ?_; (case hd => rfl); (case hg => rfl); (case hr => exact vz); (case hp => exact (Reps.none _ _)); intro v292 w2 ho3 hb hg_ hnew_; clear hg_ hnew_; (first | rw [<- Ny291.out] at ho3 | (simp only [Int.reduceToNat] at ho3; rw [<- Ny291.out] at ho3)); have HO293 := Aside0.mk (Kd.R_lower ho3 (below_size (bz0 HB.out))); replace HB := Aside0.mk (below_step (bz0 HB.out) hb); clear hb ho3))
 (try simp only [Act.put, sz1, sz2, sz3])
 go_loopg [3, 4] k (fun kq v3 v4 w' => ∃ (x3_1 : List ByteArray) (x4_1 : Int), v4 = .int .i64 x4_1 /\ Aside0 (spec_FreeNames.l0 kq l0 x3_1 x4_1 = some r) /\ Aside0 (kq <= k) /\ Aside0 (Kd.R Kd.string 9 w' w.heap.size (fun _ => True) v3 x3_1) /\ Aside0 (Below w.heap.size w w'))
 case atStart => exact ⟨(y291), (0), ez, H', ⟨Nat.le_refl _⟩, ⟨by refine rq ?_; exact HO293.out⟩, ⟨(bz0 HB.out)⟩⟩
 case round =>
  clear H'
  try clear c2
  try clear p2
  obtain ⟨x3_1, x4_1, rfl, HA, HK1, HO_3, HB⟩ := hrel
  cases gk with
  | zero => exact absurd HA.out (by simp [spec_FreeNames.l0])
  | succ k1 =>
   have H := HA.out
   clear HA
   simp only [spec_FreeNames.l0] at H
   have HC4 := Aside0.mk H
   clear H
   go_upto_region 3 with (fail)
   go_cut [13] (fun v13 wc => ∃ (kq : Nat) (x13_3 : Bool), v13 = .bool x13_3 /\ Aside0 (spec_FreeNames.j1 kq l0 x3_1 x4_1 x13_3 = some r) /\ Aside0 (kq <= k1) /\ Aside0 (Kd.R Kd.string 9 wc w.heap.size (fun _ => True) u3 x3_1) /\ Aside0 (Below w.heap.size w wc))
   case first =>
    have H := HC4.out
    clear HC4
    by_cases c5 : x4_1 < (l0.length : Int)
    ·rw [if_pos c5] at H
     have c5b0 := decide_eq_true c5
     clear c5
     (first | rw [c5b0] | (simp only [i64_w, i32_w]; rw [c5b0]) | skip)
     replace H := bi H
     obtain ⟨t294, A60, H⟩ := H
     try dsimp only at H
     have A6 := Aside0.mk A60
     clear A60
     have H' := Aside0.mk H
     clear H
     go_wp2_with (first | (go_at_call 33; (with_reducible refine (spec_NodesOk.calls k1 _ _ l0 t294 _ ?side1 ?side2 A6.out).mono ?_); (case side1 => exact cz (Kd.C_below HR0.out HB.out)); (case side2 => exact HC0.out); rintro e w7 ⟨rfl, hb⟩; replace HO_3 := qz HO_3 hb; replace HB := Aside0.mk (below_step (bz0 HB.out) hb); (try clear hb); (try clear hi)))
     go_meet
     case rel => exact ⟨_, (t294), ez, H', ⟨by have := HK1.out; first | omega | exact Nat.le_refl _⟩, ⟨by refine rq ?_; exact HO_3.out⟩, ⟨(bz0 HB.out)⟩⟩
    ·rw [if_neg c5] at H
     have c5b0 := decide_eq_false c5
     clear c5
     (first | rw [c5b0] | (simp only [i64_w, i32_w]; rw [c5b0]) | skip)
     have H' := Aside0.mk H
     clear H
     go_wp2
     go_meet
     case rel => exact ⟨_, (false), ez, H', ⟨by have := HK1.out; first | omega | exact Nat.le_refl _⟩, ⟨by refine rq ?_; exact HO_3.out⟩, ⟨(bz0 HB.out)⟩⟩
   case rest =>
    clear HC4
    try clear c2
    try clear p2
    try clear c5
    try clear c5b0
    try clear p2
    obtain ⟨kq, x13_3, rfl, HA, HJ3, HO_3, HB⟩ := hcut
    cases kq with
    | zero => exact absurd HA.out (by simp [spec_FreeNames.j1])
    | succ kj3 =>
     have H := HA.out
     clear HA
     simp only [spec_FreeNames.j1] at H
     by_cases c8 : x13_3 = true
     ·subst c8
      have H1 := hp H
      clear H
      have H := H1
      clear H1
      replace H := iz H
      obtain ⟨c9, H⟩ := H
      have c9b0 := decide_eq_true c9
      clear c9
      replace H := iz H
      obtain ⟨c10, H⟩ := H
      have c10b0 := decide_eq_true c10
      clear c10
      by_cases c11 : ((rd_T43 l0 x4_1).f0) = 1
      ·rw [if_pos c11] at H
       have c11b0 : (((rd_T43 l0 x4_1).f0) == 1) = true := beq_iff_eq.mpr c11
       have c11b1 : (((rd_T43 l0 x4_1).f0) != 1) = false := bne_eq_false_iff_eq.mpr c11
       clear c11
       replace H := bi H
       obtain ⟨⟨t296, t297⟩, A120, H⟩ := H
       try dsimp only at H
       have A12 := Aside0.mk A120
       clear A120
       by_cases c13 : t296 < 0
       ·rw [if_pos c13] at H
        have c13b0 := decide_eq_true c13
        clear c13
        replace H := bi H
        obtain ⟨t299, A140, H⟩ := H
        try dsimp only at H
        have A14 := Aside0.mk A140
        clear A140
        have H' := Aside0.mk H
        clear H
        have p295 : 0 <= (x4_1 : Int) := oz
        have q295 : x4_1 < (l0.length : Int) := oz
        obtain ⟨ad295, e295, hx295_0, hx295_1, hx295_2, hx295_3, hx295_4, hx295_5, hx295_6⟩ := at_T43 (Kd.C_below HR0.out HB.out) x4_1 p295 q295
        cases e295
        replace p295 := eq_true p295
        replace q295 := eq_true q295
        go_wp2_with (first | (go_at_call 49; (with_reducible refine (spec_BinderOf.calls kj3 _ _ l0 x4_1 t296 t297 _ ?side1 ?side2 A12.out).mono ?_); (case side1 => exact cz (Kd.C_below HR0.out HB.out)); (case side2 => exact HC0.out); rintro e w15 ⟨rfl, hb⟩; replace HO_3 := qz HO_3 hb; replace HB := Aside0.mk (below_step (bz0 HB.out) hb); (try clear hb); have p298 : 0 <= (x4_1 : Int) := oz; have q298 : x4_1 < (l0.length : Int) := oz; obtain ⟨ad298, e298, hx298_0, hx298_1, hx298_2, hx298_3, hx298_4, hx298_5, hx298_6⟩ := at_T43 HR0.out x4_1 p298 q298; obtain rfl : ad295 = ad298 := (by injection e298); replace hx298_0 := hz HB.out hx298_0; replace hx298_1 := hz HB.out hx298_1; replace hx298_2 := hz HB.out hx298_2; replace hx298_3 := hz HB.out hx298_3; replace hx298_4 := hz HB.out hx298_4; replace hx298_5 := hz HB.out hx298_5; replace hx298_6 := hz HB.out hx298_6; replace p298 := eq_true p298; replace q298 := eq_true q298; obtain ⟨Ao16, co16, eo16⟩ := Kd.R_slice HO_3.out; subst eo16) | ((with_reducible refine gate_callee (f := 43) rfl ?_); refine goesL_ (some 35) rfl rfl Tryd.func43 (by kernel_rfl) rfl #[.slice Ao16 x3_1.length co16, .string ((rd_T43 l0 x4_1).f5)] rfl lz ?_; (with_reducible refine (spec_l6Sort.calls kj3 (fun k_ => some k_ = (.slice Ao16 x3_1.length co16 : Value).ownBlock) (.slice Ao16 x3_1.length co16) x3_1 ((rd_T43 l0 x4_1).f5) t299 w _ ?side1 ?side2 A14.out).mono ?_); (case side1 => repeat (first | (with_reducible first | exact HB.out | apply below_alloc | apply pw_below_drewN | apply below_drew1) | exact HB.out)); (case side2 => exact Kd.R_tight rfl HO_3.out); rintro e w17 ⟨v300, rfl, ho0, hb, hkp⟩; refine ⟨_, rfl, ?_⟩; have n0_ := Aside0.mk (Kd.R_mono (ok' := fun k_ => True) ho0 (fun k_ hk_ => trivial)); have n1_ := Aside0.mk (hb); clear HB; clear HO_3; have HO301 := n0_; have HB := n1_; clear n0_ n1_; (try clear hb); (try clear hkp); (try clear ho0)))
        go_roundg kj3
        case measure => have := HK1.out; have := HJ3.out; omega
        case rel => exact ⟨(t299), (wrap64 (x4_1 + 1)), ez, H', ⟨by have := HK1.out; have := HJ3.out; omega⟩, ⟨by refine rq ?_; exact HO301.out⟩, ⟨(bz0 HB.out)⟩⟩
       ·rw [if_neg c13] at H
        have c13b0 := decide_eq_false c13
        clear c13
        have H' := Aside0.mk H
        clear H
        have p295 : 0 <= (x4_1 : Int) := oz
        have q295 : x4_1 < (l0.length : Int) := oz
        obtain ⟨ad295, e295, hx295_0, hx295_1, hx295_2, hx295_3, hx295_4, hx295_5, hx295_6⟩ := at_T43 (Kd.C_below HR0.out HB.out) x4_1 p295 q295
        cases e295
        replace p295 := eq_true p295
        replace q295 := eq_true q295
        go_wp2_with (first | (go_at_call 49; (with_reducible refine (spec_BinderOf.calls kj3 _ _ l0 x4_1 t296 t297 _ ?side1 ?side2 A12.out).mono ?_); (case side1 => exact cz (Kd.C_below HR0.out HB.out)); (case side2 => exact HC0.out); rintro e w18 ⟨rfl, hb⟩; replace HO_3 := qz HO_3 hb; replace HB := Aside0.mk (below_step (bz0 HB.out) hb); (try clear hb); (try clear hi)))
        go_roundg kj3
        case measure => have := HK1.out; have := HJ3.out; omega
        case rel => exact ⟨(x3_1), (wrap64 (x4_1 + 1)), ez, H', ⟨by have := HK1.out; have := HJ3.out; omega⟩, ⟨by refine rq ?_; exact HO_3.out⟩, ⟨(bz0 HB.out)⟩⟩
      ·rw [if_neg c11] at H
       have c11b0 : (((rd_T43 l0 x4_1).f0) == 1) = false := beq_eq_false_iff_ne.mpr c11
       have c11b1 : (((rd_T43 l0 x4_1).f0) != 1) = true := bne_iff_ne.mpr c11
       have H' := Aside0.mk H
       clear H
       have p295 : 0 <= (x4_1 : Int) := oz
       have q295 : x4_1 < (l0.length : Int) := oz
       obtain ⟨ad295, e295, hx295_0, hx295_1, hx295_2, hx295_3, hx295_4, hx295_5, hx295_6⟩ := at_T43 (Kd.C_below HR0.out HB.out) x4_1 p295 q295
       cases e295
       replace p295 := eq_true p295
       replace q295 := eq_true q295
       go_wp2
       go_roundg kj3
       case measure => have := HK1.out; have := HJ3.out; omega
       case rel => exact ⟨(x3_1), (wrap64 (x4_1 + 1)), ez, H', ⟨by have := HK1.out; have := HJ3.out; omega⟩, ⟨by refine rq ?_; exact HO_3.out⟩, ⟨(bz0 HB.out)⟩⟩
     ·replace c8 := Bool.eq_false_iff.mpr c8
      subst c8
      have H1 := hq H
      clear H
      have H := H1
      clear H1
      obtain rfl := Option.some.inj H
      go_wp2
      go_ret
      exact ⟨_, gz, by refine rq ?_; exact HO_3.out, (bz0 HB.out)⟩
end Go.Proofs.YtmilegjmiiccdaaDoor.PFnExactCanon
