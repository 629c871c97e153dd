/- PFnExactRenameOnex10, of the words and walks that the law FnExactRenameOne needs; made by this session's program out of printed texts. -/

import Derived.Test.YtdjamdnjkdllgaaGreatDoorVERenameOnePx0
import Derived.Test.YtdjamdnjkdllgaaGreatDoorVERenameOnePx3
import Derived.Test.YtdjamdnjkdllgaaGreatDoorVERenameOnePx6
import Derived.Test.YtdjamdnjkdllgaaGreatDoorVERenameOnePx8
import Derived.Test.YtdjamdnjkdllgaaGreatDoorVERenameOnePx9
namespace Go.Proofs.YtdjamdnjkdllgaaGreatDoor.PFnExactRenameOne
open Go.RowKit Go.Proofs.YtdjamdnjkdllgaaGreatDoorW.PrintWords Go.Proofs.YtdjamdnjkdllgaaGreatDoorW.PrintLast Go.Proofs.YtdjamdnjkdllgaaGreatDoorW.PrintMore
attribute [local go_sem] max2_int min2_int max_two min_two max_three min_three max_four min_four
set_option linter.unusedVariables false
set_option linter.unusedSimpArgs false
mutual
def spec_BinderOf.j0 : Nat -> List (S45) -> Int -> Bool -> Int -> Int -> Option (Int × Int)
 | 0, _, _, _, _, _ => none
 | k + 1, x0, x1, x30, x248000, x248001 => if x30 = true then (some (x248000, x248001)) else ((spec_ParentOf.f k x0 x1).bind fun t251 => (spec_BinderOf.l0 k x0 x1 x1 t251 x248000 x248001))
def spec_BinderOf.l0 : Nat -> List (S45) -> Int -> Int -> Int -> Int -> Int -> Option (Int × Int)
 | 0, _, _, _, _, _, _ => none
 | k + 1, x0, x1, x6, x7, x248000, x248001 => if x7 ≥ 0 then (if 0 <= x7 then (if x7 < (x0.length : Int) then ((spec_l6Bound.f k ((rd_T45 x0 x7).f0) ((rd_T45 x0 x7).f1) ((rd_T45 x0 x7).f2) ((rd_T45 x0 x7).f3) ((rd_T45 x0 x7).f4) ((rd_T45 x0 x7).f5) ((rd_T45 x0 x7).f6) x6).bind fun bt253 => (spec_BinderOf.l1 k x0 x1 x7 bt253.1 bt253.2 0 x248000 x248001)) else (none)) else (none)) else (some (x248000, x248001))
def spec_BinderOf.l1 : Nat -> List (S45) -> Int -> Int -> List ByteArray -> List Int -> Int -> Int -> Int -> Option (Int × Int)
 | 0, _, _, _, _, _, _, _, _ => none
 | k + 1, x0, x1, x7, x8, x9, x10, x248000, x248001 => if x10 < (x8.length : Int) then (if 0 <= x10 then (if 0 <= x1 then (if x1 < (x0.length : Int) then (if (rdOf ByteArray.empty x8 x10).toList = ((rd_T45 x0 x1).f5).toList then (if x10 < (x9.length : Int) then (some (x7, rd x9 x10)) else (none)) else (spec_BinderOf.l1 k x0 x1 x7 x8 x9 (wrap64 (x10 + 1)) x248000 x248001)) else (none)) else (none)) else (none)) else ((spec_ParentOf.f k x0 x7).bind fun t262 => (spec_BinderOf.l0 k x0 x1 x7 t262 x248000 x248001))
end
def spec_BinderOf.f (k : Nat) (l0 : List (S45)) (a1 : Int) : Option (Int × Int) := (spec_NodesOk.f k l0).bind fun t248 => (if t248 = true then ((spec_l1In.f a1 0 (wrap64 ((l0.length : Int) - 1))).bind fun t249 => (if t249 = true then (if 0 <= a1 then (if a1 < (l0.length : Int) then (spec_BinderOf.j0 k l0 a1 (((rd_T45 l0 a1).f0) != 1) (-1) (-1)) else (none)) else (none)) else (spec_BinderOf.j0 k l0 a1 true (-1) (-1)))) else (spec_BinderOf.j0 k l0 a1 true (-1) (-1)))
theorem spec_BinderOf.mono_l : ∀ k, (∀ y0 y1 y2 y3 y4, LeO (spec_BinderOf.j0 k y0 y1 y2 y3 y4) (spec_BinderOf.j0 (k + 1) y0 y1 y2 y3 y4)) /\ (∀ y0 y1 y2 y3 y4 y5, LeO (spec_BinderOf.l0 k y0 y1 y2 y3 y4 y5) (spec_BinderOf.l0 (k + 1) y0 y1 y2 y3 y4 y5)) /\ (∀ y0 y1 y2 y3 y4 y5 y6 y7, LeO (spec_BinderOf.l1 k y0 y1 y2 y3 y4 y5 y6 y7) (spec_BinderOf.l1 (k + 1) y0 y1 y2 y3 y4 y5 y6 y7))
 | 0 => ⟨fun _ _ _ _ _ r h => by simp [spec_BinderOf.j0] at h, fun _ _ _ _ _ _ r h => by simp [spec_BinderOf.l0] at h, fun _ _ _ _ _ _ _ _ r h => by simp [spec_BinderOf.l1] at h⟩
 | k + 1 => by
  obtain ⟨ih0, ih1, ih2⟩ := spec_BinderOf.mono_l k
  refine ⟨?_, ?_, ?_⟩
  ·intro y0 y1 y2 y3 y4
   unfold spec_BinderOf.j0
   with_reducible repeat' first | exact ih0 _ _ _ _ _ | exact ih1 _ _ _ _ _ _ | exact ih2 _ _ _ _ _ _ _ _ | exact spec_NodesOk.mono _ _ | exact spec_ParentOf.mono _ _ _ | exact spec_l6Bound.mono _ _ _ _ _ _ _ _ _ | exact lrz _ | exact lnz _ | refine liz ?_ ?_ | refine lbz ?_ fun _ => ?_
  ·intro y0 y1 y2 y3 y4 y5
   unfold spec_BinderOf.l0
   with_reducible repeat' first | exact ih0 _ _ _ _ _ | exact ih1 _ _ _ _ _ _ | exact ih2 _ _ _ _ _ _ _ _ | exact spec_NodesOk.mono _ _ | exact spec_ParentOf.mono _ _ _ | exact spec_l6Bound.mono _ _ _ _ _ _ _ _ _ | exact lrz _ | exact lnz _ | refine liz ?_ ?_ | refine lbz ?_ fun _ => ?_
  ·intro y0 y1 y2 y3 y4 y5 y6 y7
   unfold spec_BinderOf.l1
   with_reducible repeat' first | exact ih0 _ _ _ _ _ | exact ih1 _ _ _ _ _ _ | exact ih2 _ _ _ _ _ _ _ _ | exact spec_NodesOk.mono _ _ | exact spec_ParentOf.mono _ _ _ | exact spec_l6Bound.mono _ _ _ _ _ _ _ _ _ | exact lrz _ | exact lnz _ | refine liz ?_ ?_ | refine lbz ?_ fun _ => ?_
theorem spec_BinderOf.mono : ∀ a0 a1 k, LeO (spec_BinderOf.f k a0 a1) (spec_BinderOf.f (k + 1) a0 a1) := by
 intro a0 a1 k
 obtain ⟨ih0, ih1, ih2⟩ := spec_BinderOf.mono_l k
 unfold spec_BinderOf.f
 with_reducible repeat' first | exact ih0 _ _ _ _ _ | exact ih1 _ _ _ _ _ _ | exact ih2 _ _ _ _ _ _ _ _ | exact spec_NodesOk.mono _ _ | exact spec_ParentOf.mono _ _ _ | exact spec_l6Bound.mono _ _ _ _ _ _ _ _ _ | exact lrz _ | exact lnz _ | refine liz ?_ ?_ | refine lbz ?_ fun _ => ?_
set_option maxHeartbeats 8000000 in
set_option maxRecDepth 100000 in
theorem spec_BinderOf.calls (k : Nat) (A0 : Option Addr) (c0 : Nat) (l0 : List (S45)) (a1 : Int) (r1 : Int) (r2 : Int) (w : World) (hr0 : Kd.C k45 w A0 l0.length l0) (hc0 : l0.length <= c0) (h : spec_BinderOf.f k l0 a1 = some (r1, r2)) :
  Calls Tryz.prog 51 #[.slice A0 l0.length c0, .int .i64 a1] w fun e w' => e = .returned (.agg #[.int .i64 r1, .int .i64 r2]) /\ Below w.heap.size w w' := by
 have hu30 := Tryz.underlying30
 have hu45 := Tryz.underlying45
 have HR0 := am hr0
 have HC0 := am hc0
 clear hr0 hc0
 have HB := am (Below.refl w.heap.size w)
 have H : ((spec_NodesOk.f k l0).bind fun t248 => (if t248 = true then ((spec_l1In.f a1 0 (wrap64 ((l0.length : Int) - 1))).bind fun t249 => (if t249 = true then (if 0 <= a1 then (if a1 < (l0.length : Int) then (spec_BinderOf.j0 k l0 a1 (((rd_T45 l0 a1).f0) != 1) (-1) (-1)) else (none)) else (none)) else (spec_BinderOf.j0 k l0 a1 true (-1) (-1)))) else (spec_BinderOf.j0 k l0 a1 true (-1) (-1)))) = some (r1, r2) := h
 clear h
 have HC3 := am H
 clear H
 go_enter Tryz.func51, Tryz.ntmps51
 go_upto_region 2 with (first | ((with_reducible refine gate_dst (N := 4) rfl ?_); (try (refine gate_guard (by rfl) ?_; dsimp only)); refine box_event ?hg (N := 4) ?hd (cs := #[.int .i64 0, .int .i64 0]) (t := 30) ?hr ?_; (case hd => rfl); (case hg => rfl); (case hr => exact vz); intro gb246 hg w4 hbox hb; have BK246 := am (hbox); have GW246 := am ((by rw [hg]; exact (below_size (bz0 HB.out)) : w.heap.size <= gb246)); have GE246 := GW246; replace HB := bs (bz0 HB.out) hb; clear hb hbox hg) | ((with_reducible refine gate_dst (N := 5) rfl ?_); (try (refine gate_guard (by rfl) ?_; dsimp only)); refine box_event ?hg (N := 5) ?hd (cs := #[.int .i64 0, .int .i64 0]) (t := 30) ?hr ?_; (case hd => rfl); (case hg => rfl); (case hr => exact vz); intro gb247 hg w5 hbox hb; have BK247 := am (hbox); have GW247 := am ((by rw [hg]; exact (below_size (bz1 HB.out GE246.out)) : w.heap.size <= gb247)); have GE247 := GW247; replace HB := bs (bz1 HB.out GE246.out) hb; have NB246_247 := am ((by rw [hg]; exact Nat.ne_of_lt (blk_lt (kz BK246.out)) : gb246 ≠ gb247)); have NB247_246 := am ((by rw [hg]; exact Nat.ne_of_gt (blk_lt (kz BK246.out)) : gb247 ≠ gb246)); replace BK246 := kb BK246 hb; clear hb hbox hg; have hnb6 := NB247_246.out; have hnc6 := NB246_247.out; obtain ⟨hcz7_0, hcz7_1⟩ := cz2 BK247.out; obtain ⟨hfz7_0, hfz7_1⟩ := fz2 BK247.out))
 repeat (go_quiet (first | ((with_reducible refine gate_dst (N := 4) rfl ?_); (try (refine gate_guard (by rfl) ?_; dsimp only)); refine box_event ?hg (N := 4) ?hd (cs := #[.int .i64 0, .int .i64 0]) (t := 30) ?hr ?_; (case hd => rfl); (case hg => rfl); (case hr => exact vz); intro gb246 hg w4 hbox hb; have BK246 := am (hbox); have GW246 := am ((by rw [hg]; exact (below_size (bz0 HB.out)) : w.heap.size <= gb246)); have GE246 := GW246; replace HB := bs (bz0 HB.out) hb; clear hb hbox hg) | ((with_reducible refine gate_dst (N := 5) rfl ?_); (try (refine gate_guard (by rfl) ?_; dsimp only)); refine box_event ?hg (N := 5) ?hd (cs := #[.int .i64 0, .int .i64 0]) (t := 30) ?hr ?_; (case hd => rfl); (case hg => rfl); (case hr => exact vz); intro gb247 hg w5 hbox hb; have BK247 := am (hbox); have GW247 := am ((by rw [hg]; exact (below_size (bz1 HB.out GE246.out)) : w.heap.size <= gb247)); have GE247 := GW247; replace HB := bs (bz1 HB.out GE246.out) hb; have NB246_247 := am ((by rw [hg]; exact Nat.ne_of_lt (blk_lt (kz BK246.out)) : gb246 ≠ gb247)); have NB247_246 := am ((by rw [hg]; exact Nat.ne_of_gt (blk_lt (kz BK246.out)) : gb247 ≠ gb246)); replace BK246 := kb BK246 hb; clear hb hbox hg; have hnb6 := NB247_246.out; have hnc6 := NB246_247.out; obtain ⟨hcz7_0, hcz7_1⟩ := cz2 BK247.out; obtain ⟨hfz7_0, hfz7_1⟩ := fz2 BK247.out)); go_upto_region 2 with (first | ((with_reducible refine gate_dst (N := 4) rfl ?_); (try (refine gate_guard (by rfl) ?_; dsimp only)); refine box_event ?hg (N := 4) ?hd (cs := #[.int .i64 0, .int .i64 0]) (t := 30) ?hr ?_; (case hd => rfl); (case hg => rfl); (case hr => exact vz); intro gb246 hg w4 hbox hb; have BK246 := am (hbox); have GW246 := am ((by rw [hg]; exact (below_size (bz0 HB.out)) : w.heap.size <= gb246)); have GE246 := GW246; replace HB := bs (bz0 HB.out) hb; clear hb hbox hg) | ((with_reducible refine gate_dst (N := 5) rfl ?_); (try (refine gate_guard (by rfl) ?_; dsimp only)); refine box_event ?hg (N := 5) ?hd (cs := #[.int .i64 0, .int .i64 0]) (t := 30) ?hr ?_; (case hd => rfl); (case hg => rfl); (case hr => exact vz); intro gb247 hg w5 hbox hb; have BK247 := am (hbox); have GW247 := am ((by rw [hg]; exact (below_size (bz1 HB.out GE246.out)) : w.heap.size <= gb247)); have GE247 := GW247; replace HB := bs (bz1 HB.out GE246.out) hb; have NB246_247 := am ((by rw [hg]; exact Nat.ne_of_lt (blk_lt (kz BK246.out)) : gb246 ≠ gb247)); have NB247_246 := am ((by rw [hg]; exact Nat.ne_of_gt (blk_lt (kz BK246.out)) : gb247 ≠ gb246)); replace BK246 := kb BK246 hb; clear hb hbox hg; have hnb6 := NB247_246.out; have hnc6 := NB246_247.out; obtain ⟨hcz7_0, hcz7_1⟩ := cz2 BK247.out; obtain ⟨hfz7_0, hfz7_1⟩ := fz2 BK247.out)))
 (try simp only [Act.put, sz1, sz2, sz3])
 go_cut [30] (fun v30 wc => ∃ (kq : Nat) (x30_2 : Bool), v30 = .bool x30_2 /\ Aside0 (spec_BinderOf.j0 kq l0 a1 x30_2 (-1) (-1) = some (r1, r2)) /\ Aside0 (kq <= k) /\ Aside0 (wc.heap[gb246]? = some (.cells #[.int .i64 0, .int .i64 0] 30 (0, 0))) /\ Aside0 (wc.heap[gb247]? = some (.cells #[.int .i64 (-1), .int .i64 (-1)] 30 (0, 0))) /\ Aside0 (Below w.heap.size w wc))
 case first =>
  have H := HC3.out
  clear HC3
  replace H := bi H
  obtain ⟨t248, A80, H⟩ := H
  try dsimp only at H
  have A8 := am A80
  clear A80
  by_cases c9 : t248 = true
  ·subst c9
   have H1 := hp H
   clear H
   have H := H1
   clear H1
   replace H := bi H
   obtain ⟨t249, A100, H⟩ := H
   try dsimp only at H
   have A10 := am A100
   clear A100
   by_cases c11 : t249 = true
   ·subst c11
    have H1 := hp H
    clear H
    have H := H1
    clear H1
    replace H := iz H
    obtain ⟨c12, H⟩ := H
    have c12b0 := decide_eq_true c12
    clear c12
    (first | rw [c12b0] | (simp only [i64_w, i32_w]; rw [c12b0]) | skip)
    replace H := iz H
    obtain ⟨c13, H⟩ := H
    have c13b0 := decide_eq_true c13
    clear c13
    have H' := am H
    clear H
    go_wp2_with (first | (go_at_call 15; (with_reducible refine (spec_NodesOk.calls k _ _ l0 true _ ?side1 ?side2 A8.out).mono ?_); (case side1 => exact Kd.C_below HR0.out (bz2 HB.out GE246.out GE247.out)); (case side2 => exact HC0.out); rintro e w14 ⟨rfl, hb⟩; replace BK246 := am (blk_below (g := gb246) (o := .cells #[.int .i64 0, .int .i64 0] 30 (0, 0)) (by refine kq ?_; refine blk_far ?_ NB246_247.out _; refine kq ?_; refine blk_far ?_ NB246_247.out _; refine kq ?_; exact BK246.out) hb); replace BK247 := am (blk_below (g := gb247) (o := .cells #[.int .i64 (-1), .int .i64 (-1)] 30 (0, 0)) (by refine kq ?_; refine blk_put (cs := #[.int .i64 (-1), .int .i64 0]) ?_ 1 _ rfl; refine kq ?_; refine blk_put (cs := #[.int .i64 0, .int .i64 0]) ?_ 0 _ rfl; refine kq ?_; exact BK247.out) hb); replace HB := bs (bz2 HB.out GE246.out GE247.out) hb; (try clear hb); (try clear hi)) | (go_at_call 40; (with_reducible refine (spec_l1In.calls a1 0 (wrap64 ((l0.length : Int) - 1)) true _ A10.out).mono ?_); rintro e w' ⟨rfl, ⟨nd, rfl⟩⟩; (try first | exact ⟨rfl, _, World.drewN_drewN _ _ _⟩ | exact ⟨rfl, _, Eq.trans (World.drewN_drewN _ _ _) (congrArg (World.drewN _) (Nat.add_assoc _ _ _))⟩); have p250 : 0 <= (a1 : Int) := oz; have q250 : a1 < (l0.length : Int) := oz; obtain ⟨ad250, e250, hx250_0, hx250_1, hx250_2, hx250_3, hx250_4, hx250_5, hx250_6⟩ := at_T45 HR0.out a1 p250 q250; cases e250; replace hx250_0 := hz HB.out hx250_0; replace hx250_1 := hz HB.out hx250_1; replace hx250_2 := hz HB.out hx250_2; replace hx250_3 := hz HB.out hx250_3; replace hx250_4 := hz HB.out hx250_4; replace hx250_5 := hz HB.out hx250_5; replace hx250_6 := hz HB.out hx250_6; replace p250 := eq_true p250; replace q250 := eq_true q250))
    repeat (go_quiet (first | (go_at_call 15; (with_reducible refine (spec_NodesOk.calls k _ _ l0 true _ ?side1 ?side2 A8.out).mono ?_); (case side1 => exact Kd.C_below HR0.out (bz2 HB.out GE246.out GE247.out)); (case side2 => exact HC0.out); rintro e w14 ⟨rfl, hb⟩; replace BK246 := am (blk_below (g := gb246) (o := .cells #[.int .i64 0, .int .i64 0] 30 (0, 0)) (by refine kq ?_; refine blk_far ?_ NB246_247.out _; refine kq ?_; refine blk_far ?_ NB246_247.out _; refine kq ?_; exact BK246.out) hb); replace BK247 := am (blk_below (g := gb247) (o := .cells #[.int .i64 (-1), .int .i64 (-1)] 30 (0, 0)) (by refine kq ?_; refine blk_put (cs := #[.int .i64 (-1), .int .i64 0]) ?_ 1 _ rfl; refine kq ?_; refine blk_put (cs := #[.int .i64 0, .int .i64 0]) ?_ 0 _ rfl; refine kq ?_; exact BK247.out) hb); replace HB := bs (bz2 HB.out GE246.out GE247.out) hb; (try clear hb); (try clear hi)) | (go_at_call 40; (with_reducible refine (spec_l1In.calls a1 0 (wrap64 ((l0.length : Int) - 1)) true _ A10.out).mono ?_); rintro e w' ⟨rfl, ⟨nd, rfl⟩⟩; (try first | exact ⟨rfl, _, World.drewN_drewN _ _ _⟩ | exact ⟨rfl, _, Eq.trans (World.drewN_drewN _ _ _) (congrArg (World.drewN _) (Nat.add_assoc _ _ _))⟩); have p250 : 0 <= (a1 : Int) := oz; have q250 : a1 < (l0.length : Int) := oz; obtain ⟨ad250, e250, hx250_0, hx250_1, hx250_2, hx250_3, hx250_4, hx250_5, hx250_6⟩ := at_T45 HR0.out a1 p250 q250; cases e250; replace hx250_0 := hz HB.out hx250_0; replace hx250_1 := hz HB.out hx250_1; replace hx250_2 := hz HB.out hx250_2; replace hx250_3 := hz HB.out hx250_3; replace hx250_4 := hz HB.out hx250_4; replace hx250_5 := hz HB.out hx250_5; replace hx250_6 := hz HB.out hx250_6; replace p250 := eq_true p250; replace q250 := eq_true q250)); try go_wp2_with (first | (go_at_call 15; (with_reducible refine (spec_NodesOk.calls k _ _ l0 true _ ?side1 ?side2 A8.out).mono ?_); (case side1 => exact Kd.C_below HR0.out (bz2 HB.out GE246.out GE247.out)); (case side2 => exact HC0.out); rintro e w14 ⟨rfl, hb⟩; replace BK246 := am (blk_below (g := gb246) (o := .cells #[.int .i64 0, .int .i64 0] 30 (0, 0)) (by refine kq ?_; refine blk_far ?_ NB246_247.out _; refine kq ?_; refine blk_far ?_ NB246_247.out _; refine kq ?_; exact BK246.out) hb); replace BK247 := am (blk_below (g := gb247) (o := .cells #[.int .i64 (-1), .int .i64 (-1)] 30 (0, 0)) (by refine kq ?_; refine blk_put (cs := #[.int .i64 (-1), .int .i64 0]) ?_ 1 _ rfl; refine kq ?_; refine blk_put (cs := #[.int .i64 0, .int .i64 0]) ?_ 0 _ rfl; refine kq ?_; exact BK247.out) hb); replace HB := bs (bz2 HB.out GE246.out GE247.out) hb; (try clear hb); (try clear hi)) | (go_at_call 40; (with_reducible refine (spec_l1In.calls a1 0 (wrap64 ((l0.length : Int) - 1)) true _ A10.out).mono ?_); rintro e w' ⟨rfl, ⟨nd, rfl⟩⟩; (try first | exact ⟨rfl, _, World.drewN_drewN _ _ _⟩ | exact ⟨rfl, _, Eq.trans (World.drewN_drewN _ _ _) (congrArg (World.drewN _) (Nat.add_assoc _ _ _))⟩); have p250 : 0 <= (a1 : Int) := oz; have q250 : a1 < (l0.length : Int) := oz; obtain ⟨ad250, e250, hx250_0, hx250_1, hx250_2, hx250_3, hx250_4, hx250_5, hx250_6⟩ := at_T45 HR0.out a1 p250 q250; cases e250; replace hx250_0 := hz HB.out hx250_0; replace hx250_1 := hz HB.out hx250_1; replace hx250_2 := hz HB.out hx250_2; replace hx250_3 := hz HB.out hx250_3; replace hx250_4 := hz HB.out hx250_4; replace hx250_5 := hz HB.out hx250_5; replace hx250_6 := hz HB.out hx250_6; replace p250 := eq_true p250; replace q250 := eq_true q250)))
    go_meet
    case rel => exact ⟨_, ((((rd_T45 l0 a1).f0) != 1)), ez, H', ⟨by first | omega | exact Nat.le_refl _⟩, ⟨by refine kq ?_; exact BK246.out⟩, ⟨by refine kq ?_; exact BK247.out⟩, ⟨(bz2 HB.out GE246.out GE247.out)⟩⟩
   ·replace c11 := Bool.eq_false_iff.mpr c11
    subst c11
    have H1 := hq H
    clear H
    have H := H1
    clear H1
    have H' := am H
    clear H
    go_wp2_with (first | (go_at_call 15; (with_reducible refine (spec_NodesOk.calls k _ _ l0 true _ ?side1 ?side2 A8.out).mono ?_); (case side1 => exact Kd.C_below HR0.out (bz2 HB.out GE246.out GE247.out)); (case side2 => exact HC0.out); rintro e w15 ⟨rfl, hb⟩; replace BK246 := am (blk_below (g := gb246) (o := .cells #[.int .i64 0, .int .i64 0] 30 (0, 0)) (by refine kq ?_; refine blk_far ?_ NB246_247.out _; refine kq ?_; refine blk_far ?_ NB246_247.out _; refine kq ?_; exact BK246.out) hb); replace BK247 := am (blk_below (g := gb247) (o := .cells #[.int .i64 (-1), .int .i64 (-1)] 30 (0, 0)) (by refine kq ?_; refine blk_put (cs := #[.int .i64 (-1), .int .i64 0]) ?_ 1 _ rfl; refine kq ?_; refine blk_put (cs := #[.int .i64 0, .int .i64 0]) ?_ 0 _ rfl; refine kq ?_; exact BK247.out) hb); replace HB := bs (bz2 HB.out GE246.out GE247.out) hb; (try clear hb); (try clear hi)) | (go_at_call 40; (with_reducible refine (spec_l1In.calls a1 0 (wrap64 ((l0.length : Int) - 1)) false _ A10.out).mono ?_); rintro e w' ⟨rfl, ⟨nd, rfl⟩⟩; (try first | exact ⟨rfl, _, World.drewN_drewN _ _ _⟩ | exact ⟨rfl, _, Eq.trans (World.drewN_drewN _ _ _) (congrArg (World.drewN _) (Nat.add_assoc _ _ _))⟩)))
    repeat (go_quiet (first | (go_at_call 15; (with_reducible refine (spec_NodesOk.calls k _ _ l0 true _ ?side1 ?side2 A8.out).mono ?_); (case side1 => exact Kd.C_below HR0.out (bz2 HB.out GE246.out GE247.out)); (case side2 => exact HC0.out); rintro e w15 ⟨rfl, hb⟩; replace BK246 := am (blk_below (g := gb246) (o := .cells #[.int .i64 0, .int .i64 0] 30 (0, 0)) (by refine kq ?_; refine blk_far ?_ NB246_247.out _; refine kq ?_; refine blk_far ?_ NB246_247.out _; refine kq ?_; exact BK246.out) hb); replace BK247 := am (blk_below (g := gb247) (o := .cells #[.int .i64 (-1), .int .i64 (-1)] 30 (0, 0)) (by refine kq ?_; refine blk_put (cs := #[.int .i64 (-1), .int .i64 0]) ?_ 1 _ rfl; refine kq ?_; refine blk_put (cs := #[.int .i64 0, .int .i64 0]) ?_ 0 _ rfl; refine kq ?_; exact BK247.out) hb); replace HB := bs (bz2 HB.out GE246.out GE247.out) hb; (try clear hb); (try clear hi)) | (go_at_call 40; (with_reducible refine (spec_l1In.calls a1 0 (wrap64 ((l0.length : Int) - 1)) false _ A10.out).mono ?_); rintro e w' ⟨rfl, ⟨nd, rfl⟩⟩; (try first | exact ⟨rfl, _, World.drewN_drewN _ _ _⟩ | exact ⟨rfl, _, Eq.trans (World.drewN_drewN _ _ _) (congrArg (World.drewN _) (Nat.add_assoc _ _ _))⟩))); try go_wp2_with (first | (go_at_call 15; (with_reducible refine (spec_NodesOk.calls k _ _ l0 true _ ?side1 ?side2 A8.out).mono ?_); (case side1 => exact Kd.C_below HR0.out (bz2 HB.out GE246.out GE247.out)); (case side2 => exact HC0.out); rintro e w15 ⟨rfl, hb⟩; replace BK246 := am (blk_below (g := gb246) (o := .cells #[.int .i64 0, .int .i64 0] 30 (0, 0)) (by refine kq ?_; refine blk_far ?_ NB246_247.out _; refine kq ?_; refine blk_far ?_ NB246_247.out _; refine kq ?_; exact BK246.out) hb); replace BK247 := am (blk_below (g := gb247) (o := .cells #[.int .i64 (-1), .int .i64 (-1)] 30 (0, 0)) (by refine kq ?_; refine blk_put (cs := #[.int .i64 (-1), .int .i64 0]) ?_ 1 _ rfl; refine kq ?_; refine blk_put (cs := #[.int .i64 0, .int .i64 0]) ?_ 0 _ rfl; refine kq ?_; exact BK247.out) hb); replace HB := bs (bz2 HB.out GE246.out GE247.out) hb; (try clear hb); (try clear hi)) | (go_at_call 40; (with_reducible refine (spec_l1In.calls a1 0 (wrap64 ((l0.length : Int) - 1)) false _ A10.out).mono ?_); rintro e w' ⟨rfl, ⟨nd, rfl⟩⟩; (try first | exact ⟨rfl, _, World.drewN_drewN _ _ _⟩ | exact ⟨rfl, _, Eq.trans (World.drewN_drewN _ _ _) (congrArg (World.drewN _) (Nat.add_assoc _ _ _))⟩))))
    go_meet
    case rel => exact ⟨_, (true), ez, H', ⟨by first | omega | exact Nat.le_refl _⟩, ⟨by refine kq ?_; exact BK246.out⟩, ⟨by refine kq ?_; exact BK247.out⟩, ⟨(bz2 HB.out GE246.out GE247.out)⟩⟩
  ·replace c9 := Bool.eq_false_iff.mpr c9
   subst c9
   have H1 := hq H
   clear H
   have H := H1
   clear H1
   have H' := am H
   clear H
   go_wp2_with (first | (go_at_call 15; (with_reducible refine (spec_NodesOk.calls k _ _ l0 false _ ?side1 ?side2 A8.out).mono ?_); (case side1 => exact Kd.C_below HR0.out (bz2 HB.out GE246.out GE247.out)); (case side2 => exact HC0.out); rintro e w16 ⟨rfl, hb⟩; replace BK246 := am (blk_below (g := gb246) (o := .cells #[.int .i64 0, .int .i64 0] 30 (0, 0)) (by refine kq ?_; refine blk_far ?_ NB246_247.out _; refine kq ?_; refine blk_far ?_ NB246_247.out _; refine kq ?_; exact BK246.out) hb); replace BK247 := am (blk_below (g := gb247) (o := .cells #[.int .i64 (-1), .int .i64 (-1)] 30 (0, 0)) (by refine kq ?_; refine blk_put (cs := #[.int .i64 (-1), .int .i64 0]) ?_ 1 _ rfl; refine kq ?_; refine blk_put (cs := #[.int .i64 0, .int .i64 0]) ?_ 0 _ rfl; refine kq ?_; exact BK247.out) hb); replace HB := bs (bz2 HB.out GE246.out GE247.out) hb; (try clear hb); (try clear hi)))
   repeat (go_quiet (first | (go_at_call 15; (with_reducible refine (spec_NodesOk.calls k _ _ l0 false _ ?side1 ?side2 A8.out).mono ?_); (case side1 => exact Kd.C_below HR0.out (bz2 HB.out GE246.out GE247.out)); (case side2 => exact HC0.out); rintro e w16 ⟨rfl, hb⟩; replace BK246 := am (blk_below (g := gb246) (o := .cells #[.int .i64 0, .int .i64 0] 30 (0, 0)) (by refine kq ?_; refine blk_far ?_ NB246_247.out _; refine kq ?_; refine blk_far ?_ NB246_247.out _; refine kq ?_; exact BK246.out) hb); replace BK247 := am (blk_below (g := gb247) (o := .cells #[.int .i64 (-1), .int .i64 (-1)] 30 (0, 0)) (by refine kq ?_; refine blk_put (cs := #[.int .i64 (-1), .int .i64 0]) ?_ 1 _ rfl; refine kq ?_; refine blk_put (cs := #[.int .i64 0, .int .i64 0]) ?_ 0 _ rfl; refine kq ?_; exact BK247.out) hb); replace HB := bs (bz2 HB.out GE246.out GE247.out) hb; (try clear hb); (try clear hi))); try go_wp2_with (first | (go_at_call 15; (with_reducible refine (spec_NodesOk.calls k _ _ l0 false _ ?side1 ?side2 A8.out).mono ?_); (case side1 => exact Kd.C_below HR0.out (bz2 HB.out GE246.out GE247.out)); (case side2 => exact HC0.out); rintro e w16 ⟨rfl, hb⟩; replace BK246 := am (blk_below (g := gb246) (o := .cells #[.int .i64 0, .int .i64 0] 30 (0, 0)) (by refine kq ?_; refine blk_far ?_ NB246_247.out _; refine kq ?_; refine blk_far ?_ NB246_247.out _; refine kq ?_; exact BK246.out) hb); replace BK247 := am (blk_below (g := gb247) (o := .cells #[.int .i64 (-1), .int .i64 (-1)] 30 (0, 0)) (by refine kq ?_; refine blk_put (cs := #[.int .i64 (-1), .int .i64 0]) ?_ 1 _ rfl; refine kq ?_; refine blk_put (cs := #[.int .i64 0, .int .i64 0]) ?_ 0 _ rfl; refine kq ?_; exact BK247.out) hb); replace HB := bs (bz2 HB.out GE246.out GE247.out) hb; (try clear hb); (try clear hi))))
   go_meet
   case rel => exact ⟨_, (true), ez, H', ⟨by first | omega | exact Nat.le_refl _⟩, ⟨by refine kq ?_; exact BK246.out⟩, ⟨by refine kq ?_; exact BK247.out⟩, ⟨(bz2 HB.out GE246.out GE247.out)⟩⟩
 case rest =>
  clear HC3
  try clear c1
  try clear p2
  try clear q2
  try clear hx2
  try clear c5
  try clear c6
  try clear p6
  try clear c9
  try clear c11
  try clear c12
  try clear c12b0
  try clear c13
  try clear c13b0
  try clear hcz7_0 hcz7_1
  try clear hfz7_0 hfz7_1
  try clear hx250_0
  try clear hx250_1
  try clear hx250_2
  try clear hx250_3
  try clear hx250_4
  try clear hx250_5
  try clear hx250_6
  try clear p250
  try clear q250
  obtain ⟨kq, x30_2, rfl, HA, HJ2, BK246, BK247, HB⟩ := hcut
  cases kq with
  | zero => exact absurd HA.out (by simp [spec_BinderOf.j0])
  | succ kj2 =>
   have H := HA.out
   clear HA
   simp only [spec_BinderOf.j0] at H
   by_cases c17 : x30_2 = true
   ·subst c17
    have H1 := hp H
    clear H
    have H := H1
    clear H1
    simp only [Option.some.injEq, Prod.mk.injEq] at H
    obtain ⟨rfl, rfl⟩ := H
    have hnb18 := NB247_246.out
    have hnc18 := NB246_247.out
    obtain ⟨hcz19_0, hcz19_1⟩ := cz2 BK247.out
    obtain ⟨hfz19_0, hfz19_1⟩ := fz2 BK247.out
    obtain ⟨hcz20_0, hcz20_1⟩ := cz2 BK246.out
    obtain ⟨hfz20_0, hfz20_1⟩ := fz2 BK246.out
    go_wp2
    repeat (go_quiet (fail); try go_wp2)
    refine bodyPost_ret (results_cell_row rfl _ _ gb246 30 #[.int .i64 (-1), .int .i64 (-1)] (0, 0) _ rfl (by refine kq ?_; refine blk_put (cs := #[.int .i64 (-1), .int .i64 0]) ?_ 1 _ rfl; refine kq ?_; refine blk_put (cs := #[.int .i64 0, .int .i64 0]) ?_ 0 _ rfl; refine kq ?_; exact BK246.out) Tryz.underlying30 rfl kr) rfl ?_
    exact ⟨gz, (bz2 HB.out GE246.out GE247.out)⟩
   ·replace c17 := Bool.eq_false_iff.mpr c17
    subst c17
    have H1 := hq H
    clear H
    have H := H1
    clear H1
    replace H := bi H
    obtain ⟨t251, A210, H⟩ := H
    try dsimp only at H
    have A21 := am A210
    clear A210
    have H' := am H
    clear H
    go_wp2_with (first | (go_at_call 71; (with_reducible refine (spec_ParentOf.calls kj2 _ _ l0 a1 t251 _ ?side1 ?side2 A21.out).mono ?_); (case side1 => exact cz (Kd.C_below HR0.out HB.out)); (case side2 => exact HC0.out); rintro e w22 ⟨rfl, hb⟩; replace BK246 := kb BK246 hb; replace BK247 := kb BK247 hb; replace HB := bs (bz2 HB.out GE246.out GE247.out) hb; (try clear hb); (try clear hi)))
    repeat (go_quiet (first | (go_at_call 71; (with_reducible refine (spec_ParentOf.calls kj2 _ _ l0 a1 t251 _ ?side1 ?side2 A21.out).mono ?_); (case side1 => exact cz (Kd.C_below HR0.out HB.out)); (case side2 => exact HC0.out); rintro e w22 ⟨rfl, hb⟩; replace BK246 := kb BK246 hb; replace BK247 := kb BK247 hb; replace HB := bs (bz2 HB.out GE246.out GE247.out) hb; (try clear hb); (try clear hi))); try go_wp2_with (first | (go_at_call 71; (with_reducible refine (spec_ParentOf.calls kj2 _ _ l0 a1 t251 _ ?side1 ?side2 A21.out).mono ?_); (case side1 => exact cz (Kd.C_below HR0.out HB.out)); (case side2 => exact HC0.out); rintro e w22 ⟨rfl, hb⟩; replace BK246 := kb BK246 hb; replace BK247 := kb BK247 hb; replace HB := bs (bz2 HB.out GE246.out GE247.out) hb; (try clear hb); (try clear hi))))
    go_loopg [6, 7] kj2 (fun kq v6 v7 w' => ∃ (x6_2 : Int) (x7_2 : Int) (x247000_2 : Int) (x247001_2 : Int), v6 = .int .i64 x6_2 /\ v7 = .int .i64 x7_2 /\ Aside0 (spec_BinderOf.l0 kq l0 a1 x6_2 x7_2 (-1) (-1) = some (r1, r2)) /\ Aside0 (kq <= kj2) /\ Aside0 (w'.heap[gb246]? = some (.cells #[.int .i64 x247000_2, .int .i64 x247001_2] 30 (0, 0))) /\ Aside0 (w'.heap[gb247]? = some (.cells #[.int .i64 (-1), .int .i64 (-1)] 30 (0, 0))) /\ Aside0 (Below w.heap.size w w'))
    case atStart => exact ⟨(a1), (t251), (0), (0), ez, ez, H', ⟨Nat.le_refl _⟩, ⟨by refine kq ?_; exact BK246.out⟩, ⟨by refine kq ?_; exact BK247.out⟩, ⟨(bz2 HB.out GE246.out GE247.out)⟩⟩
    case round =>
     clear H'
     try clear c1
     try clear p2
     try clear q2
     try clear hx2
     try clear c5
     try clear c6
     try clear p6
     try clear c9
     try clear c11
     try clear c12
     try clear c12b0
     try clear c13
     try clear c13b0
     try clear c17
     try clear c18
     try clear hcz19_0 hcz19_1
     try clear hcz20_0 hcz20_1
     try clear hcz7_0 hcz7_1
     try clear hfz19_0 hfz19_1
     try clear hfz20_0 hfz20_1
     try clear hfz7_0 hfz7_1
     try clear hx250_0
     try clear hx250_1
     try clear hx250_2
     try clear hx250_3
     try clear hx250_4
     try clear hx250_5
     try clear hx250_6
     try clear p2
     try clear p250
     try clear p6
     try clear q2
     try clear q250
     obtain ⟨x6_2, x7_2, x247000_2, x247001_2, rfl, rfl, HA, HK2, BK246, BK247, HB⟩ := hrel
     cases gk with
     | zero => exact absurd HA.out (by simp [spec_BinderOf.l0])
     | succ k2 =>
      have H := HA.out
      clear HA
      simp only [spec_BinderOf.l0] at H
      by_cases c23 : x7_2 ≥ 0
      ·rw [if_pos c23] at H
       have c23b0 : decide (0 <= x7_2) = true := decide_eq_true c23
       clear c23
       replace H := iz H
       obtain ⟨c24, H⟩ := H
       have c24b0 := decide_eq_true c24
       clear c24
       replace H := iz H
       obtain ⟨c25, H⟩ := H
       have c25b0 := decide_eq_true c25
       clear c25
       replace H := bi H
       obtain ⟨⟨t253, t256⟩, A260, H⟩ := H
       try dsimp only at H
       have A26 := am A260
       clear A260
       have H' := am H
       clear H
       have p252 : 0 <= (x7_2 : Int) := oz
       have q252 : x7_2 < (l0.length : Int) := oz
       obtain ⟨ad252, e252, hx252_0, hx252_1, hx252_2, hx252_3, hx252_4, hx252_5, hx252_6⟩ := at_T45 (Kd.C_below HR0.out HB.out) x7_2 p252 q252
       cases e252
       replace p252 := eq_true p252
       replace q252 := eq_true q252
       go_wp2_with (first | (go_at_call 72; (with_reducible refine (spec_l6Bound.calls k2 ((rd_T45 l0 x7_2).f0) ((rd_T45 l0 x7_2).f1) ((rd_T45 l0 x7_2).f2) ((rd_T45 l0 x7_2).f3) ((rd_T45 l0 x7_2).f4) ((rd_T45 l0 x7_2).f5) ((rd_T45 l0 x7_2).f6) x6_2 t253 t256 _ A26.out).mono ?_); rintro e w27 ⟨v254, v257, rfl, ho0, ho1, hb⟩; have HO255 := am (Kd.R_lower ho0 (below_size (bz2 HB.out GE246.out GE247.out))); have HO258 := am (Kd.R_lower ho1 (below_size (bz2 HB.out GE246.out GE247.out))); replace BK246 := kb BK246 hb; replace BK247 := kb BK247 hb; replace HB := bs (bz2 HB.out GE246.out GE247.out) hb; (try clear hb); (try clear ho0); (try clear ho1)))
       repeat (go_quiet (first | (go_at_call 72; (with_reducible refine (spec_l6Bound.calls k2 ((rd_T45 l0 x7_2).f0) ((rd_T45 l0 x7_2).f1) ((rd_T45 l0 x7_2).f2) ((rd_T45 l0 x7_2).f3) ((rd_T45 l0 x7_2).f4) ((rd_T45 l0 x7_2).f5) ((rd_T45 l0 x7_2).f6) x6_2 t253 t256 _ A26.out).mono ?_); rintro e w27 ⟨v254, v257, rfl, ho0, ho1, hb⟩; have HO255 := am (Kd.R_lower ho0 (below_size (bz2 HB.out GE246.out GE247.out))); have HO258 := am (Kd.R_lower ho1 (below_size (bz2 HB.out GE246.out GE247.out))); replace BK246 := kb BK246 hb; replace BK247 := kb BK247 hb; replace HB := bs (bz2 HB.out GE246.out GE247.out) hb; (try clear hb); (try clear ho0); (try clear ho1))); try go_wp2_with (first | (go_at_call 72; (with_reducible refine (spec_l6Bound.calls k2 ((rd_T45 l0 x7_2).f0) ((rd_T45 l0 x7_2).f1) ((rd_T45 l0 x7_2).f2) ((rd_T45 l0 x7_2).f3) ((rd_T45 l0 x7_2).f4) ((rd_T45 l0 x7_2).f5) ((rd_T45 l0 x7_2).f6) x6_2 t253 t256 _ A26.out).mono ?_); rintro e w27 ⟨v254, v257, rfl, ho0, ho1, hb⟩; have HO255 := am (Kd.R_lower ho0 (below_size (bz2 HB.out GE246.out GE247.out))); have HO258 := am (Kd.R_lower ho1 (below_size (bz2 HB.out GE246.out GE247.out))); replace BK246 := kb BK246 hb; replace BK247 := kb BK247 hb; replace HB := bs (bz2 HB.out GE246.out GE247.out) hb; (try clear hb); (try clear ho0); (try clear ho1))))
       go_loopg [10] k2 (fun kq v10 w' => ∃ (x10_3 : Int) (x247000_3 : Int) (x247001_3 : Int), v10 = .int .i64 x10_3 /\ Aside0 (spec_BinderOf.l1 kq l0 a1 x7_2 t253 t256 x10_3 (-1) (-1) = some (r1, r2)) /\ Aside0 (kq <= k2) /\ Aside0 (Kd.R Kd.string 9 w' w.heap.size (fun _ => True) v254 t253) /\ Aside0 (Kd.R (Kd.int .i64) 3 w' w.heap.size (fun _ => True) v257 t256) /\ Aside0 (w'.heap[gb246]? = some (.cells #[.int .i64 x247000_3, .int .i64 x247001_3] 30 (0, 0))) /\ Aside0 (w'.heap[gb247]? = some (.cells #[.int .i64 (-1), .int .i64 (-1)] 30 (0, 0))) /\ Aside0 (Below w.heap.size w w'))
       case atStart => exact ⟨(0), (x247000_2), (x247001_2), ez, H', ⟨Nat.le_refl _⟩, ⟨by refine rq ?_; exact HO255.out⟩, ⟨by refine rq ?_; exact HO258.out⟩, ⟨by refine kq ?_; exact BK246.out⟩, ⟨by refine kq ?_; exact BK247.out⟩, ⟨(bz2 HB.out GE246.out GE247.out)⟩⟩
       case round =>
        clear H'
        try clear c1
        try clear c2
        try clear p2
        try clear q2
        try clear hx2
        try clear c5
        try clear c6
        try clear p6
        try clear c9
        try clear c11
        try clear c12
        try clear c12b0
        try clear c13
        try clear c13b0
        try clear c17
        try clear c18
        try clear c23
        try clear c23b0
        try clear c24
        try clear c24b0
        try clear c25
        try clear c25b0
        try clear p25
        try clear q25
        try clear hx25
        try clear hcz19_0 hcz19_1
        try clear hcz20_0 hcz20_1
        try clear hcz7_0 hcz7_1
        try clear hfz19_0 hfz19_1
        try clear hfz20_0 hfz20_1
        try clear hfz7_0 hfz7_1
        try clear hx250_0
        try clear hx250_1
        try clear hx250_2
        try clear hx250_3
        try clear hx250_4
        try clear hx250_5
        try clear hx250_6
        try clear hx252_0
        try clear hx252_1
        try clear hx252_2
        try clear hx252_3
        try clear hx252_4
        try clear hx252_5
        try clear hx252_6
        try clear p2
        try clear p250
        try clear p252
        try clear p6
        try clear q2
        try clear q250
        try clear q252
        obtain ⟨x10_3, x247000_3, x247001_3, rfl, HA, HK3, HO_8, HO_9, BK246, BK247, HB⟩ := hrel
        cases gk with
        | zero => exact absurd HA.out (by simp [spec_BinderOf.l1])
        | succ k3 =>
         have H := HA.out
         clear HA
         simp only [spec_BinderOf.l1] at H
         by_cases c28 : x10_3 < (t253.length : Int)
         ·rw [if_pos c28] at H
          have c28b0 := decide_eq_true c28
          clear c28
          replace H := iz H
          obtain ⟨c29, H⟩ := H
          have c29b0 := decide_eq_true c29
          clear c29
          replace H := iz H
          obtain ⟨c30, H⟩ := H
          have c30b0 := decide_eq_true c30
          clear c30
          replace H := iz H
          obtain ⟨c31, H⟩ := H
          have c31b0 := decide_eq_true c31
          clear c31
          by_cases c32 : (rdOf ByteArray.empty t253 x10_3).toList = ((rd_T45 l0 a1).f5).toList
          ·rw [if_pos c32] at H
           have c32b0 : ((rdOf ByteArray.empty t253 x10_3).toList == ((rd_T45 l0 a1).f5).toList) = true := beq_iff_eq.mpr c32
           have c32b1 : ((rdOf ByteArray.empty t253 x10_3).toList != ((rd_T45 l0 a1).f5).toList) = false := bne_eq_false_iff_eq.mpr c32
           clear c32
           replace H := iz H
           obtain ⟨c33, H⟩ := H
           have c33b0 := decide_eq_true c33
           clear c33
           simp only [Option.some.injEq, Prod.mk.injEq] at H
           obtain ⟨rfl, rfl⟩ := H
           obtain ⟨Ao34, co34, eo34⟩ := Kd.R_slice HO_8.out
           subst eo34
           have p259 : 0 <= (x10_3 : Int) := oz
           have q259 : x10_3 < (t253.length : Int) := oz
           obtain ⟨ad259, e259, hx259_0⟩ := Kd.at_string (Kd.R_reads' HO_8.out).2.2 x10_3 p259 q259
           cases e259
           replace p259 := eq_true p259
           replace q259 := eq_true q259
           have p260 : 0 <= (a1 : Int) := oz
           have q260 : a1 < (l0.length : Int) := oz
           obtain ⟨ad260, e260, hx260_0, hx260_1, hx260_2, hx260_3, hx260_4, hx260_5, hx260_6⟩ := at_T45 (Kd.C_below HR0.out HB.out) a1 p260 q260
           obtain rfl : ad252 = ad260 := (by injection e260)
           replace p260 := eq_true p260
           replace q260 := eq_true q260
           obtain ⟨Ao35, co35, eo35⟩ := Kd.R_slice HO_9.out
           subst eo35
           have p261 : 0 <= (x10_3 : Int) := oz
           have q261 : x10_3 < (t256.length : Int) := oz
           obtain ⟨ad261, e261, hx261_0⟩ := Kd.at_int (Kd.R_reads' HO_9.out).2.2 x10_3 p261 q261
           cases e261
           replace p261 := eq_true p261
           replace q261 := eq_true q261
           have hnb36 := NB246_247.out
           have hnc36 := NB247_246.out
           obtain ⟨hcz37_0, hcz37_1⟩ := cz2 BK246.out
           obtain ⟨hfz37_0, hfz37_1⟩ := fz2 BK246.out
           go_wp2
           repeat (go_quiet (fail); try go_wp2)
           refine bodyPost_ret (results_cell_row rfl _ _ gb246 30 #[.int .i64 x7_2, .int .i64 (rd t256 x10_3)] (0, 0) _ rfl (by refine kq ?_; refine blk_put (cs := #[.int .i64 x7_2, .int .i64 x247001_3]) ?_ 1 _ rfl; refine kq ?_; refine blk_put (cs := #[.int .i64 x247000_3, .int .i64 x247001_3]) ?_ 0 _ rfl; refine kq ?_; exact BK246.out) Tryz.underlying30 rfl kr) rfl ?_
           exact ⟨gz, (bz2 HB.out GE246.out GE247.out)⟩
          ·rw [if_neg c32] at H
           have c32b0 : ((rdOf ByteArray.empty t253 x10_3).toList == ((rd_T45 l0 a1).f5).toList) = false := beq_eq_false_iff_ne.mpr c32
           have c32b1 : ((rdOf ByteArray.empty t253 x10_3).toList != ((rd_T45 l0 a1).f5).toList) = true := bne_iff_ne.mpr c32
           have H' := am H
           clear H
           obtain ⟨Ao38, co38, eo38⟩ := Kd.R_slice HO_8.out
           subst eo38
           have p259 : 0 <= (x10_3 : Int) := oz
           have q259 : x10_3 < (t253.length : Int) := oz
           obtain ⟨ad259, e259, hx259_0⟩ := Kd.at_string (Kd.R_reads' HO_8.out).2.2 x10_3 p259 q259
           cases e259
           replace p259 := eq_true p259
           replace q259 := eq_true q259
           have p260 : 0 <= (a1 : Int) := oz
           have q260 : a1 < (l0.length : Int) := oz
           obtain ⟨ad260, e260, hx260_0, hx260_1, hx260_2, hx260_3, hx260_4, hx260_5, hx260_6⟩ := at_T45 (Kd.C_below HR0.out HB.out) a1 p260 q260
           obtain rfl : ad252 = ad260 := (by injection e260)
           replace p260 := eq_true p260
           replace q260 := eq_true q260
           go_wp2
           repeat (go_quiet (fail); try go_wp2)
           go_roundg k3
           case measure => have := HJ2.out; have := HK2.out; have := HK3.out; omega
           case rel => exact ⟨(wrap64 (x10_3 + 1)), (x247000_3), (x247001_3), ez, H', ⟨by have := HJ2.out; have := HK2.out; have := HK3.out; omega⟩, ⟨by refine rq ?_; exact HO_8.out⟩, ⟨by refine rq ?_; exact HO_9.out⟩, ⟨by refine kq ?_; exact BK246.out⟩, ⟨by refine kq ?_; exact BK247.out⟩, ⟨(bz2 HB.out GE246.out GE247.out)⟩⟩
         ·rw [if_neg c28] at H
          have c28b0 := decide_eq_false c28
          clear c28
          replace H := bi H
          obtain ⟨t262, A390, H⟩ := H
          try dsimp only at H
          have A39 := am A390
          clear A390
          have H' := am H
          clear H
          obtain ⟨Ao40, co40, eo40⟩ := Kd.R_slice HO_8.out
          subst eo40
          go_wp2_with (first | (go_at_call 71; (with_reducible refine (spec_ParentOf.calls k3 _ _ l0 x7_2 t262 _ ?side1 ?side2 A39.out).mono ?_); (case side1 => exact cz (Kd.C_below HR0.out HB.out)); (case side2 => exact HC0.out); rintro e w41 ⟨rfl, hb⟩; replace HO_8 := qz HO_8 hb; replace HO_9 := qz HO_9 hb; replace BK246 := kb BK246 hb; replace BK247 := kb BK247 hb; replace HB := bs (bz2 HB.out GE246.out GE247.out) hb; (try clear hb); (try clear hi)))
          repeat (go_quiet (first | (go_at_call 71; (with_reducible refine (spec_ParentOf.calls k3 _ _ l0 x7_2 t262 _ ?side1 ?side2 A39.out).mono ?_); (case side1 => exact cz (Kd.C_below HR0.out HB.out)); (case side2 => exact HC0.out); rintro e w41 ⟨rfl, hb⟩; replace HO_8 := qz HO_8 hb; replace HO_9 := qz HO_9 hb; replace BK246 := kb BK246 hb; replace BK247 := kb BK247 hb; replace HB := bs (bz2 HB.out GE246.out GE247.out) hb; (try clear hb); (try clear hi))); try go_wp2_with (first | (go_at_call 71; (with_reducible refine (spec_ParentOf.calls k3 _ _ l0 x7_2 t262 _ ?side1 ?side2 A39.out).mono ?_); (case side1 => exact cz (Kd.C_below HR0.out HB.out)); (case side2 => exact HC0.out); rintro e w41 ⟨rfl, hb⟩; replace HO_8 := qz HO_8 hb; replace HO_9 := qz HO_9 hb; replace BK246 := kb BK246 hb; replace BK247 := kb BK247 hb; replace HB := bs (bz2 HB.out GE246.out GE247.out) hb; (try clear hb); (try clear hi))))
          go_roundg k3
          case measure => have := HJ2.out; have := HK2.out; have := HK3.out; omega
          case rel => exact ⟨(x7_2), (t262), (x247000_3), (x247001_3), ez, ez, H', ⟨by have := HJ2.out; have := HK2.out; have := HK3.out; omega⟩, ⟨by refine kq ?_; exact BK246.out⟩, ⟨by refine kq ?_; exact BK247.out⟩, ⟨(bz2 HB.out GE246.out GE247.out)⟩⟩
      ·rw [if_neg c23] at H
       have c23b0 : decide (0 <= x7_2) = false := decide_eq_false c23
       clear c23
       simp only [Option.some.injEq, Prod.mk.injEq] at H
       obtain ⟨rfl, rfl⟩ := H
       have hnb42 := NB247_246.out
       have hnc42 := NB246_247.out
       obtain ⟨hcz43_0, hcz43_1⟩ := cz2 BK247.out
       obtain ⟨hfz43_0, hfz43_1⟩ := fz2 BK247.out
       obtain ⟨hcz44_0, hcz44_1⟩ := cz2 BK246.out
       obtain ⟨hfz44_0, hfz44_1⟩ := fz2 BK246.out
       go_wp2
       repeat (go_quiet (fail); try go_wp2)
       refine bodyPost_ret (results_cell_row rfl _ _ gb246 30 #[.int .i64 (-1), .int .i64 (-1)] (0, 0) _ rfl (by refine kq ?_; refine blk_put (cs := #[.int .i64 (-1), .int .i64 x247001_2]) ?_ 1 _ rfl; refine kq ?_; refine blk_put (cs := #[.int .i64 x247000_2, .int .i64 x247001_2]) ?_ 0 _ rfl; refine kq ?_; exact BK246.out) Tryz.underlying30 rfl kr) rfl ?_
       exact ⟨gz, (bz2 HB.out GE246.out GE247.out)⟩
end Go.Proofs.YtdjamdnjkdllgaaGreatDoor.PFnExactRenameOne
