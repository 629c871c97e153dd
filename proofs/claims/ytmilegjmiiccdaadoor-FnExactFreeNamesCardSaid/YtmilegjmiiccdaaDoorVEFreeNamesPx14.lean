/- PFnExactFreeNamesx14, of the words and walks that the law FnExactFreeNames needs; made by this session's program out of printed texts. -/

import Derived.Test.YtmilegjmiiccdaaDoorVEFreeNamesPx0
namespace Go.Proofs.YtmilegjmiiccdaaDoor.PFnExactFreeNames
open Go.RowKit Go.Proofs.YtmilegjmiiccdaaDoorW.PrintWords Go.Proofs.YtmilegjmiiccdaaDoorW.PrintLast Go.Proofs.YtmilegjmiiccdaaDoorW.PrintMore
attribute [local go_sem] max2_int min2_int max_two min_two max_three min_three max_four min_four
set_option linter.unusedVariables false
set_option linter.unusedSimpArgs false
mutual
def impl_bindsIn.j0 : Nat → Int → Bool → Int → Int → Int → Int → Int → ByteArray → ByteArray → Option (List ByteArray × List Int)
 | 0, _, _, _, _, _, _, _, _, _ => none
 | k + 1, x1, x6, x394000, x394001, x394002, x394003, x394004, x394005, x394006 => if x6 = true then (some ((([x394005] : List ByteArray)), (([0] : List Int)))) else (if x394000 = 6 then (impl_bindsIn.j1 k x1 (x1 == x394001) x394000 x394001 x394002 x394003 x394004 x394005 x394006) else (impl_bindsIn.j1 k x1 false x394000 x394001 x394002 x394003 x394004 x394005 x394006))
def impl_bindsIn.j1 : Nat → Int → Bool → Int → Int → Int → Int → Int → ByteArray → ByteArray → Option (List ByteArray × List Int)
 | 0, _, _, _, _, _, _, _, _, _ => none
 | k + 1, x1, x28, x394000, x394001, x394002, x394003, x394004, x394005, x394006 => if x28 = true then (impl_bindsIn.j2 k x28 x394000 x394001 x394002 x394003 x394004 x394005 x394006) else (if x394000 = 14 then (impl_bindsIn.j2 k (x1 == x394003) x394000 x394001 x394002 x394003 x394004 x394005 x394006) else (impl_bindsIn.j2 k false x394000 x394001 x394002 x394003 x394004 x394005 x394006))
def impl_bindsIn.j2 : Nat → Bool → Int → Int → Int → Int → Int → ByteArray → ByteArray → Option (List ByteArray × List Int)
 | 0, _, _, _, _, _, _, _, _ => none
 | k + 1, x28, x394000, x394001, x394002, x394003, x394004, x394005, x394006 => if x28 = true then (some ((([x394006, x394005] : List ByteArray)), (([1, 0] : List Int)))) else (if x394000 = 6 then (some ((([x394005] : List ByteArray)), (([0] : List Int)))) else (some (([] : List ByteArray), ([] : List Int))))
end
def impl_bindsIn.f (k : Nat) (a0_0 : Int) (a0_1 : Int) (a0_2 : Int) (a0_3 : Int) (a0_4 : Int) (a0_5 : ByteArray) (a0_6 : ByteArray) (a1 : Int) : Option (List ByteArray × List Int) := if a0_0 = 3 then (impl_bindsIn.j0 k a1 (a0_0 == 3) a0_0 a0_1 a0_2 a0_3 a0_4 a0_5 a0_6) else (if a0_0 = 5 then (impl_bindsIn.j0 k a1 (a1 == a0_2) a0_0 a0_1 a0_2 a0_3 a0_4 a0_5 a0_6) else (if a0_0 = 19 then (impl_bindsIn.j0 k a1 (a1 == a0_2) a0_0 a0_1 a0_2 a0_3 a0_4 a0_5 a0_6) else (impl_bindsIn.j0 k a1 false a0_0 a0_1 a0_2 a0_3 a0_4 a0_5 a0_6)))
theorem impl_bindsIn.mono_l : ∀ k, (∀ y0 y1 y2 y3 y4 y5 y6 y7 y8, LeO (impl_bindsIn.j0 k y0 y1 y2 y3 y4 y5 y6 y7 y8) (impl_bindsIn.j0 (k + 1) y0 y1 y2 y3 y4 y5 y6 y7 y8)) ∧ (∀ y0 y1 y2 y3 y4 y5 y6 y7 y8, LeO (impl_bindsIn.j1 k y0 y1 y2 y3 y4 y5 y6 y7 y8) (impl_bindsIn.j1 (k + 1) y0 y1 y2 y3 y4 y5 y6 y7 y8)) ∧ (∀ y0 y1 y2 y3 y4 y5 y6 y7, LeO (impl_bindsIn.j2 k y0 y1 y2 y3 y4 y5 y6 y7) (impl_bindsIn.j2 (k + 1) y0 y1 y2 y3 y4 y5 y6 y7))
 | 0 => ⟨fun _ _ _ _ _ _ _ _ _ r h => by simp [impl_bindsIn.j0] at h, fun _ _ _ _ _ _ _ _ _ r h => by simp [impl_bindsIn.j1] at h, fun _ _ _ _ _ _ _ _ r h => by simp [impl_bindsIn.j2] at h⟩
 | k + 1 => by
  obtain ⟨ih0, ih1, ih2⟩ := impl_bindsIn.mono_l k
  refine ⟨?_, ?_, ?_⟩
  ·intro y0 y1 y2 y3 y4 y5 y6 y7 y8
   unfold impl_bindsIn.j0
   repeat' first
   | (with_reducible exact ih0 _ _ _ _ _ _ _ _ _)
   | (with_reducible exact ih1 _ _ _ _ _ _ _ _ _)
   | (with_reducible exact ih2 _ _ _ _ _ _ _ _)
   | (with_reducible exact LeO.refl _)
   | (with_reducible exact LeO.none _)
   | (with_reducible refine LeO.ite ?_ ?_)
   | (with_reducible refine LeO.bind ?_ (fun _ => ?_))
   | exact ih0 _ _ _ _ _ _ _ _ _
   | exact ih1 _ _ _ _ _ _ _ _ _
   | exact ih2 _ _ _ _ _ _ _ _
   | exact LeO.none _
   | refine LeO.ite ?_ ?_
   | refine LeO.bind ?_ (fun _ => ?_)
  ·intro y0 y1 y2 y3 y4 y5 y6 y7 y8
   unfold impl_bindsIn.j1
   repeat' first
   | (with_reducible exact ih0 _ _ _ _ _ _ _ _ _)
   | (with_reducible exact ih1 _ _ _ _ _ _ _ _ _)
   | (with_reducible exact ih2 _ _ _ _ _ _ _ _)
   | (with_reducible exact LeO.refl _)
   | (with_reducible exact LeO.none _)
   | (with_reducible refine LeO.ite ?_ ?_)
   | (with_reducible refine LeO.bind ?_ (fun _ => ?_))
   | exact ih0 _ _ _ _ _ _ _ _ _
   | exact ih1 _ _ _ _ _ _ _ _ _
   | exact ih2 _ _ _ _ _ _ _ _
   | exact LeO.none _
   | refine LeO.ite ?_ ?_
   | refine LeO.bind ?_ (fun _ => ?_)
  ·intro y0 y1 y2 y3 y4 y5 y6 y7
   unfold impl_bindsIn.j2
   repeat' first
   | (with_reducible exact ih0 _ _ _ _ _ _ _ _ _)
   | (with_reducible exact ih1 _ _ _ _ _ _ _ _ _)
   | (with_reducible exact ih2 _ _ _ _ _ _ _ _)
   | (with_reducible exact LeO.refl _)
   | (with_reducible exact LeO.none _)
   | (with_reducible refine LeO.ite ?_ ?_)
   | (with_reducible refine LeO.bind ?_ (fun _ => ?_))
   | exact ih0 _ _ _ _ _ _ _ _ _
   | exact ih1 _ _ _ _ _ _ _ _ _
   | exact ih2 _ _ _ _ _ _ _ _
   | exact LeO.none _
   | refine LeO.ite ?_ ?_
   | refine LeO.bind ?_ (fun _ => ?_)
theorem impl_bindsIn.mono : ∀ a0 a1 a2 a3 a4 a5 a6 a7 k, LeO (impl_bindsIn.f k a0 a1 a2 a3 a4 a5 a6 a7) (impl_bindsIn.f (k + 1) a0 a1 a2 a3 a4 a5 a6 a7) := by
 intro a0 a1 a2 a3 a4 a5 a6 a7 k
 obtain ⟨ih0, ih1, ih2⟩ := impl_bindsIn.mono_l k
 unfold impl_bindsIn.f
 repeat' first
   | (with_reducible exact ih0 _ _ _ _ _ _ _ _ _)
   | (with_reducible exact ih1 _ _ _ _ _ _ _ _ _)
   | (with_reducible exact ih2 _ _ _ _ _ _ _ _)
   | (with_reducible exact LeO.refl _)
   | (with_reducible exact LeO.none _)
   | (with_reducible refine LeO.ite ?_ ?_)
   | (with_reducible refine LeO.bind ?_ (fun _ => ?_))
   | exact ih0 _ _ _ _ _ _ _ _ _
   | exact ih1 _ _ _ _ _ _ _ _ _
   | exact ih2 _ _ _ _ _ _ _ _
   | exact LeO.none _
   | refine LeO.ite ?_ ?_
   | refine LeO.bind ?_ (fun _ => ?_)
set_option maxHeartbeats 8000000 in
set_option maxRecDepth 100000 in
theorem impl_bindsIn.calls (k : Nat) (a0_0 : Int) (a0_1 : Int) (a0_2 : Int) (a0_3 : Int) (a0_4 : Int) (a0_5 : ByteArray) (a0_6 : ByteArray) (a1 : Int) (r1 : List ByteArray) (r2 : List Int) (w : World) (h : impl_bindsIn.f k a0_0 a0_1 a0_2 a0_3 a0_4 a0_5 a0_6 a1 = some (r1, r2)) :
  Calls Tryd.prog 46 #[.agg #[.int .i64 a0_0, .int .i64 a0_1, .int .i64 a0_2, .int .i64 a0_3, .int .i64 a0_4, .string a0_5, .string a0_6], .int .i64 a1] w fun e w' => ∃ v0_ v1_ : Value, e = .returned (.tuple #[v0_, v1_]) ∧ Kd.R Kd.string 9 w' w.heap.size (fun _ => True) v0_ r1 ∧ Kd.R (Kd.int .i64) 3 w' w.heap.size (fun _ => True) v1_ r2 ∧ Below w.heap.size w w' := by
 have hu43 := Tryd.underlying43
 have HB := Aside0.mk (Below.refl w.heap.size w)
 have H : (if a0_0 = 3 then (impl_bindsIn.j0 k a1 (a0_0 == 3) a0_0 a0_1 a0_2 a0_3 a0_4 a0_5 a0_6) else (if a0_0 = 5 then (impl_bindsIn.j0 k a1 (a1 == a0_2) a0_0 a0_1 a0_2 a0_3 a0_4 a0_5 a0_6) else (if a0_0 = 19 then (impl_bindsIn.j0 k a1 (a1 == a0_2) a0_0 a0_1 a0_2 a0_3 a0_4 a0_5 a0_6) else (impl_bindsIn.j0 k a1 false a0_0 a0_1 a0_2 a0_3 a0_4 a0_5 a0_6)))) = some (r1, r2) := h
 clear h
 have HC3 := Aside0.mk H
 clear H
 go_enter Tryd.func46, Tryd.ntmps46
 go_upto_if 6 with (first | ((with_reducible refine gate_dst (N := 2) rfl ?_); refine box_event ?hg (N := 2) ?hd (cs := #[.int .i64 a0_0, .int .i64 a0_1, .int .i64 a0_2, .int .i64 a0_3, .int .i64 a0_4, .string a0_5, .string a0_6]) (t := 43) ?hr ?_; (case hd => rfl); (case hg => rfl); (case hr => first | (go_simp; done) | (go_simp; rfl)); intro gb393 hg w4 hbox hb; have n0_ := Aside0.mk (below_step (bz0 HB.out) hb); have n1_ := Aside0.mk (hbox); have n2_ := Aside0.mk ((by rw [hg]; exact (below_size (bz0 HB.out)) : w.heap.size ≤ gb393)); have n3_ := Aside0.mk ((by rw [hg]; exact (below_size (bz0 HB.out)) : w.heap.size ≤ gb393)); clear HB; have HB := n0_; have BK393 := n1_; have GW393 := n2_; have GE393 := n3_; clear n0_ n1_ n2_ n3_; clear hb hbox hg; have hcz5_0 : w4.cell? ⟨gb393, 0, none⟩ = some (.int .i64 a0_0) := (blk_cell BK393.out 0).trans rfl; have hcz5_1 : w4.cell? ⟨gb393, 1, none⟩ = some (.int .i64 a0_1) := (blk_cell BK393.out 1).trans rfl; have hcz5_2 : w4.cell? ⟨gb393, 2, none⟩ = some (.int .i64 a0_2) := (blk_cell BK393.out 2).trans rfl; have hcz5_3 : w4.cell? ⟨gb393, 3, none⟩ = some (.int .i64 a0_3) := (blk_cell BK393.out 3).trans rfl; have hcz5_4 : w4.cell? ⟨gb393, 4, none⟩ = some (.int .i64 a0_4) := (blk_cell BK393.out 4).trans rfl; have hcz5_5 : w4.cell? ⟨gb393, 5, none⟩ = some (.string a0_5) := (blk_cell BK393.out 5).trans rfl; have hcz5_6 : w4.cell? ⟨gb393, 6, none⟩ = some (.string a0_6) := (blk_cell BK393.out 6).trans rfl; have hfz5_0 := blk_frozen BK393.out 0; have hfz5_1 := blk_frozen BK393.out 1; have hfz5_2 := blk_frozen BK393.out 2; have hfz5_3 := blk_frozen BK393.out 3; have hfz5_4 := blk_frozen BK393.out 4; have hfz5_5 := blk_frozen BK393.out 5; have hfz5_6 := blk_frozen BK393.out 6))
 (try simp only [Act.put, List.setIfInBounds_toArray, List.set_cons_zero, List.set_cons_succ])
 go_cut [6] (fun v6 wc => ∃ (kq : Nat) (x6_2 : Bool), v6 = .bool x6_2 ∧ Aside0 (impl_bindsIn.j0 kq a1 x6_2 a0_0 a0_1 a0_2 a0_3 a0_4 a0_5 a0_6 = some (r1, r2)) ∧ Aside0 (kq ≤ k) ∧ Aside0 (wc.heap[gb393]? = some (.cells #[.int .i64 a0_0, .int .i64 a0_1, .int .i64 a0_2, .int .i64 a0_3, .int .i64 a0_4, .string a0_5, .string a0_6] 43 (0, 0))) ∧ Aside0 (Below w.heap.size w wc))
 case first =>
  have H := HC3.out
  clear HC3
  by_cases c6 : a0_0 = 3
  ·rw [if_pos c6] at H
   have c6b0 : (a0_0 == 3) = true := beq_iff_eq.mpr c6
   have c6b1 : (a0_0 != 3) = false := bne_eq_false_iff_eq.mpr c6
   clear c6
   (first | rw [c6b0] | (simp only [i64_w, i32_w]; rw [c6b0]) | skip)
   have H' := Aside0.mk H
   clear H
   go_wp2
   go_meet
   case rel => exact ⟨_, ((a0_0 == 3)), ez, H', ⟨by first | omega | exact Nat.le_refl _⟩, ⟨by (with_reducible repeat (first | refine blk_drewN ?_ _ | refine blk_drew ?_ | refine blk_alloc ?_ _)); exact BK393.out⟩, ⟨(bz1 HB.out GE393.out)⟩⟩
  ·rw [if_neg c6] at H
   have c6b0 : (a0_0 == 3) = false := beq_eq_false_iff_ne.mpr c6
   have c6b1 : (a0_0 != 3) = true := bne_iff_ne.mpr c6
   (first | rw [c6b0] | (simp only [i64_w, i32_w]; rw [c6b0]) | skip)
   by_cases c7 : a0_0 = 5
   ·rw [if_pos c7] at H
    have c7b0 : (a0_0 == 5) = true := beq_iff_eq.mpr c7
    have c7b1 : (a0_0 != 5) = false := bne_eq_false_iff_eq.mpr c7
    clear c7
    have H' := Aside0.mk H
    clear H
    have hcz8_0 : w4.cell? ⟨gb393, 0, none⟩ = some (.int .i64 a0_0) := (blk_cell BK393.out 0).trans rfl
    have hcz8_1 : w4.cell? ⟨gb393, 1, none⟩ = some (.int .i64 a0_1) := (blk_cell BK393.out 1).trans rfl
    have hcz8_2 : w4.cell? ⟨gb393, 2, none⟩ = some (.int .i64 a0_2) := (blk_cell BK393.out 2).trans rfl
    have hcz8_3 : w4.cell? ⟨gb393, 3, none⟩ = some (.int .i64 a0_3) := (blk_cell BK393.out 3).trans rfl
    have hcz8_4 : w4.cell? ⟨gb393, 4, none⟩ = some (.int .i64 a0_4) := (blk_cell BK393.out 4).trans rfl
    have hcz8_5 : w4.cell? ⟨gb393, 5, none⟩ = some (.string a0_5) := (blk_cell BK393.out 5).trans rfl
    have hcz8_6 : w4.cell? ⟨gb393, 6, none⟩ = some (.string a0_6) := (blk_cell BK393.out 6).trans rfl
    have hfz8_0 := blk_frozen BK393.out 0
    have hfz8_1 := blk_frozen BK393.out 1
    have hfz8_2 := blk_frozen BK393.out 2
    have hfz8_3 := blk_frozen BK393.out 3
    have hfz8_4 := blk_frozen BK393.out 4
    have hfz8_5 := blk_frozen BK393.out 5
    have hfz8_6 := blk_frozen BK393.out 6
    go_wp2
    go_meet
    case rel => exact ⟨_, ((a1 == a0_2)), ez, H', ⟨by first | omega | exact Nat.le_refl _⟩, ⟨by (with_reducible repeat (first | refine blk_drewN ?_ _ | refine blk_drew ?_ | refine blk_alloc ?_ _)); exact BK393.out⟩, ⟨(bz1 HB.out GE393.out)⟩⟩
   ·rw [if_neg c7] at H
    have c7b0 : (a0_0 == 5) = false := beq_eq_false_iff_ne.mpr c7
    have c7b1 : (a0_0 != 5) = true := bne_iff_ne.mpr c7
    by_cases c9 : a0_0 = 19
    ·rw [if_pos c9] at H
     have c9b0 : (a0_0 == 19) = true := beq_iff_eq.mpr c9
     have c9b1 : (a0_0 != 19) = false := bne_eq_false_iff_eq.mpr c9
     clear c9
     have H' := Aside0.mk H
     clear H
     have hcz10_0 : w4.cell? ⟨gb393, 0, none⟩ = some (.int .i64 a0_0) := (blk_cell BK393.out 0).trans rfl
     have hcz10_1 : w4.cell? ⟨gb393, 1, none⟩ = some (.int .i64 a0_1) := (blk_cell BK393.out 1).trans rfl
     have hcz10_2 : w4.cell? ⟨gb393, 2, none⟩ = some (.int .i64 a0_2) := (blk_cell BK393.out 2).trans rfl
     have hcz10_3 : w4.cell? ⟨gb393, 3, none⟩ = some (.int .i64 a0_3) := (blk_cell BK393.out 3).trans rfl
     have hcz10_4 : w4.cell? ⟨gb393, 4, none⟩ = some (.int .i64 a0_4) := (blk_cell BK393.out 4).trans rfl
     have hcz10_5 : w4.cell? ⟨gb393, 5, none⟩ = some (.string a0_5) := (blk_cell BK393.out 5).trans rfl
     have hcz10_6 : w4.cell? ⟨gb393, 6, none⟩ = some (.string a0_6) := (blk_cell BK393.out 6).trans rfl
     have hfz10_0 := blk_frozen BK393.out 0
     have hfz10_1 := blk_frozen BK393.out 1
     have hfz10_2 := blk_frozen BK393.out 2
     have hfz10_3 := blk_frozen BK393.out 3
     have hfz10_4 := blk_frozen BK393.out 4
     have hfz10_5 := blk_frozen BK393.out 5
     have hfz10_6 := blk_frozen BK393.out 6
     go_wp2
     go_meet
     case rel => exact ⟨_, ((a1 == a0_2)), ez, H', ⟨by first | omega | exact Nat.le_refl _⟩, ⟨by (with_reducible repeat (first | refine blk_drewN ?_ _ | refine blk_drew ?_ | refine blk_alloc ?_ _)); exact BK393.out⟩, ⟨(bz1 HB.out GE393.out)⟩⟩
    ·rw [if_neg c9] at H
     have c9b0 : (a0_0 == 19) = false := beq_eq_false_iff_ne.mpr c9
     have c9b1 : (a0_0 != 19) = true := bne_iff_ne.mpr c9
     have H' := Aside0.mk H
     clear H
     have hcz11_0 : w4.cell? ⟨gb393, 0, none⟩ = some (.int .i64 a0_0) := (blk_cell BK393.out 0).trans rfl
     have hcz11_1 : w4.cell? ⟨gb393, 1, none⟩ = some (.int .i64 a0_1) := (blk_cell BK393.out 1).trans rfl
     have hcz11_2 : w4.cell? ⟨gb393, 2, none⟩ = some (.int .i64 a0_2) := (blk_cell BK393.out 2).trans rfl
     have hcz11_3 : w4.cell? ⟨gb393, 3, none⟩ = some (.int .i64 a0_3) := (blk_cell BK393.out 3).trans rfl
     have hcz11_4 : w4.cell? ⟨gb393, 4, none⟩ = some (.int .i64 a0_4) := (blk_cell BK393.out 4).trans rfl
     have hcz11_5 : w4.cell? ⟨gb393, 5, none⟩ = some (.string a0_5) := (blk_cell BK393.out 5).trans rfl
     have hcz11_6 : w4.cell? ⟨gb393, 6, none⟩ = some (.string a0_6) := (blk_cell BK393.out 6).trans rfl
     have hfz11_0 := blk_frozen BK393.out 0
     have hfz11_1 := blk_frozen BK393.out 1
     have hfz11_2 := blk_frozen BK393.out 2
     have hfz11_3 := blk_frozen BK393.out 3
     have hfz11_4 := blk_frozen BK393.out 4
     have hfz11_5 := blk_frozen BK393.out 5
     have hfz11_6 := blk_frozen BK393.out 6
     go_wp2
     go_meet
     case rel => exact ⟨_, (false), ez, H', ⟨by first | omega | exact Nat.le_refl _⟩, ⟨by (with_reducible repeat (first | refine blk_drewN ?_ _ | refine blk_drew ?_ | refine blk_alloc ?_ _)); exact BK393.out⟩, ⟨(bz1 HB.out GE393.out)⟩⟩
 case rest =>
  clear HC3
  try clear p2
  try clear c4
  try clear c6
  try clear c6b0
  try clear c6b1
  try clear c7
  try clear c7b0
  try clear c7b1
  try clear c9
  try clear c9b0
  try clear c9b1
  try clear hcz10_0
  try clear hcz10_1
  try clear hcz10_2
  try clear hcz10_3
  try clear hcz10_4
  try clear hcz10_5
  try clear hcz10_6
  try clear hcz11_0
  try clear hcz11_1
  try clear hcz11_2
  try clear hcz11_3
  try clear hcz11_4
  try clear hcz11_5
  try clear hcz11_6
  try clear hcz5_0
  try clear hcz5_1
  try clear hcz5_2
  try clear hcz5_3
  try clear hcz5_4
  try clear hcz5_5
  try clear hcz5_6
  try clear hcz8_0
  try clear hcz8_1
  try clear hcz8_2
  try clear hcz8_3
  try clear hcz8_4
  try clear hcz8_5
  try clear hcz8_6
  try clear hfz10_0
  try clear hfz10_1
  try clear hfz10_2
  try clear hfz10_3
  try clear hfz10_4
  try clear hfz10_5
  try clear hfz10_6
  try clear hfz11_0
  try clear hfz11_1
  try clear hfz11_2
  try clear hfz11_3
  try clear hfz11_4
  try clear hfz11_5
  try clear hfz11_6
  try clear hfz5_0
  try clear hfz5_1
  try clear hfz5_2
  try clear hfz5_3
  try clear hfz5_4
  try clear hfz5_5
  try clear hfz5_6
  try clear hfz8_0
  try clear hfz8_1
  try clear hfz8_2
  try clear hfz8_3
  try clear hfz8_4
  try clear hfz8_5
  try clear hfz8_6
  obtain ⟨kq, x6_2, rfl, HA, HJ2, BK393, HB⟩ := hcut
  cases kq with
  | zero => exact absurd HA.out (by simp [impl_bindsIn.j0])
  | succ kj2 =>
   have H := HA.out
   clear HA
   simp only [impl_bindsIn.j0] at H
   by_cases c12 : x6_2 = true
   ·subst c12
    have H1 : (some ((([a0_5] : List ByteArray)), (([0] : List Int)))) = some (r1, r2) := by rw [if_pos rfl] at H; exact H
    clear H
    have H := H1
    clear H1
    obtain ⟨y394, hy394⟩ : ∃ y_ : List ByteArray, y_ = (([a0_5] : List ByteArray)) := ⟨_, rfl⟩
    replace H : (some (y394, (([0] : List Int)))) = some (r1, r2) := by first | (rw [hy394]; with_reducible exact H) | (have H2_ := (Option.bind_some _ _).symm.trans H; rw [hy394]; with_reducible exact H2_) | (have H2_ := (Option.bind_some _ _).symm.trans H; with_reducible exact H2_) | with_reducible exact H | (rw [hy394]; exact H) | exact H
    have Ny394 := Aside0.mk hy394
    clear hy394
    obtain ⟨y397, hy397⟩ : ∃ y_ : List Int, y_ = (([0] : List Int)) := ⟨_, rfl⟩
    replace H : (some (y394, y397)) = some (r1, r2) := by first | (rw [hy397]; with_reducible exact H) | (have H2_ := (Option.bind_some _ _).symm.trans H; rw [hy397]; with_reducible exact H2_) | (have H2_ := (Option.bind_some _ _).symm.trans H; with_reducible exact H2_) | with_reducible exact H | (rw [hy397]; exact H) | exact H
    have Ny397 := Aside0.mk hy397
    clear hy397
    simp only [Option.some.injEq, Prod.mk.injEq] at H
    obtain ⟨rfl, rfl⟩ := H
    have hcz13_0 : wc.cell? ⟨gb393, 0, none⟩ = some (.int .i64 a0_0) := (blk_cell BK393.out 0).trans rfl
    have hcz13_1 : wc.cell? ⟨gb393, 1, none⟩ = some (.int .i64 a0_1) := (blk_cell BK393.out 1).trans rfl
    have hcz13_2 : wc.cell? ⟨gb393, 2, none⟩ = some (.int .i64 a0_2) := (blk_cell BK393.out 2).trans rfl
    have hcz13_3 : wc.cell? ⟨gb393, 3, none⟩ = some (.int .i64 a0_3) := (blk_cell BK393.out 3).trans rfl
    have hcz13_4 : wc.cell? ⟨gb393, 4, none⟩ = some (.int .i64 a0_4) := (blk_cell BK393.out 4).trans rfl
    have hcz13_5 : wc.cell? ⟨gb393, 5, none⟩ = some (.string a0_5) := (blk_cell BK393.out 5).trans rfl
    have hcz13_6 : wc.cell? ⟨gb393, 6, none⟩ = some (.string a0_6) := (blk_cell BK393.out 6).trans rfl
    have hfz13_0 := blk_frozen BK393.out 0
    have hfz13_1 := blk_frozen BK393.out 1
    have hfz13_2 := blk_frozen BK393.out 2
    have hfz13_3 := blk_frozen BK393.out 3
    have hfz13_4 := blk_frozen BK393.out 4
    have hfz13_5 := blk_frozen BK393.out 5
    have hfz13_6 := blk_frozen BK393.out 6
    go_wp2_with (first | ((with_reducible refine gate_dst (N := 26) rfl ?_); refine Kd.R_lit Kd.string _ 9 ?hg (N := 26) ?hd (xs := ([a0_5] : List ByteArray)) (inner := [.string a0_5]) (ok := fun _ => True) (okp := fun _ => True) ?hr ?hp (fun _ hk => hk) trivial (Below.refl _ _) (Nat.le_refl _) (by simp) ?_; (case hd => rfl); (case hg => rfl); (case hr => first | (go_simp; done) | (go_simp; rfl)); (case hp => exact (Reps.one (show Kd.M Kd.string _ _ _ a0_5 [.string a0_5] from rfl) (Reps.none _ _))); intro v395 w14 ho15 hb hg_ hnew_; clear hg_ hnew_; (first | rw [← Ny394.out] at ho15 | (simp only [Int.reduceToNat] at ho15; rw [← Ny394.out] at ho15)); have n0_ := Aside0.mk (Kd.R_lower ho15 (below_size (bz1 HB.out GE393.out))); have n1_ := Aside0.mk (blk_below (g := gb393) (o := .cells #[.int .i64 a0_0, .int .i64 a0_1, .int .i64 a0_2, .int .i64 a0_3, .int .i64 a0_4, .string a0_5, .string a0_6] 43 (0, 0)) (kz BK393.out) hb); have n2_ := Aside0.mk (below_step (bz1 HB.out GE393.out) hb); clear BK393; clear HB; have HO396 := n0_; have BK393 := n1_; have HB := n2_; clear n0_ n1_ n2_; clear hb ho15) | ((with_reducible refine gate_dst (N := 27) rfl ?_); refine Kd.R_lit (Kd.int .i64) _ 3 ?hg (N := 27) ?hd (xs := ([0] : List Int)) (inner := [.int .i64 0]) (ok := fun _ => True) (okp := fun _ => True) ?hr ?hp (fun _ hk => hk) trivial (Below.refl _ _) (Nat.le_refl _) (by simp) ?_; (case hd => rfl); (case hg => rfl); (case hr => first | (go_simp; done) | (go_simp; rfl)); (case hp => exact (Reps.one (show Kd.M (Kd.int .i64) _ _ _ 0 [.int .i64 0] from rfl) (Reps.none _ _))); intro v398 w16 ho17 hb hg_ hnew_; clear hg_ hnew_; (first | rw [← Ny397.out] at ho17 | (simp only [Int.reduceToNat] at ho17; rw [← Ny397.out] at ho17)); have n0_ := Aside0.mk (Kd.R_below (rz HO396.out) hb); have n1_ := Aside0.mk (Kd.R_lower ho17 (below_size (bz1 HB.out GE393.out))); have n2_ := Aside0.mk (blk_below (g := gb393) (o := .cells #[.int .i64 a0_0, .int .i64 a0_1, .int .i64 a0_2, .int .i64 a0_3, .int .i64 a0_4, .string a0_5, .string a0_6] 43 (0, 0)) (kz BK393.out) hb); have n3_ := Aside0.mk (below_step (bz1 HB.out GE393.out) hb); clear HO396; clear BK393; clear HB; have HO396 := n0_; have HO399 := n1_; have BK393 := n2_; have HB := n3_; clear n0_ n1_ n2_ n3_; clear hb ho17))
    go_ret2
    exact ⟨_, _, gz, by (with_reducible repeat (first | apply Kd.R_alloc | apply Kd.R_drewN | apply Kd.R_drew)); exact HO396.out, by (with_reducible repeat (first | apply Kd.R_alloc | apply Kd.R_drewN | apply Kd.R_drew)); exact HO399.out, (bz1 HB.out GE393.out)⟩
   ·replace c12 := Bool.eq_false_iff.mpr c12
    subst c12
    have H1 : (if a0_0 = 6 then (impl_bindsIn.j1 kj2 a1 (a1 == a0_1) a0_0 a0_1 a0_2 a0_3 a0_4 a0_5 a0_6) else (impl_bindsIn.j1 kj2 a1 false a0_0 a0_1 a0_2 a0_3 a0_4 a0_5 a0_6)) = some (r1, r2) := by rw [if_neg (show ¬ (false = true) by decide)] at H; exact H
    clear H
    have H := H1
    clear H1
    have HC18 := Aside0.mk H
    clear H
    go_upto_region 4 with (fail)
    go_cut [28] (fun v28 wc => ∃ (kq : Nat) (x28_17 : Bool), v28 = .bool x28_17 ∧ Aside0 (impl_bindsIn.j1 kq a1 x28_17 a0_0 a0_1 a0_2 a0_3 a0_4 a0_5 a0_6 = some (r1, r2)) ∧ Aside0 (kq ≤ kj2) ∧ Aside0 (wc.heap[gb393]? = some (.cells #[.int .i64 a0_0, .int .i64 a0_1, .int .i64 a0_2, .int .i64 a0_3, .int .i64 a0_4, .string a0_5, .string a0_6] 43 (0, 0))) ∧ Aside0 (Below w.heap.size w wc))
    case first =>
     have H := HC18.out
     clear HC18
     by_cases c19 : a0_0 = 6
     ·rw [if_pos c19] at H
      have c19b0 : (a0_0 == 6) = true := beq_iff_eq.mpr c19
      have c19b1 : (a0_0 != 6) = false := bne_eq_false_iff_eq.mpr c19
      clear c19
      (first | rw [c19b0] | (simp only [i64_w, i32_w]; rw [c19b0]) | skip)
      have H' := Aside0.mk H
      clear H
      have hcz20_0 : wc.cell? ⟨gb393, 0, none⟩ = some (.int .i64 a0_0) := (blk_cell BK393.out 0).trans rfl
      have hcz20_1 : wc.cell? ⟨gb393, 1, none⟩ = some (.int .i64 a0_1) := (blk_cell BK393.out 1).trans rfl
      have hcz20_2 : wc.cell? ⟨gb393, 2, none⟩ = some (.int .i64 a0_2) := (blk_cell BK393.out 2).trans rfl
      have hcz20_3 : wc.cell? ⟨gb393, 3, none⟩ = some (.int .i64 a0_3) := (blk_cell BK393.out 3).trans rfl
      have hcz20_4 : wc.cell? ⟨gb393, 4, none⟩ = some (.int .i64 a0_4) := (blk_cell BK393.out 4).trans rfl
      have hcz20_5 : wc.cell? ⟨gb393, 5, none⟩ = some (.string a0_5) := (blk_cell BK393.out 5).trans rfl
      have hcz20_6 : wc.cell? ⟨gb393, 6, none⟩ = some (.string a0_6) := (blk_cell BK393.out 6).trans rfl
      have hfz20_0 := blk_frozen BK393.out 0
      have hfz20_1 := blk_frozen BK393.out 1
      have hfz20_2 := blk_frozen BK393.out 2
      have hfz20_3 := blk_frozen BK393.out 3
      have hfz20_4 := blk_frozen BK393.out 4
      have hfz20_5 := blk_frozen BK393.out 5
      have hfz20_6 := blk_frozen BK393.out 6
      go_wp2
      go_meet
      case rel => exact ⟨_, ((a1 == a0_1)), ez, H', ⟨by have := HJ2.out; first | omega | exact Nat.le_refl _⟩, ⟨by (with_reducible repeat (first | refine blk_drewN ?_ _ | refine blk_drew ?_ | refine blk_alloc ?_ _)); exact BK393.out⟩, ⟨(bz1 HB.out GE393.out)⟩⟩
     ·rw [if_neg c19] at H
      have c19b0 : (a0_0 == 6) = false := beq_eq_false_iff_ne.mpr c19
      have c19b1 : (a0_0 != 6) = true := bne_iff_ne.mpr c19
      (first | rw [c19b0] | (simp only [i64_w, i32_w]; rw [c19b0]) | skip)
      have H' := Aside0.mk H
      clear H
      have hcz21_0 : wc.cell? ⟨gb393, 0, none⟩ = some (.int .i64 a0_0) := (blk_cell BK393.out 0).trans rfl
      have hcz21_1 : wc.cell? ⟨gb393, 1, none⟩ = some (.int .i64 a0_1) := (blk_cell BK393.out 1).trans rfl
      have hcz21_2 : wc.cell? ⟨gb393, 2, none⟩ = some (.int .i64 a0_2) := (blk_cell BK393.out 2).trans rfl
      have hcz21_3 : wc.cell? ⟨gb393, 3, none⟩ = some (.int .i64 a0_3) := (blk_cell BK393.out 3).trans rfl
      have hcz21_4 : wc.cell? ⟨gb393, 4, none⟩ = some (.int .i64 a0_4) := (blk_cell BK393.out 4).trans rfl
      have hcz21_5 : wc.cell? ⟨gb393, 5, none⟩ = some (.string a0_5) := (blk_cell BK393.out 5).trans rfl
      have hcz21_6 : wc.cell? ⟨gb393, 6, none⟩ = some (.string a0_6) := (blk_cell BK393.out 6).trans rfl
      have hfz21_0 := blk_frozen BK393.out 0
      have hfz21_1 := blk_frozen BK393.out 1
      have hfz21_2 := blk_frozen BK393.out 2
      have hfz21_3 := blk_frozen BK393.out 3
      have hfz21_4 := blk_frozen BK393.out 4
      have hfz21_5 := blk_frozen BK393.out 5
      have hfz21_6 := blk_frozen BK393.out 6
      go_wp2
      go_meet
      case rel => exact ⟨_, (false), ez, H', ⟨by have := HJ2.out; first | omega | exact Nat.le_refl _⟩, ⟨by (with_reducible repeat (first | refine blk_drewN ?_ _ | refine blk_drew ?_ | refine blk_alloc ?_ _)); exact BK393.out⟩, ⟨(bz1 HB.out GE393.out)⟩⟩
    case rest =>
     clear HC18
     try clear c1
     try clear p2
     try clear c4
     try clear c6
     try clear c6b0
     try clear c6b1
     try clear c7
     try clear c7b0
     try clear c7b1
     try clear c9
     try clear c9b0
     try clear c9b1
     try clear c12
     try clear c19
     try clear c19b0
     try clear c19b1
     try clear hcz10_0
     try clear hcz10_1
     try clear hcz10_2
     try clear hcz10_3
     try clear hcz10_4
     try clear hcz10_5
     try clear hcz10_6
     try clear hcz11_0
     try clear hcz11_1
     try clear hcz11_2
     try clear hcz11_3
     try clear hcz11_4
     try clear hcz11_5
     try clear hcz11_6
     try clear hcz13_0
     try clear hcz13_1
     try clear hcz13_2
     try clear hcz13_3
     try clear hcz13_4
     try clear hcz13_5
     try clear hcz13_6
     try clear hcz20_0
     try clear hcz20_1
     try clear hcz20_2
     try clear hcz20_3
     try clear hcz20_4
     try clear hcz20_5
     try clear hcz20_6
     try clear hcz21_0
     try clear hcz21_1
     try clear hcz21_2
     try clear hcz21_3
     try clear hcz21_4
     try clear hcz21_5
     try clear hcz21_6
     try clear hcz5_0
     try clear hcz5_1
     try clear hcz5_2
     try clear hcz5_3
     try clear hcz5_4
     try clear hcz5_5
     try clear hcz5_6
     try clear hcz8_0
     try clear hcz8_1
     try clear hcz8_2
     try clear hcz8_3
     try clear hcz8_4
     try clear hcz8_5
     try clear hcz8_6
     try clear hfz10_0
     try clear hfz10_1
     try clear hfz10_2
     try clear hfz10_3
     try clear hfz10_4
     try clear hfz10_5
     try clear hfz10_6
     try clear hfz11_0
     try clear hfz11_1
     try clear hfz11_2
     try clear hfz11_3
     try clear hfz11_4
     try clear hfz11_5
     try clear hfz11_6
     try clear hfz13_0
     try clear hfz13_1
     try clear hfz13_2
     try clear hfz13_3
     try clear hfz13_4
     try clear hfz13_5
     try clear hfz13_6
     try clear hfz20_0
     try clear hfz20_1
     try clear hfz20_2
     try clear hfz20_3
     try clear hfz20_4
     try clear hfz20_5
     try clear hfz20_6
     try clear hfz21_0
     try clear hfz21_1
     try clear hfz21_2
     try clear hfz21_3
     try clear hfz21_4
     try clear hfz21_5
     try clear hfz21_6
     try clear hfz5_0
     try clear hfz5_1
     try clear hfz5_2
     try clear hfz5_3
     try clear hfz5_4
     try clear hfz5_5
     try clear hfz5_6
     try clear hfz8_0
     try clear hfz8_1
     try clear hfz8_2
     try clear hfz8_3
     try clear hfz8_4
     try clear hfz8_5
     try clear hfz8_6
     try clear p2
     obtain ⟨kq, x28_17, rfl, HA, HJ17, BK393, HB⟩ := hcut
     cases kq with
     | zero => exact absurd HA.out (by simp [impl_bindsIn.j1])
     | succ kj17 =>
      have H := HA.out
      clear HA
      simp only [impl_bindsIn.j1] at H
      have HC22 := Aside0.mk H
      clear H
      go_upto_if 28 with (fail)
      go_cut [28] (fun v28 wc => ∃ (kq : Nat) (x28_21 : Bool), v28 = .bool x28_21 ∧ Aside0 (impl_bindsIn.j2 kq x28_21 a0_0 a0_1 a0_2 a0_3 a0_4 a0_5 a0_6 = some (r1, r2)) ∧ Aside0 (kq ≤ kj17) ∧ Aside0 (wc.heap[gb393]? = some (.cells #[.int .i64 a0_0, .int .i64 a0_1, .int .i64 a0_2, .int .i64 a0_3, .int .i64 a0_4, .string a0_5, .string a0_6] 43 (0, 0))) ∧ Aside0 (Below w.heap.size w wc))
      case first =>
       have H := HC22.out
       clear HC22
       by_cases c23 : x28_17 = true
       ·subst c23
        have H1 : (impl_bindsIn.j2 kj17 true a0_0 a0_1 a0_2 a0_3 a0_4 a0_5 a0_6) = some (r1, r2) := by rw [if_pos rfl] at H; exact H
        clear H
        have H := H1
        clear H1
        have H' := Aside0.mk H
        clear H
        go_wp2
        go_meet
        case rel => exact ⟨_, (true), ez, H', ⟨by have := HJ2.out; have := HJ17.out; first | omega | exact Nat.le_refl _⟩, ⟨by (with_reducible repeat (first | refine blk_drewN ?_ _ | refine blk_drew ?_ | refine blk_alloc ?_ _)); exact BK393.out⟩, ⟨(bz1 HB.out GE393.out)⟩⟩
       ·replace c23 := Bool.eq_false_iff.mpr c23
        subst c23
        have H1 : (if a0_0 = 14 then (impl_bindsIn.j2 kj17 (a1 == a0_3) a0_0 a0_1 a0_2 a0_3 a0_4 a0_5 a0_6) else (impl_bindsIn.j2 kj17 false a0_0 a0_1 a0_2 a0_3 a0_4 a0_5 a0_6)) = some (r1, r2) := by rw [if_neg (show ¬ (false = true) by decide)] at H; exact H
        clear H
        have H := H1
        clear H1
        by_cases c24 : a0_0 = 14
        ·rw [if_pos c24] at H
         have c24b0 : (a0_0 == 14) = true := beq_iff_eq.mpr c24
         have c24b1 : (a0_0 != 14) = false := bne_eq_false_iff_eq.mpr c24
         clear c24
         (first | rw [c24b0] | (simp only [i64_w, i32_w]; rw [c24b0]) | skip)
         have H' := Aside0.mk H
         clear H
         have hcz25_0 : wc.cell? ⟨gb393, 0, none⟩ = some (.int .i64 a0_0) := (blk_cell BK393.out 0).trans rfl
         have hcz25_1 : wc.cell? ⟨gb393, 1, none⟩ = some (.int .i64 a0_1) := (blk_cell BK393.out 1).trans rfl
         have hcz25_2 : wc.cell? ⟨gb393, 2, none⟩ = some (.int .i64 a0_2) := (blk_cell BK393.out 2).trans rfl
         have hcz25_3 : wc.cell? ⟨gb393, 3, none⟩ = some (.int .i64 a0_3) := (blk_cell BK393.out 3).trans rfl
         have hcz25_4 : wc.cell? ⟨gb393, 4, none⟩ = some (.int .i64 a0_4) := (blk_cell BK393.out 4).trans rfl
         have hcz25_5 : wc.cell? ⟨gb393, 5, none⟩ = some (.string a0_5) := (blk_cell BK393.out 5).trans rfl
         have hcz25_6 : wc.cell? ⟨gb393, 6, none⟩ = some (.string a0_6) := (blk_cell BK393.out 6).trans rfl
         have hfz25_0 := blk_frozen BK393.out 0
         have hfz25_1 := blk_frozen BK393.out 1
         have hfz25_2 := blk_frozen BK393.out 2
         have hfz25_3 := blk_frozen BK393.out 3
         have hfz25_4 := blk_frozen BK393.out 4
         have hfz25_5 := blk_frozen BK393.out 5
         have hfz25_6 := blk_frozen BK393.out 6
         go_wp2
         go_meet
         case rel => exact ⟨_, ((a1 == a0_3)), ez, H', ⟨by have := HJ2.out; have := HJ17.out; first | omega | exact Nat.le_refl _⟩, ⟨by (with_reducible repeat (first | refine blk_drewN ?_ _ | refine blk_drew ?_ | refine blk_alloc ?_ _)); exact BK393.out⟩, ⟨(bz1 HB.out GE393.out)⟩⟩
        ·rw [if_neg c24] at H
         have c24b0 : (a0_0 == 14) = false := beq_eq_false_iff_ne.mpr c24
         have c24b1 : (a0_0 != 14) = true := bne_iff_ne.mpr c24
         (first | rw [c24b0] | (simp only [i64_w, i32_w]; rw [c24b0]) | skip)
         have H' := Aside0.mk H
         clear H
         have hcz26_0 : wc.cell? ⟨gb393, 0, none⟩ = some (.int .i64 a0_0) := (blk_cell BK393.out 0).trans rfl
         have hcz26_1 : wc.cell? ⟨gb393, 1, none⟩ = some (.int .i64 a0_1) := (blk_cell BK393.out 1).trans rfl
         have hcz26_2 : wc.cell? ⟨gb393, 2, none⟩ = some (.int .i64 a0_2) := (blk_cell BK393.out 2).trans rfl
         have hcz26_3 : wc.cell? ⟨gb393, 3, none⟩ = some (.int .i64 a0_3) := (blk_cell BK393.out 3).trans rfl
         have hcz26_4 : wc.cell? ⟨gb393, 4, none⟩ = some (.int .i64 a0_4) := (blk_cell BK393.out 4).trans rfl
         have hcz26_5 : wc.cell? ⟨gb393, 5, none⟩ = some (.string a0_5) := (blk_cell BK393.out 5).trans rfl
         have hcz26_6 : wc.cell? ⟨gb393, 6, none⟩ = some (.string a0_6) := (blk_cell BK393.out 6).trans rfl
         have hfz26_0 := blk_frozen BK393.out 0
         have hfz26_1 := blk_frozen BK393.out 1
         have hfz26_2 := blk_frozen BK393.out 2
         have hfz26_3 := blk_frozen BK393.out 3
         have hfz26_4 := blk_frozen BK393.out 4
         have hfz26_5 := blk_frozen BK393.out 5
         have hfz26_6 := blk_frozen BK393.out 6
         go_wp2
         go_meet
         case rel => exact ⟨_, (false), ez, H', ⟨by have := HJ2.out; have := HJ17.out; first | omega | exact Nat.le_refl _⟩, ⟨by (with_reducible repeat (first | refine blk_drewN ?_ _ | refine blk_drew ?_ | refine blk_alloc ?_ _)); exact BK393.out⟩, ⟨(bz1 HB.out GE393.out)⟩⟩
      case rest =>
       clear HC22
       try clear c1
       try clear c2
       try clear p2
       try clear c4
       try clear c6
       try clear c6b0
       try clear c6b1
       try clear c7
       try clear c7b0
       try clear c7b1
       try clear c9
       try clear c9b0
       try clear c9b1
       try clear c12
       try clear c19
       try clear c19b0
       try clear c19b1
       try clear c23
       try clear c24
       try clear c24b0
       try clear c24b1
       try clear hcz10_0
       try clear hcz10_1
       try clear hcz10_2
       try clear hcz10_3
       try clear hcz10_4
       try clear hcz10_5
       try clear hcz10_6
       try clear hcz11_0
       try clear hcz11_1
       try clear hcz11_2
       try clear hcz11_3
       try clear hcz11_4
       try clear hcz11_5
       try clear hcz11_6
       try clear hcz13_0
       try clear hcz13_1
       try clear hcz13_2
       try clear hcz13_3
       try clear hcz13_4
       try clear hcz13_5
       try clear hcz13_6
       try clear hcz20_0
       try clear hcz20_1
       try clear hcz20_2
       try clear hcz20_3
       try clear hcz20_4
       try clear hcz20_5
       try clear hcz20_6
       try clear hcz21_0
       try clear hcz21_1
       try clear hcz21_2
       try clear hcz21_3
       try clear hcz21_4
       try clear hcz21_5
       try clear hcz21_6
       try clear hcz25_0
       try clear hcz25_1
       try clear hcz25_2
       try clear hcz25_3
       try clear hcz25_4
       try clear hcz25_5
       try clear hcz25_6
       try clear hcz26_0
       try clear hcz26_1
       try clear hcz26_2
       try clear hcz26_3
       try clear hcz26_4
       try clear hcz26_5
       try clear hcz26_6
       try clear hcz5_0
       try clear hcz5_1
       try clear hcz5_2
       try clear hcz5_3
       try clear hcz5_4
       try clear hcz5_5
       try clear hcz5_6
       try clear hcz8_0
       try clear hcz8_1
       try clear hcz8_2
       try clear hcz8_3
       try clear hcz8_4
       try clear hcz8_5
       try clear hcz8_6
       try clear hfz10_0
       try clear hfz10_1
       try clear hfz10_2
       try clear hfz10_3
       try clear hfz10_4
       try clear hfz10_5
       try clear hfz10_6
       try clear hfz11_0
       try clear hfz11_1
       try clear hfz11_2
       try clear hfz11_3
       try clear hfz11_4
       try clear hfz11_5
       try clear hfz11_6
       try clear hfz13_0
       try clear hfz13_1
       try clear hfz13_2
       try clear hfz13_3
       try clear hfz13_4
       try clear hfz13_5
       try clear hfz13_6
       try clear hfz20_0
       try clear hfz20_1
       try clear hfz20_2
       try clear hfz20_3
       try clear hfz20_4
       try clear hfz20_5
       try clear hfz20_6
       try clear hfz21_0
       try clear hfz21_1
       try clear hfz21_2
       try clear hfz21_3
       try clear hfz21_4
       try clear hfz21_5
       try clear hfz21_6
       try clear hfz25_0
       try clear hfz25_1
       try clear hfz25_2
       try clear hfz25_3
       try clear hfz25_4
       try clear hfz25_5
       try clear hfz25_6
       try clear hfz26_0
       try clear hfz26_1
       try clear hfz26_2
       try clear hfz26_3
       try clear hfz26_4
       try clear hfz26_5
       try clear hfz26_6
       try clear hfz5_0
       try clear hfz5_1
       try clear hfz5_2
       try clear hfz5_3
       try clear hfz5_4
       try clear hfz5_5
       try clear hfz5_6
       try clear hfz8_0
       try clear hfz8_1
       try clear hfz8_2
       try clear hfz8_3
       try clear hfz8_4
       try clear hfz8_5
       try clear hfz8_6
       try clear p2
       obtain ⟨kq, x28_21, rfl, HA, HJ21, BK393, HB⟩ := hcut
       cases kq with
       | zero => exact absurd HA.out (by simp [impl_bindsIn.j2])
       | succ kj21 =>
        have H := HA.out
        clear HA
        simp only [impl_bindsIn.j2] at H
        by_cases c27 : x28_21 = true
        ·subst c27
         have H1 : (some ((([a0_6, a0_5] : List ByteArray)), (([1, 0] : List Int)))) = some (r1, r2) := by rw [if_pos rfl] at H; exact H
         clear H
         have H := H1
         clear H1
         obtain ⟨y400, hy400⟩ : ∃ y_ : List ByteArray, y_ = (([a0_6, a0_5] : List ByteArray)) := ⟨_, rfl⟩
         replace H : (some (y400, (([1, 0] : List Int)))) = some (r1, r2) := by first | (rw [hy400]; with_reducible exact H) | (have H2_ := (Option.bind_some _ _).symm.trans H; rw [hy400]; with_reducible exact H2_) | (have H2_ := (Option.bind_some _ _).symm.trans H; with_reducible exact H2_) | with_reducible exact H | (rw [hy400]; exact H) | exact H
         have Ny400 := Aside0.mk hy400
         clear hy400
         obtain ⟨y403, hy403⟩ : ∃ y_ : List Int, y_ = (([1, 0] : List Int)) := ⟨_, rfl⟩
         replace H : (some (y400, y403)) = some (r1, r2) := by first | (rw [hy403]; with_reducible exact H) | (have H2_ := (Option.bind_some _ _).symm.trans H; rw [hy403]; with_reducible exact H2_) | (have H2_ := (Option.bind_some _ _).symm.trans H; with_reducible exact H2_) | with_reducible exact H | (rw [hy403]; exact H) | exact H
         have Ny403 := Aside0.mk hy403
         clear hy403
         simp only [Option.some.injEq, Prod.mk.injEq] at H
         obtain ⟨rfl, rfl⟩ := H
         have hcz28_0 : wc.cell? ⟨gb393, 0, none⟩ = some (.int .i64 a0_0) := (blk_cell BK393.out 0).trans rfl
         have hcz28_1 : wc.cell? ⟨gb393, 1, none⟩ = some (.int .i64 a0_1) := (blk_cell BK393.out 1).trans rfl
         have hcz28_2 : wc.cell? ⟨gb393, 2, none⟩ = some (.int .i64 a0_2) := (blk_cell BK393.out 2).trans rfl
         have hcz28_3 : wc.cell? ⟨gb393, 3, none⟩ = some (.int .i64 a0_3) := (blk_cell BK393.out 3).trans rfl
         have hcz28_4 : wc.cell? ⟨gb393, 4, none⟩ = some (.int .i64 a0_4) := (blk_cell BK393.out 4).trans rfl
         have hcz28_5 : wc.cell? ⟨gb393, 5, none⟩ = some (.string a0_5) := (blk_cell BK393.out 5).trans rfl
         have hcz28_6 : wc.cell? ⟨gb393, 6, none⟩ = some (.string a0_6) := (blk_cell BK393.out 6).trans rfl
         have hfz28_0 := blk_frozen BK393.out 0
         have hfz28_1 := blk_frozen BK393.out 1
         have hfz28_2 := blk_frozen BK393.out 2
         have hfz28_3 := blk_frozen BK393.out 3
         have hfz28_4 := blk_frozen BK393.out 4
         have hfz28_5 := blk_frozen BK393.out 5
         have hfz28_6 := blk_frozen BK393.out 6
         go_wp2_with (first | ((with_reducible refine gate_dst (N := 51) rfl ?_); refine Kd.R_lit Kd.string _ 9 ?hg (N := 51) ?hd (xs := ([a0_6, a0_5] : List ByteArray)) (inner := [.string a0_6, .string a0_5]) (ok := fun _ => True) (okp := fun _ => True) ?hr ?hp (fun _ hk => hk) trivial (Below.refl _ _) (Nat.le_refl _) (by simp) ?_; (case hd => rfl); (case hg => rfl); (case hr => first | (go_simp; done) | (go_simp; rfl)); (case hp => exact (Reps.one (show Kd.M Kd.string _ _ _ a0_6 [.string a0_6] from rfl) (Reps.one (show Kd.M Kd.string _ _ _ a0_5 [.string a0_5] from rfl) (Reps.none _ _)))); intro v401 w29 ho30 hb hg_ hnew_; clear hg_ hnew_; (first | rw [← Ny400.out] at ho30 | (simp only [Int.reduceToNat] at ho30; rw [← Ny400.out] at ho30)); have n0_ := Aside0.mk (Kd.R_lower ho30 (below_size (bz1 HB.out GE393.out))); have n1_ := Aside0.mk (blk_below (g := gb393) (o := .cells #[.int .i64 a0_0, .int .i64 a0_1, .int .i64 a0_2, .int .i64 a0_3, .int .i64 a0_4, .string a0_5, .string a0_6] 43 (0, 0)) (kz BK393.out) hb); have n2_ := Aside0.mk (below_step (bz1 HB.out GE393.out) hb); clear BK393; clear HB; have HO402 := n0_; have BK393 := n1_; have HB := n2_; clear n0_ n1_ n2_; clear hb ho30) | ((with_reducible refine gate_dst (N := 52) rfl ?_); refine Kd.R_lit (Kd.int .i64) _ 3 ?hg (N := 52) ?hd (xs := ([1, 0] : List Int)) (inner := [.int .i64 1, .int .i64 0]) (ok := fun _ => True) (okp := fun _ => True) ?hr ?hp (fun _ hk => hk) trivial (Below.refl _ _) (Nat.le_refl _) (by simp) ?_; (case hd => rfl); (case hg => rfl); (case hr => first | (go_simp; done) | (go_simp; rfl)); (case hp => exact (Reps.one (show Kd.M (Kd.int .i64) _ _ _ 1 [.int .i64 1] from rfl) (Reps.one (show Kd.M (Kd.int .i64) _ _ _ 0 [.int .i64 0] from rfl) (Reps.none _ _)))); intro v404 w31 ho32 hb hg_ hnew_; clear hg_ hnew_; (first | rw [← Ny403.out] at ho32 | (simp only [Int.reduceToNat] at ho32; rw [← Ny403.out] at ho32)); have n0_ := Aside0.mk (Kd.R_below (rz HO402.out) hb); have n1_ := Aside0.mk (Kd.R_lower ho32 (below_size (bz1 HB.out GE393.out))); have n2_ := Aside0.mk (blk_below (g := gb393) (o := .cells #[.int .i64 a0_0, .int .i64 a0_1, .int .i64 a0_2, .int .i64 a0_3, .int .i64 a0_4, .string a0_5, .string a0_6] 43 (0, 0)) (kz BK393.out) hb); have n3_ := Aside0.mk (below_step (bz1 HB.out GE393.out) hb); clear HO402; clear BK393; clear HB; have HO402 := n0_; have HO405 := n1_; have BK393 := n2_; have HB := n3_; clear n0_ n1_ n2_ n3_; clear hb ho32))
         go_ret2
         exact ⟨_, _, gz, by (with_reducible repeat (first | apply Kd.R_alloc | apply Kd.R_drewN | apply Kd.R_drew)); exact HO402.out, by (with_reducible repeat (first | apply Kd.R_alloc | apply Kd.R_drewN | apply Kd.R_drew)); exact HO405.out, (bz1 HB.out GE393.out)⟩
        ·replace c27 := Bool.eq_false_iff.mpr c27
         subst c27
         have H1 : (if a0_0 = 6 then (some ((([a0_5] : List ByteArray)), (([0] : List Int)))) else (some (([] : List ByteArray), ([] : List Int)))) = some (r1, r2) := by rw [if_neg (show ¬ (false = true) by decide)] at H; exact H
         clear H
         have H := H1
         clear H1
         by_cases c33 : a0_0 = 6
         ·rw [if_pos c33] at H
          have c33b0 : (a0_0 == 6) = true := beq_iff_eq.mpr c33
          have c33b1 : (a0_0 != 6) = false := bne_eq_false_iff_eq.mpr c33
          clear c33
          obtain ⟨y406, hy406⟩ : ∃ y_ : List ByteArray, y_ = (([a0_5] : List ByteArray)) := ⟨_, rfl⟩
          replace H : (some (y406, (([0] : List Int)))) = some (r1, r2) := by first | (rw [hy406]; with_reducible exact H) | (have H2_ := (Option.bind_some _ _).symm.trans H; rw [hy406]; with_reducible exact H2_) | (have H2_ := (Option.bind_some _ _).symm.trans H; with_reducible exact H2_) | with_reducible exact H | (rw [hy406]; exact H) | exact H
          have Ny406 := Aside0.mk hy406
          clear hy406
          obtain ⟨y409, hy409⟩ : ∃ y_ : List Int, y_ = (([0] : List Int)) := ⟨_, rfl⟩
          replace H : (some (y406, y409)) = some (r1, r2) := by first | (rw [hy409]; with_reducible exact H) | (have H2_ := (Option.bind_some _ _).symm.trans H; rw [hy409]; with_reducible exact H2_) | (have H2_ := (Option.bind_some _ _).symm.trans H; with_reducible exact H2_) | with_reducible exact H | (rw [hy409]; exact H) | exact H
          have Ny409 := Aside0.mk hy409
          clear hy409
          simp only [Option.some.injEq, Prod.mk.injEq] at H
          obtain ⟨rfl, rfl⟩ := H
          have hcz34_0 : wc.cell? ⟨gb393, 0, none⟩ = some (.int .i64 a0_0) := (blk_cell BK393.out 0).trans rfl
          have hcz34_1 : wc.cell? ⟨gb393, 1, none⟩ = some (.int .i64 a0_1) := (blk_cell BK393.out 1).trans rfl
          have hcz34_2 : wc.cell? ⟨gb393, 2, none⟩ = some (.int .i64 a0_2) := (blk_cell BK393.out 2).trans rfl
          have hcz34_3 : wc.cell? ⟨gb393, 3, none⟩ = some (.int .i64 a0_3) := (blk_cell BK393.out 3).trans rfl
          have hcz34_4 : wc.cell? ⟨gb393, 4, none⟩ = some (.int .i64 a0_4) := (blk_cell BK393.out 4).trans rfl
          have hcz34_5 : wc.cell? ⟨gb393, 5, none⟩ = some (.string a0_5) := (blk_cell BK393.out 5).trans rfl
          have hcz34_6 : wc.cell? ⟨gb393, 6, none⟩ = some (.string a0_6) := (blk_cell BK393.out 6).trans rfl
          have hfz34_0 := blk_frozen BK393.out 0
          have hfz34_1 := blk_frozen BK393.out 1
          have hfz34_2 := blk_frozen BK393.out 2
          have hfz34_3 := blk_frozen BK393.out 3
          have hfz34_4 := blk_frozen BK393.out 4
          have hfz34_5 := blk_frozen BK393.out 5
          have hfz34_6 := blk_frozen BK393.out 6
          go_wp2_with (first | ((with_reducible refine gate_dst (N := 59) rfl ?_); refine Kd.R_lit Kd.string _ 9 ?hg (N := 59) ?hd (xs := ([a0_5] : List ByteArray)) (inner := [.string a0_5]) (ok := fun _ => True) (okp := fun _ => True) ?hr ?hp (fun _ hk => hk) trivial (Below.refl _ _) (Nat.le_refl _) (by simp) ?_; (case hd => rfl); (case hg => rfl); (case hr => first | (go_simp; done) | (go_simp; rfl)); (case hp => exact (Reps.one (show Kd.M Kd.string _ _ _ a0_5 [.string a0_5] from rfl) (Reps.none _ _))); intro v407 w35 ho36 hb hg_ hnew_; clear hg_ hnew_; (first | rw [← Ny406.out] at ho36 | (simp only [Int.reduceToNat] at ho36; rw [← Ny406.out] at ho36)); have n0_ := Aside0.mk (Kd.R_lower ho36 (below_size (bz1 HB.out GE393.out))); have n1_ := Aside0.mk (blk_below (g := gb393) (o := .cells #[.int .i64 a0_0, .int .i64 a0_1, .int .i64 a0_2, .int .i64 a0_3, .int .i64 a0_4, .string a0_5, .string a0_6] 43 (0, 0)) (kz BK393.out) hb); have n2_ := Aside0.mk (below_step (bz1 HB.out GE393.out) hb); clear BK393; clear HB; have HO408 := n0_; have BK393 := n1_; have HB := n2_; clear n0_ n1_ n2_; clear hb ho36) | ((with_reducible refine gate_dst (N := 60) rfl ?_); refine Kd.R_lit (Kd.int .i64) _ 3 ?hg (N := 60) ?hd (xs := ([0] : List Int)) (inner := [.int .i64 0]) (ok := fun _ => True) (okp := fun _ => True) ?hr ?hp (fun _ hk => hk) trivial (Below.refl _ _) (Nat.le_refl _) (by simp) ?_; (case hd => rfl); (case hg => rfl); (case hr => first | (go_simp; done) | (go_simp; rfl)); (case hp => exact (Reps.one (show Kd.M (Kd.int .i64) _ _ _ 0 [.int .i64 0] from rfl) (Reps.none _ _))); intro v410 w37 ho38 hb hg_ hnew_; clear hg_ hnew_; (first | rw [← Ny409.out] at ho38 | (simp only [Int.reduceToNat] at ho38; rw [← Ny409.out] at ho38)); have n0_ := Aside0.mk (Kd.R_below (rz HO408.out) hb); have n1_ := Aside0.mk (Kd.R_lower ho38 (below_size (bz1 HB.out GE393.out))); have n2_ := Aside0.mk (blk_below (g := gb393) (o := .cells #[.int .i64 a0_0, .int .i64 a0_1, .int .i64 a0_2, .int .i64 a0_3, .int .i64 a0_4, .string a0_5, .string a0_6] 43 (0, 0)) (kz BK393.out) hb); have n3_ := Aside0.mk (below_step (bz1 HB.out GE393.out) hb); clear HO408; clear BK393; clear HB; have HO408 := n0_; have HO411 := n1_; have BK393 := n2_; have HB := n3_; clear n0_ n1_ n2_ n3_; clear hb ho38))
          go_ret2
          exact ⟨_, _, gz, by (with_reducible repeat (first | apply Kd.R_alloc | apply Kd.R_drewN | apply Kd.R_drew)); exact HO408.out, by (with_reducible repeat (first | apply Kd.R_alloc | apply Kd.R_drewN | apply Kd.R_drew)); exact HO411.out, (bz1 HB.out GE393.out)⟩
         ·rw [if_neg c33] at H
          have c33b0 : (a0_0 == 6) = false := beq_eq_false_iff_ne.mpr c33
          have c33b1 : (a0_0 != 6) = true := bne_iff_ne.mpr c33
          simp only [Option.some.injEq, Prod.mk.injEq] at H
          obtain ⟨rfl, rfl⟩ := H
          have hcz39_0 : wc.cell? ⟨gb393, 0, none⟩ = some (.int .i64 a0_0) := (blk_cell BK393.out 0).trans rfl
          have hcz39_1 : wc.cell? ⟨gb393, 1, none⟩ = some (.int .i64 a0_1) := (blk_cell BK393.out 1).trans rfl
          have hcz39_2 : wc.cell? ⟨gb393, 2, none⟩ = some (.int .i64 a0_2) := (blk_cell BK393.out 2).trans rfl
          have hcz39_3 : wc.cell? ⟨gb393, 3, none⟩ = some (.int .i64 a0_3) := (blk_cell BK393.out 3).trans rfl
          have hcz39_4 : wc.cell? ⟨gb393, 4, none⟩ = some (.int .i64 a0_4) := (blk_cell BK393.out 4).trans rfl
          have hcz39_5 : wc.cell? ⟨gb393, 5, none⟩ = some (.string a0_5) := (blk_cell BK393.out 5).trans rfl
          have hcz39_6 : wc.cell? ⟨gb393, 6, none⟩ = some (.string a0_6) := (blk_cell BK393.out 6).trans rfl
          have hfz39_0 := blk_frozen BK393.out 0
          have hfz39_1 := blk_frozen BK393.out 1
          have hfz39_2 := blk_frozen BK393.out 2
          have hfz39_3 := blk_frozen BK393.out 3
          have hfz39_4 := blk_frozen BK393.out 4
          have hfz39_5 := blk_frozen BK393.out 5
          have hfz39_6 := blk_frozen BK393.out 6
          go_wp2
          go_ret2
          exact ⟨_, _, gz, by first | exact Kd.R_nil _ _ _ _ _ | exact Kd.N_nil _ _ _ _ _ | exact Kd.V_nil _ _ _ _ _ | exact Kd.Q_nil _ _ _ _ _ | exact Kd.S_nil _ _ _ _ _, by first | exact Kd.R_nil _ _ _ _ _ | exact Kd.N_nil _ _ _ _ _ | exact Kd.V_nil _ _ _ _ _ | exact Kd.Q_nil _ _ _ _ _ | exact Kd.S_nil _ _ _ _ _, (bz1 HB.out GE393.out)⟩
end Go.Proofs.YtmilegjmiiccdaaDoor.PFnExactFreeNames
