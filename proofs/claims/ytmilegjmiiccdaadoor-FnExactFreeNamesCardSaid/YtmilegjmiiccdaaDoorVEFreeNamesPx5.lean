/- PFnExactFreeNamesx5, of the words and walks that the law FnExactFreeNames needs; made by this session's program out of printed texts. -/

import Derived.Test.YtmilegjmiiccdaaDoorVEFreeNamesPx0
import Derived.Test.YtmilegjmiiccdaaDoorVEFreeNamesPx2
import Derived.Test.YtmilegjmiiccdaaDoorVEFreeNamesPx3
import Derived.Test.YtmilegjmiiccdaaDoorVEFreeNamesPx4
namespace Go.Proofs.YtmilegjmiiccdaaDoor.PFnExactFreeNames
open Go.RowKit Go.Proofs.YtmilegjmiiccdaaDoorW.PrintWords Go.Proofs.YtmilegjmiiccdaaDoorW.PrintLast Go.Proofs.YtmilegjmiiccdaaDoorW.PrintMore
attribute [local go_sem] max2_int min2_int max_two min_two max_three min_three max_four min_four
set_option linter.unusedVariables false
set_option linter.unusedSimpArgs false
mutual
def spec_l3Fields.j0 : Nat → Bool → Int → Int → Int → Int → Int → ByteArray → ByteArray → Option (Bool)
 | 0, _, _, _, _, _, _, _, _ => none
 | k + 1, x36, x162000, x162001, x162002, x162003, x162004, x162005, x162006 => if x36 = true then (some false) else ((spec_l3Names.f k x162000).bind fun t164 => ((spec_l3Name.f k x162005).bind fun t165 => (if ((decide (t164 > 0)) != t165) = true then (spec_l3Fields.j1 k true x162000 x162001 x162002 x162003 x162004 x162005 x162006) else (if t164 = 0 then (if x162005.toList = ([] : List UInt8) then ((spec_l3Name.f k x162006).bind fun t166 => (if ((decide (t164 > 1)) != t166) = true then (spec_l3Fields.j1 k true x162000 x162001 x162002 x162003 x162004 x162005 x162006) else (if t164 < 2 then (spec_l3Fields.j1 k (x162006.toList != ([] : List UInt8)) x162000 x162001 x162002 x162003 x162004 x162005 x162006) else (spec_l3Fields.j1 k false x162000 x162001 x162002 x162003 x162004 x162005 x162006)))) else (spec_l3Fields.j1 k true x162000 x162001 x162002 x162003 x162004 x162005 x162006)) else ((spec_l3Name.f k x162006).bind fun t167 => (if ((decide (t164 > 1)) != t167) = true then (spec_l3Fields.j1 k true x162000 x162001 x162002 x162003 x162004 x162005 x162006) else (if t164 < 2 then (spec_l3Fields.j1 k (x162006.toList != ([] : List UInt8)) x162000 x162001 x162002 x162003 x162004 x162005 x162006) else (spec_l3Fields.j1 k false x162000 x162001 x162002 x162003 x162004 x162005 x162006))))))))
def spec_l3Fields.j1 : Nat → Bool → Int → Int → Int → Int → Int → ByteArray → ByteArray → Option (Bool)
 | 0, _, _, _, _, _, _, _, _ => none
 | k + 1, x71, x162000, x162001, x162002, x162003, x162004, x162005, x162006 => if x71 = true then (some false) else (if x162000 = 2 then ((spec_l1In.f x162004 0 65535).bind fun t168 => (some t168)) else (if x162000 = 8 then ((spec_l1In.f x162004 0 3).bind fun t169 => (some t169)) else (some (x162004 == 0))))
end
def spec_l3Fields.f (k : Nat) (a0_0 : Int) (a0_1 : Int) (a0_2 : Int) (a0_3 : Int) (a0_4 : Int) (a0_5 : ByteArray) (a0_6 : ByteArray) : Option (Bool) := (spec_l1In.f a0_0 1 19).bind fun t162 => (if t162 = true then ((spec_Arity.f k a0_0).bind fun t163 => (if t163 < 1 then (if a0_1 = 0 then (if t163 < 2 then (if a0_2 = 0 then (if t163 < 3 then (spec_l3Fields.j0 k (a0_3 != 0) a0_0 a0_1 a0_2 a0_3 a0_4 a0_5 a0_6) else (spec_l3Fields.j0 k false a0_0 a0_1 a0_2 a0_3 a0_4 a0_5 a0_6)) else (spec_l3Fields.j0 k true a0_0 a0_1 a0_2 a0_3 a0_4 a0_5 a0_6)) else (if t163 < 3 then (spec_l3Fields.j0 k (a0_3 != 0) a0_0 a0_1 a0_2 a0_3 a0_4 a0_5 a0_6) else (spec_l3Fields.j0 k false a0_0 a0_1 a0_2 a0_3 a0_4 a0_5 a0_6))) else (spec_l3Fields.j0 k true a0_0 a0_1 a0_2 a0_3 a0_4 a0_5 a0_6)) else (if t163 < 2 then (if a0_2 = 0 then (if t163 < 3 then (spec_l3Fields.j0 k (a0_3 != 0) a0_0 a0_1 a0_2 a0_3 a0_4 a0_5 a0_6) else (spec_l3Fields.j0 k false a0_0 a0_1 a0_2 a0_3 a0_4 a0_5 a0_6)) else (spec_l3Fields.j0 k true a0_0 a0_1 a0_2 a0_3 a0_4 a0_5 a0_6)) else (if t163 < 3 then (spec_l3Fields.j0 k (a0_3 != 0) a0_0 a0_1 a0_2 a0_3 a0_4 a0_5 a0_6) else (spec_l3Fields.j0 k false a0_0 a0_1 a0_2 a0_3 a0_4 a0_5 a0_6))))) else (some false))
theorem spec_l3Fields.mono_l : ∀ k, (∀ y0 y1 y2 y3 y4 y5 y6 y7, LeO (spec_l3Fields.j0 k y0 y1 y2 y3 y4 y5 y6 y7) (spec_l3Fields.j0 (k + 1) y0 y1 y2 y3 y4 y5 y6 y7)) ∧ (∀ y0 y1 y2 y3 y4 y5 y6 y7, LeO (spec_l3Fields.j1 k y0 y1 y2 y3 y4 y5 y6 y7) (spec_l3Fields.j1 (k + 1) y0 y1 y2 y3 y4 y5 y6 y7))
 | 0 => ⟨fun _ _ _ _ _ _ _ _ r h => by simp [spec_l3Fields.j0] at h, fun _ _ _ _ _ _ _ _ r h => by simp [spec_l3Fields.j1] at h⟩
 | k + 1 => by
  obtain ⟨ih0, ih1⟩ := spec_l3Fields.mono_l k
  refine ⟨?_, ?_⟩
  ·intro y0 y1 y2 y3 y4 y5 y6 y7
   unfold spec_l3Fields.j0
   repeat' first
   | (with_reducible exact ih0 _ _ _ _ _ _ _ _)
   | (with_reducible exact ih1 _ _ _ _ _ _ _ _)
   | (with_reducible exact spec_Arity.mono _ _)
   | (with_reducible exact spec_l3Name.mono _ _)
   | (with_reducible exact spec_l3Names.mono _ _)
   | (with_reducible exact LeO.refl _)
   | (with_reducible exact LeO.none _)
   | (with_reducible refine LeO.ite ?_ ?_)
   | (with_reducible refine LeO.bind ?_ (fun _ => ?_))
   | exact ih0 _ _ _ _ _ _ _ _
   | exact ih1 _ _ _ _ _ _ _ _
   | exact spec_Arity.mono _ _
   | exact spec_l3Name.mono _ _
   | exact spec_l3Names.mono _ _
   | exact LeO.none _
   | refine LeO.ite ?_ ?_
   | refine LeO.bind ?_ (fun _ => ?_)
  ·intro y0 y1 y2 y3 y4 y5 y6 y7
   unfold spec_l3Fields.j1
   repeat' first
   | (with_reducible exact ih0 _ _ _ _ _ _ _ _)
   | (with_reducible exact ih1 _ _ _ _ _ _ _ _)
   | (with_reducible exact spec_Arity.mono _ _)
   | (with_reducible exact spec_l3Name.mono _ _)
   | (with_reducible exact spec_l3Names.mono _ _)
   | (with_reducible exact LeO.refl _)
   | (with_reducible exact LeO.none _)
   | (with_reducible refine LeO.ite ?_ ?_)
   | (with_reducible refine LeO.bind ?_ (fun _ => ?_))
   | exact ih0 _ _ _ _ _ _ _ _
   | exact ih1 _ _ _ _ _ _ _ _
   | exact spec_Arity.mono _ _
   | exact spec_l3Name.mono _ _
   | exact spec_l3Names.mono _ _
   | exact LeO.none _
   | refine LeO.ite ?_ ?_
   | refine LeO.bind ?_ (fun _ => ?_)
theorem spec_l3Fields.mono : ∀ a0 a1 a2 a3 a4 a5 a6 k, LeO (spec_l3Fields.f k a0 a1 a2 a3 a4 a5 a6) (spec_l3Fields.f (k + 1) a0 a1 a2 a3 a4 a5 a6) := by
 intro a0 a1 a2 a3 a4 a5 a6 k
 obtain ⟨ih0, ih1⟩ := spec_l3Fields.mono_l k
 unfold spec_l3Fields.f
 repeat' first
   | (with_reducible exact ih0 _ _ _ _ _ _ _ _)
   | (with_reducible exact ih1 _ _ _ _ _ _ _ _)
   | (with_reducible exact spec_Arity.mono _ _)
   | (with_reducible exact spec_l3Name.mono _ _)
   | (with_reducible exact spec_l3Names.mono _ _)
   | (with_reducible exact LeO.refl _)
   | (with_reducible exact LeO.none _)
   | (with_reducible refine LeO.ite ?_ ?_)
   | (with_reducible refine LeO.bind ?_ (fun _ => ?_))
   | exact ih0 _ _ _ _ _ _ _ _
   | exact ih1 _ _ _ _ _ _ _ _
   | exact spec_Arity.mono _ _
   | exact spec_l3Name.mono _ _
   | exact spec_l3Names.mono _ _
   | exact LeO.none _
   | refine LeO.ite ?_ ?_
   | refine LeO.bind ?_ (fun _ => ?_)
set_option maxHeartbeats 8000000 in
set_option maxRecDepth 100000 in
theorem spec_l3Fields.calls (k : Nat) (a0_0 : Int) (a0_1 : Int) (a0_2 : Int) (a0_3 : Int) (a0_4 : Int) (a0_5 : ByteArray) (a0_6 : ByteArray) (r : Bool) (w : World) (h : spec_l3Fields.f k a0_0 a0_1 a0_2 a0_3 a0_4 a0_5 a0_6 = some r) :
  Calls Tryd.prog 79 #[.agg #[.int .i64 a0_0, .int .i64 a0_1, .int .i64 a0_2, .int .i64 a0_3, .int .i64 a0_4, .string a0_5, .string a0_6]] w fun e w' => e = .returned (.bool r) ∧ Below w.heap.size w w' := by
 have hu43 := Tryd.underlying43
 have HB := Aside0.mk (Below.refl w.heap.size w)
 have H : ((spec_l1In.f a0_0 1 19).bind fun t162 => (if t162 = true then ((spec_Arity.f k a0_0).bind fun t163 => (if t163 < 1 then (if a0_1 = 0 then (if t163 < 2 then (if a0_2 = 0 then (if t163 < 3 then (spec_l3Fields.j0 k (a0_3 != 0) a0_0 a0_1 a0_2 a0_3 a0_4 a0_5 a0_6) else (spec_l3Fields.j0 k false a0_0 a0_1 a0_2 a0_3 a0_4 a0_5 a0_6)) else (spec_l3Fields.j0 k true a0_0 a0_1 a0_2 a0_3 a0_4 a0_5 a0_6)) else (if t163 < 3 then (spec_l3Fields.j0 k (a0_3 != 0) a0_0 a0_1 a0_2 a0_3 a0_4 a0_5 a0_6) else (spec_l3Fields.j0 k false a0_0 a0_1 a0_2 a0_3 a0_4 a0_5 a0_6))) else (spec_l3Fields.j0 k true a0_0 a0_1 a0_2 a0_3 a0_4 a0_5 a0_6)) else (if t163 < 2 then (if a0_2 = 0 then (if t163 < 3 then (spec_l3Fields.j0 k (a0_3 != 0) a0_0 a0_1 a0_2 a0_3 a0_4 a0_5 a0_6) else (spec_l3Fields.j0 k false a0_0 a0_1 a0_2 a0_3 a0_4 a0_5 a0_6)) else (spec_l3Fields.j0 k true a0_0 a0_1 a0_2 a0_3 a0_4 a0_5 a0_6)) else (if t163 < 3 then (spec_l3Fields.j0 k (a0_3 != 0) a0_0 a0_1 a0_2 a0_3 a0_4 a0_5 a0_6) else (spec_l3Fields.j0 k false a0_0 a0_1 a0_2 a0_3 a0_4 a0_5 a0_6))))) else (some false))) = some r := h
 clear h
 replace H := Option.bind_eq_some_iff.mp H
 obtain ⟨t162, A20, H⟩ := H
 replace H : (if t162 = true then ((spec_Arity.f k a0_0).bind fun t163 => (if t163 < 1 then (if a0_1 = 0 then (if t163 < 2 then (if a0_2 = 0 then (if t163 < 3 then (spec_l3Fields.j0 k (a0_3 != 0) a0_0 a0_1 a0_2 a0_3 a0_4 a0_5 a0_6) else (spec_l3Fields.j0 k false a0_0 a0_1 a0_2 a0_3 a0_4 a0_5 a0_6)) else (spec_l3Fields.j0 k true a0_0 a0_1 a0_2 a0_3 a0_4 a0_5 a0_6)) else (if t163 < 3 then (spec_l3Fields.j0 k (a0_3 != 0) a0_0 a0_1 a0_2 a0_3 a0_4 a0_5 a0_6) else (spec_l3Fields.j0 k false a0_0 a0_1 a0_2 a0_3 a0_4 a0_5 a0_6))) else (spec_l3Fields.j0 k true a0_0 a0_1 a0_2 a0_3 a0_4 a0_5 a0_6)) else (if t163 < 2 then (if a0_2 = 0 then (if t163 < 3 then (spec_l3Fields.j0 k (a0_3 != 0) a0_0 a0_1 a0_2 a0_3 a0_4 a0_5 a0_6) else (spec_l3Fields.j0 k false a0_0 a0_1 a0_2 a0_3 a0_4 a0_5 a0_6)) else (spec_l3Fields.j0 k true a0_0 a0_1 a0_2 a0_3 a0_4 a0_5 a0_6)) else (if t163 < 3 then (spec_l3Fields.j0 k (a0_3 != 0) a0_0 a0_1 a0_2 a0_3 a0_4 a0_5 a0_6) else (spec_l3Fields.j0 k false a0_0 a0_1 a0_2 a0_3 a0_4 a0_5 a0_6))))) else (some false)) = some r := H
 have A2 := Aside0.mk A20
 clear A20
 by_cases c3 : t162 = true
 ·subst c3
  have H1 : ((spec_Arity.f k a0_0).bind fun t163 => (if t163 < 1 then (if a0_1 = 0 then (if t163 < 2 then (if a0_2 = 0 then (if t163 < 3 then (spec_l3Fields.j0 k (a0_3 != 0) a0_0 a0_1 a0_2 a0_3 a0_4 a0_5 a0_6) else (spec_l3Fields.j0 k false a0_0 a0_1 a0_2 a0_3 a0_4 a0_5 a0_6)) else (spec_l3Fields.j0 k true a0_0 a0_1 a0_2 a0_3 a0_4 a0_5 a0_6)) else (if t163 < 3 then (spec_l3Fields.j0 k (a0_3 != 0) a0_0 a0_1 a0_2 a0_3 a0_4 a0_5 a0_6) else (spec_l3Fields.j0 k false a0_0 a0_1 a0_2 a0_3 a0_4 a0_5 a0_6))) else (spec_l3Fields.j0 k true a0_0 a0_1 a0_2 a0_3 a0_4 a0_5 a0_6)) else (if t163 < 2 then (if a0_2 = 0 then (if t163 < 3 then (spec_l3Fields.j0 k (a0_3 != 0) a0_0 a0_1 a0_2 a0_3 a0_4 a0_5 a0_6) else (spec_l3Fields.j0 k false a0_0 a0_1 a0_2 a0_3 a0_4 a0_5 a0_6)) else (spec_l3Fields.j0 k true a0_0 a0_1 a0_2 a0_3 a0_4 a0_5 a0_6)) else (if t163 < 3 then (spec_l3Fields.j0 k (a0_3 != 0) a0_0 a0_1 a0_2 a0_3 a0_4 a0_5 a0_6) else (spec_l3Fields.j0 k false a0_0 a0_1 a0_2 a0_3 a0_4 a0_5 a0_6))))) = some r := by rw [if_pos rfl] at H; exact H
  clear H
  have H := H1
  clear H1
  replace H := Option.bind_eq_some_iff.mp H
  obtain ⟨t163, A40, H⟩ := H
  replace H : (if t163 < 1 then (if a0_1 = 0 then (if t163 < 2 then (if a0_2 = 0 then (if t163 < 3 then (spec_l3Fields.j0 k (a0_3 != 0) a0_0 a0_1 a0_2 a0_3 a0_4 a0_5 a0_6) else (spec_l3Fields.j0 k false a0_0 a0_1 a0_2 a0_3 a0_4 a0_5 a0_6)) else (spec_l3Fields.j0 k true a0_0 a0_1 a0_2 a0_3 a0_4 a0_5 a0_6)) else (if t163 < 3 then (spec_l3Fields.j0 k (a0_3 != 0) a0_0 a0_1 a0_2 a0_3 a0_4 a0_5 a0_6) else (spec_l3Fields.j0 k false a0_0 a0_1 a0_2 a0_3 a0_4 a0_5 a0_6))) else (spec_l3Fields.j0 k true a0_0 a0_1 a0_2 a0_3 a0_4 a0_5 a0_6)) else (if t163 < 2 then (if a0_2 = 0 then (if t163 < 3 then (spec_l3Fields.j0 k (a0_3 != 0) a0_0 a0_1 a0_2 a0_3 a0_4 a0_5 a0_6) else (spec_l3Fields.j0 k false a0_0 a0_1 a0_2 a0_3 a0_4 a0_5 a0_6)) else (spec_l3Fields.j0 k true a0_0 a0_1 a0_2 a0_3 a0_4 a0_5 a0_6)) else (if t163 < 3 then (spec_l3Fields.j0 k (a0_3 != 0) a0_0 a0_1 a0_2 a0_3 a0_4 a0_5 a0_6) else (spec_l3Fields.j0 k false a0_0 a0_1 a0_2 a0_3 a0_4 a0_5 a0_6)))) = some r := H
  have A4 := Aside0.mk A40
  clear A40
  have HC5 := Aside0.mk H
  clear H
  go_enter Tryd.func79, Tryd.ntmps79
  go_upto_region 4 with (first | ((with_reducible refine gate_dst (N := 1) rfl ?_); refine box_event ?hg (N := 1) ?hd (cs := #[.int .i64 a0_0, .int .i64 a0_1, .int .i64 a0_2, .int .i64 a0_3, .int .i64 a0_4, .string a0_5, .string a0_6]) (t := 43) ?hr ?_; (case hd => rfl); (case hg => rfl); (case hr => first | (go_simp; done) | (go_simp; rfl)); intro gb161 hg w6 hbox hb; have n0_ := Aside0.mk (below_step (bz0 HB.out) hb); have n1_ := Aside0.mk (hbox); have n2_ := Aside0.mk ((by rw [hg]; exact (below_size (bz0 HB.out)) : w.heap.size ≤ gb161)); have n3_ := Aside0.mk ((by rw [hg]; exact (below_size (bz0 HB.out)) : w.heap.size ≤ gb161)); clear HB; have HB := n0_; have BK161 := n1_; have GW161 := n2_; have GE161 := n3_; clear n0_ n1_ n2_ n3_; clear hb hbox hg; have hcz7_0 : w6.cell? ⟨gb161, 0, none⟩ = some (.int .i64 a0_0) := (blk_cell BK161.out 0).trans rfl; have hcz7_1 : w6.cell? ⟨gb161, 1, none⟩ = some (.int .i64 a0_1) := (blk_cell BK161.out 1).trans rfl; have hcz7_2 : w6.cell? ⟨gb161, 2, none⟩ = some (.int .i64 a0_2) := (blk_cell BK161.out 2).trans rfl; have hcz7_3 : w6.cell? ⟨gb161, 3, none⟩ = some (.int .i64 a0_3) := (blk_cell BK161.out 3).trans rfl; have hcz7_4 : w6.cell? ⟨gb161, 4, none⟩ = some (.int .i64 a0_4) := (blk_cell BK161.out 4).trans rfl; have hcz7_5 : w6.cell? ⟨gb161, 5, none⟩ = some (.string a0_5) := (blk_cell BK161.out 5).trans rfl; have hcz7_6 : w6.cell? ⟨gb161, 6, none⟩ = some (.string a0_6) := (blk_cell BK161.out 6).trans rfl; have hfz7_0 := blk_frozen BK161.out 0; have hfz7_1 := blk_frozen BK161.out 1; have hfz7_2 := blk_frozen BK161.out 2; have hfz7_3 := blk_frozen BK161.out 3; have hfz7_4 := blk_frozen BK161.out 4; have hfz7_5 := blk_frozen BK161.out 5; have hfz7_6 := blk_frozen BK161.out 6) | ((with_reducible refine gate_callee (f := 39) rfl ?_); refine goesL_ (some 7) rfl rfl Tryd.func39 (by kernel_rfl) rfl #[.int .i64 a0_0, .int .i64 1, .int .i64 19] rfl lz ?_; (with_reducible refine (spec_l1In.calls a0_0 1 19 true _ A2.out).mono ?_); rintro e w' ⟨rfl, ⟨nd, rfl⟩⟩; refine ⟨_, rfl, ?_⟩) | ((with_reducible refine gate_callee (f := 80) rfl ?_); refine goesL_ (some 11) rfl rfl Tryd.func80 (by kernel_rfl) rfl #[.int .i64 a0_0] rfl lz ?_; (with_reducible refine (spec_Arity.calls k a0_0 t163 _ A4.out).mono ?_); rintro e w' ⟨rfl, ⟨nd, rfl⟩⟩; refine ⟨_, rfl, ?_⟩))
  (try simp only [Act.put, List.setIfInBounds_toArray, List.set_cons_zero, List.set_cons_succ])
  go_cut [36] (fun v36 wc => ∃ (kq : Nat) (x36_4 : Bool), v36 = .bool x36_4 ∧ Aside0 (spec_l3Fields.j0 kq x36_4 a0_0 a0_1 a0_2 a0_3 a0_4 a0_5 a0_6 = some r) ∧ Aside0 (kq ≤ k) ∧ Aside0 (wc.heap[gb161]? = some (.cells #[.int .i64 a0_0, .int .i64 a0_1, .int .i64 a0_2, .int .i64 a0_3, .int .i64 a0_4, .string a0_5, .string a0_6] 43 (0, 0))) ∧ Aside0 (Below w.heap.size w wc))
  case first =>
   have H := HC5.out
   clear HC5
   by_cases c8 : t163 < 1
   ·rw [if_pos c8] at H
    have c8b0 : decide (t163 < 1) = true := decide_eq_true c8
    clear c8
    (first | rw [c8b0] | (simp only [i64_w, i32_w]; rw [c8b0]) | skip)
    by_cases c9 : a0_1 = 0
    ·rw [if_pos c9] at H
     have c9b0 : (a0_1 == 0) = true := beq_iff_eq.mpr c9
     have c9b1 : (a0_1 != 0) = false := bne_eq_false_iff_eq.mpr c9
     clear c9
     by_cases c10 : t163 < 2
     ·rw [if_pos c10] at H
      have c10b0 : decide (t163 < 2) = true := decide_eq_true c10
      clear c10
      by_cases c11 : a0_2 = 0
      ·rw [if_pos c11] at H
       have c11b0 : (a0_2 == 0) = true := beq_iff_eq.mpr c11
       have c11b1 : (a0_2 != 0) = false := bne_eq_false_iff_eq.mpr c11
       clear c11
       by_cases c12 : t163 < 3
       ·rw [if_pos c12] at H
        have c12b0 : decide (t163 < 3) = true := decide_eq_true c12
        clear c12
        have H' := Aside0.mk H
        clear H
        have hcz13_0 : w6.cell? ⟨gb161, 0, none⟩ = some (.int .i64 a0_0) := (blk_cell BK161.out 0).trans rfl
        have hcz13_1 : w6.cell? ⟨gb161, 1, none⟩ = some (.int .i64 a0_1) := (blk_cell BK161.out 1).trans rfl
        have hcz13_2 : w6.cell? ⟨gb161, 2, none⟩ = some (.int .i64 a0_2) := (blk_cell BK161.out 2).trans rfl
        have hcz13_3 : w6.cell? ⟨gb161, 3, none⟩ = some (.int .i64 a0_3) := (blk_cell BK161.out 3).trans rfl
        have hcz13_4 : w6.cell? ⟨gb161, 4, none⟩ = some (.int .i64 a0_4) := (blk_cell BK161.out 4).trans rfl
        have hcz13_5 : w6.cell? ⟨gb161, 5, none⟩ = some (.string a0_5) := (blk_cell BK161.out 5).trans rfl
        have hcz13_6 : w6.cell? ⟨gb161, 6, none⟩ = some (.string a0_6) := (blk_cell BK161.out 6).trans rfl
        have hfz13_0 := blk_frozen BK161.out 0
        have hfz13_1 := blk_frozen BK161.out 1
        have hfz13_2 := blk_frozen BK161.out 2
        have hfz13_3 := blk_frozen BK161.out 3
        have hfz13_4 := blk_frozen BK161.out 4
        have hfz13_5 := blk_frozen BK161.out 5
        have hfz13_6 := blk_frozen BK161.out 6
        go_wp2
        go_meet
        case rel => exact ⟨_, ((a0_3 != 0)), ez, H', ⟨by first | omega | exact Nat.le_refl _⟩, ⟨by (with_reducible repeat (first | refine blk_drewN ?_ _ | refine blk_drew ?_ | refine blk_alloc ?_ _)); exact BK161.out⟩, ⟨(bz1 HB.out GE161.out)⟩⟩
       ·rw [if_neg c12] at H
        have c12b0 : decide (t163 < 3) = false := decide_eq_false c12
        clear c12
        have H' := Aside0.mk H
        clear H
        have hcz14_0 : w6.cell? ⟨gb161, 0, none⟩ = some (.int .i64 a0_0) := (blk_cell BK161.out 0).trans rfl
        have hcz14_1 : w6.cell? ⟨gb161, 1, none⟩ = some (.int .i64 a0_1) := (blk_cell BK161.out 1).trans rfl
        have hcz14_2 : w6.cell? ⟨gb161, 2, none⟩ = some (.int .i64 a0_2) := (blk_cell BK161.out 2).trans rfl
        have hcz14_3 : w6.cell? ⟨gb161, 3, none⟩ = some (.int .i64 a0_3) := (blk_cell BK161.out 3).trans rfl
        have hcz14_4 : w6.cell? ⟨gb161, 4, none⟩ = some (.int .i64 a0_4) := (blk_cell BK161.out 4).trans rfl
        have hcz14_5 : w6.cell? ⟨gb161, 5, none⟩ = some (.string a0_5) := (blk_cell BK161.out 5).trans rfl
        have hcz14_6 : w6.cell? ⟨gb161, 6, none⟩ = some (.string a0_6) := (blk_cell BK161.out 6).trans rfl
        have hfz14_0 := blk_frozen BK161.out 0
        have hfz14_1 := blk_frozen BK161.out 1
        have hfz14_2 := blk_frozen BK161.out 2
        have hfz14_3 := blk_frozen BK161.out 3
        have hfz14_4 := blk_frozen BK161.out 4
        have hfz14_5 := blk_frozen BK161.out 5
        have hfz14_6 := blk_frozen BK161.out 6
        go_wp2
        go_meet
        case rel => exact ⟨_, (false), ez, H', ⟨by first | omega | exact Nat.le_refl _⟩, ⟨by (with_reducible repeat (first | refine blk_drewN ?_ _ | refine blk_drew ?_ | refine blk_alloc ?_ _)); exact BK161.out⟩, ⟨(bz1 HB.out GE161.out)⟩⟩
      ·rw [if_neg c11] at H
       have c11b0 : (a0_2 == 0) = false := beq_eq_false_iff_ne.mpr c11
       have c11b1 : (a0_2 != 0) = true := bne_iff_ne.mpr c11
       have H' := Aside0.mk H
       clear H
       have hcz15_0 : w6.cell? ⟨gb161, 0, none⟩ = some (.int .i64 a0_0) := (blk_cell BK161.out 0).trans rfl
       have hcz15_1 : w6.cell? ⟨gb161, 1, none⟩ = some (.int .i64 a0_1) := (blk_cell BK161.out 1).trans rfl
       have hcz15_2 : w6.cell? ⟨gb161, 2, none⟩ = some (.int .i64 a0_2) := (blk_cell BK161.out 2).trans rfl
       have hcz15_3 : w6.cell? ⟨gb161, 3, none⟩ = some (.int .i64 a0_3) := (blk_cell BK161.out 3).trans rfl
       have hcz15_4 : w6.cell? ⟨gb161, 4, none⟩ = some (.int .i64 a0_4) := (blk_cell BK161.out 4).trans rfl
       have hcz15_5 : w6.cell? ⟨gb161, 5, none⟩ = some (.string a0_5) := (blk_cell BK161.out 5).trans rfl
       have hcz15_6 : w6.cell? ⟨gb161, 6, none⟩ = some (.string a0_6) := (blk_cell BK161.out 6).trans rfl
       have hfz15_0 := blk_frozen BK161.out 0
       have hfz15_1 := blk_frozen BK161.out 1
       have hfz15_2 := blk_frozen BK161.out 2
       have hfz15_3 := blk_frozen BK161.out 3
       have hfz15_4 := blk_frozen BK161.out 4
       have hfz15_5 := blk_frozen BK161.out 5
       have hfz15_6 := blk_frozen BK161.out 6
       go_wp2
       go_meet
       case rel => exact ⟨_, (true), ez, H', ⟨by first | omega | exact Nat.le_refl _⟩, ⟨by (with_reducible repeat (first | refine blk_drewN ?_ _ | refine blk_drew ?_ | refine blk_alloc ?_ _)); exact BK161.out⟩, ⟨(bz1 HB.out GE161.out)⟩⟩
     ·rw [if_neg c10] at H
      have c10b0 : decide (t163 < 2) = false := decide_eq_false c10
      clear c10
      by_cases c16 : t163 < 3
      ·rw [if_pos c16] at H
       have c16b0 : decide (t163 < 3) = true := decide_eq_true c16
       clear c16
       have H' := Aside0.mk H
       clear H
       have hcz17_0 : w6.cell? ⟨gb161, 0, none⟩ = some (.int .i64 a0_0) := (blk_cell BK161.out 0).trans rfl
       have hcz17_1 : w6.cell? ⟨gb161, 1, none⟩ = some (.int .i64 a0_1) := (blk_cell BK161.out 1).trans rfl
       have hcz17_2 : w6.cell? ⟨gb161, 2, none⟩ = some (.int .i64 a0_2) := (blk_cell BK161.out 2).trans rfl
       have hcz17_3 : w6.cell? ⟨gb161, 3, none⟩ = some (.int .i64 a0_3) := (blk_cell BK161.out 3).trans rfl
       have hcz17_4 : w6.cell? ⟨gb161, 4, none⟩ = some (.int .i64 a0_4) := (blk_cell BK161.out 4).trans rfl
       have hcz17_5 : w6.cell? ⟨gb161, 5, none⟩ = some (.string a0_5) := (blk_cell BK161.out 5).trans rfl
       have hcz17_6 : w6.cell? ⟨gb161, 6, none⟩ = some (.string a0_6) := (blk_cell BK161.out 6).trans rfl
       have hfz17_0 := blk_frozen BK161.out 0
       have hfz17_1 := blk_frozen BK161.out 1
       have hfz17_2 := blk_frozen BK161.out 2
       have hfz17_3 := blk_frozen BK161.out 3
       have hfz17_4 := blk_frozen BK161.out 4
       have hfz17_5 := blk_frozen BK161.out 5
       have hfz17_6 := blk_frozen BK161.out 6
       go_wp2
       go_meet
       case rel => exact ⟨_, ((a0_3 != 0)), ez, H', ⟨by first | omega | exact Nat.le_refl _⟩, ⟨by (with_reducible repeat (first | refine blk_drewN ?_ _ | refine blk_drew ?_ | refine blk_alloc ?_ _)); exact BK161.out⟩, ⟨(bz1 HB.out GE161.out)⟩⟩
      ·rw [if_neg c16] at H
       have c16b0 : decide (t163 < 3) = false := decide_eq_false c16
       clear c16
       have H' := Aside0.mk H
       clear H
       have hcz18_0 : w6.cell? ⟨gb161, 0, none⟩ = some (.int .i64 a0_0) := (blk_cell BK161.out 0).trans rfl
       have hcz18_1 : w6.cell? ⟨gb161, 1, none⟩ = some (.int .i64 a0_1) := (blk_cell BK161.out 1).trans rfl
       have hcz18_2 : w6.cell? ⟨gb161, 2, none⟩ = some (.int .i64 a0_2) := (blk_cell BK161.out 2).trans rfl
       have hcz18_3 : w6.cell? ⟨gb161, 3, none⟩ = some (.int .i64 a0_3) := (blk_cell BK161.out 3).trans rfl
       have hcz18_4 : w6.cell? ⟨gb161, 4, none⟩ = some (.int .i64 a0_4) := (blk_cell BK161.out 4).trans rfl
       have hcz18_5 : w6.cell? ⟨gb161, 5, none⟩ = some (.string a0_5) := (blk_cell BK161.out 5).trans rfl
       have hcz18_6 : w6.cell? ⟨gb161, 6, none⟩ = some (.string a0_6) := (blk_cell BK161.out 6).trans rfl
       have hfz18_0 := blk_frozen BK161.out 0
       have hfz18_1 := blk_frozen BK161.out 1
       have hfz18_2 := blk_frozen BK161.out 2
       have hfz18_3 := blk_frozen BK161.out 3
       have hfz18_4 := blk_frozen BK161.out 4
       have hfz18_5 := blk_frozen BK161.out 5
       have hfz18_6 := blk_frozen BK161.out 6
       go_wp2
       go_meet
       case rel => exact ⟨_, (false), ez, H', ⟨by first | omega | exact Nat.le_refl _⟩, ⟨by (with_reducible repeat (first | refine blk_drewN ?_ _ | refine blk_drew ?_ | refine blk_alloc ?_ _)); exact BK161.out⟩, ⟨(bz1 HB.out GE161.out)⟩⟩
    ·rw [if_neg c9] at H
     have c9b0 : (a0_1 == 0) = false := beq_eq_false_iff_ne.mpr c9
     have c9b1 : (a0_1 != 0) = true := bne_iff_ne.mpr c9
     have H' := Aside0.mk H
     clear H
     have hcz19_0 : w6.cell? ⟨gb161, 0, none⟩ = some (.int .i64 a0_0) := (blk_cell BK161.out 0).trans rfl
     have hcz19_1 : w6.cell? ⟨gb161, 1, none⟩ = some (.int .i64 a0_1) := (blk_cell BK161.out 1).trans rfl
     have hcz19_2 : w6.cell? ⟨gb161, 2, none⟩ = some (.int .i64 a0_2) := (blk_cell BK161.out 2).trans rfl
     have hcz19_3 : w6.cell? ⟨gb161, 3, none⟩ = some (.int .i64 a0_3) := (blk_cell BK161.out 3).trans rfl
     have hcz19_4 : w6.cell? ⟨gb161, 4, none⟩ = some (.int .i64 a0_4) := (blk_cell BK161.out 4).trans rfl
     have hcz19_5 : w6.cell? ⟨gb161, 5, none⟩ = some (.string a0_5) := (blk_cell BK161.out 5).trans rfl
     have hcz19_6 : w6.cell? ⟨gb161, 6, none⟩ = some (.string a0_6) := (blk_cell BK161.out 6).trans rfl
     have hfz19_0 := blk_frozen BK161.out 0
     have hfz19_1 := blk_frozen BK161.out 1
     have hfz19_2 := blk_frozen BK161.out 2
     have hfz19_3 := blk_frozen BK161.out 3
     have hfz19_4 := blk_frozen BK161.out 4
     have hfz19_5 := blk_frozen BK161.out 5
     have hfz19_6 := blk_frozen BK161.out 6
     go_wp2
     go_meet
     case rel => exact ⟨_, (true), ez, H', ⟨by first | omega | exact Nat.le_refl _⟩, ⟨by (with_reducible repeat (first | refine blk_drewN ?_ _ | refine blk_drew ?_ | refine blk_alloc ?_ _)); exact BK161.out⟩, ⟨(bz1 HB.out GE161.out)⟩⟩
   ·rw [if_neg c8] at H
    have c8b0 : decide (t163 < 1) = false := decide_eq_false c8
    clear c8
    (first | rw [c8b0] | (simp only [i64_w, i32_w]; rw [c8b0]) | skip)
    by_cases c20 : t163 < 2
    ·rw [if_pos c20] at H
     have c20b0 : decide (t163 < 2) = true := decide_eq_true c20
     clear c20
     by_cases c21 : a0_2 = 0
     ·rw [if_pos c21] at H
      have c21b0 : (a0_2 == 0) = true := beq_iff_eq.mpr c21
      have c21b1 : (a0_2 != 0) = false := bne_eq_false_iff_eq.mpr c21
      clear c21
      by_cases c22 : t163 < 3
      ·rw [if_pos c22] at H
       have c22b0 : decide (t163 < 3) = true := decide_eq_true c22
       clear c22
       have H' := Aside0.mk H
       clear H
       have hcz23_0 : w6.cell? ⟨gb161, 0, none⟩ = some (.int .i64 a0_0) := (blk_cell BK161.out 0).trans rfl
       have hcz23_1 : w6.cell? ⟨gb161, 1, none⟩ = some (.int .i64 a0_1) := (blk_cell BK161.out 1).trans rfl
       have hcz23_2 : w6.cell? ⟨gb161, 2, none⟩ = some (.int .i64 a0_2) := (blk_cell BK161.out 2).trans rfl
       have hcz23_3 : w6.cell? ⟨gb161, 3, none⟩ = some (.int .i64 a0_3) := (blk_cell BK161.out 3).trans rfl
       have hcz23_4 : w6.cell? ⟨gb161, 4, none⟩ = some (.int .i64 a0_4) := (blk_cell BK161.out 4).trans rfl
       have hcz23_5 : w6.cell? ⟨gb161, 5, none⟩ = some (.string a0_5) := (blk_cell BK161.out 5).trans rfl
       have hcz23_6 : w6.cell? ⟨gb161, 6, none⟩ = some (.string a0_6) := (blk_cell BK161.out 6).trans rfl
       have hfz23_0 := blk_frozen BK161.out 0
       have hfz23_1 := blk_frozen BK161.out 1
       have hfz23_2 := blk_frozen BK161.out 2
       have hfz23_3 := blk_frozen BK161.out 3
       have hfz23_4 := blk_frozen BK161.out 4
       have hfz23_5 := blk_frozen BK161.out 5
       have hfz23_6 := blk_frozen BK161.out 6
       go_wp2
       go_meet
       case rel => exact ⟨_, ((a0_3 != 0)), ez, H', ⟨by first | omega | exact Nat.le_refl _⟩, ⟨by (with_reducible repeat (first | refine blk_drewN ?_ _ | refine blk_drew ?_ | refine blk_alloc ?_ _)); exact BK161.out⟩, ⟨(bz1 HB.out GE161.out)⟩⟩
      ·rw [if_neg c22] at H
       have c22b0 : decide (t163 < 3) = false := decide_eq_false c22
       clear c22
       have H' := Aside0.mk H
       clear H
       have hcz24_0 : w6.cell? ⟨gb161, 0, none⟩ = some (.int .i64 a0_0) := (blk_cell BK161.out 0).trans rfl
       have hcz24_1 : w6.cell? ⟨gb161, 1, none⟩ = some (.int .i64 a0_1) := (blk_cell BK161.out 1).trans rfl
       have hcz24_2 : w6.cell? ⟨gb161, 2, none⟩ = some (.int .i64 a0_2) := (blk_cell BK161.out 2).trans rfl
       have hcz24_3 : w6.cell? ⟨gb161, 3, none⟩ = some (.int .i64 a0_3) := (blk_cell BK161.out 3).trans rfl
       have hcz24_4 : w6.cell? ⟨gb161, 4, none⟩ = some (.int .i64 a0_4) := (blk_cell BK161.out 4).trans rfl
       have hcz24_5 : w6.cell? ⟨gb161, 5, none⟩ = some (.string a0_5) := (blk_cell BK161.out 5).trans rfl
       have hcz24_6 : w6.cell? ⟨gb161, 6, none⟩ = some (.string a0_6) := (blk_cell BK161.out 6).trans rfl
       have hfz24_0 := blk_frozen BK161.out 0
       have hfz24_1 := blk_frozen BK161.out 1
       have hfz24_2 := blk_frozen BK161.out 2
       have hfz24_3 := blk_frozen BK161.out 3
       have hfz24_4 := blk_frozen BK161.out 4
       have hfz24_5 := blk_frozen BK161.out 5
       have hfz24_6 := blk_frozen BK161.out 6
       go_wp2
       go_meet
       case rel => exact ⟨_, (false), ez, H', ⟨by first | omega | exact Nat.le_refl _⟩, ⟨by (with_reducible repeat (first | refine blk_drewN ?_ _ | refine blk_drew ?_ | refine blk_alloc ?_ _)); exact BK161.out⟩, ⟨(bz1 HB.out GE161.out)⟩⟩
     ·rw [if_neg c21] at H
      have c21b0 : (a0_2 == 0) = false := beq_eq_false_iff_ne.mpr c21
      have c21b1 : (a0_2 != 0) = true := bne_iff_ne.mpr c21
      have H' := Aside0.mk H
      clear H
      have hcz25_0 : w6.cell? ⟨gb161, 0, none⟩ = some (.int .i64 a0_0) := (blk_cell BK161.out 0).trans rfl
      have hcz25_1 : w6.cell? ⟨gb161, 1, none⟩ = some (.int .i64 a0_1) := (blk_cell BK161.out 1).trans rfl
      have hcz25_2 : w6.cell? ⟨gb161, 2, none⟩ = some (.int .i64 a0_2) := (blk_cell BK161.out 2).trans rfl
      have hcz25_3 : w6.cell? ⟨gb161, 3, none⟩ = some (.int .i64 a0_3) := (blk_cell BK161.out 3).trans rfl
      have hcz25_4 : w6.cell? ⟨gb161, 4, none⟩ = some (.int .i64 a0_4) := (blk_cell BK161.out 4).trans rfl
      have hcz25_5 : w6.cell? ⟨gb161, 5, none⟩ = some (.string a0_5) := (blk_cell BK161.out 5).trans rfl
      have hcz25_6 : w6.cell? ⟨gb161, 6, none⟩ = some (.string a0_6) := (blk_cell BK161.out 6).trans rfl
      have hfz25_0 := blk_frozen BK161.out 0
      have hfz25_1 := blk_frozen BK161.out 1
      have hfz25_2 := blk_frozen BK161.out 2
      have hfz25_3 := blk_frozen BK161.out 3
      have hfz25_4 := blk_frozen BK161.out 4
      have hfz25_5 := blk_frozen BK161.out 5
      have hfz25_6 := blk_frozen BK161.out 6
      go_wp2
      go_meet
      case rel => exact ⟨_, (true), ez, H', ⟨by first | omega | exact Nat.le_refl _⟩, ⟨by (with_reducible repeat (first | refine blk_drewN ?_ _ | refine blk_drew ?_ | refine blk_alloc ?_ _)); exact BK161.out⟩, ⟨(bz1 HB.out GE161.out)⟩⟩
    ·rw [if_neg c20] at H
     have c20b0 : decide (t163 < 2) = false := decide_eq_false c20
     clear c20
     by_cases c26 : t163 < 3
     ·rw [if_pos c26] at H
      have c26b0 : decide (t163 < 3) = true := decide_eq_true c26
      clear c26
      have H' := Aside0.mk H
      clear H
      have hcz27_0 : w6.cell? ⟨gb161, 0, none⟩ = some (.int .i64 a0_0) := (blk_cell BK161.out 0).trans rfl
      have hcz27_1 : w6.cell? ⟨gb161, 1, none⟩ = some (.int .i64 a0_1) := (blk_cell BK161.out 1).trans rfl
      have hcz27_2 : w6.cell? ⟨gb161, 2, none⟩ = some (.int .i64 a0_2) := (blk_cell BK161.out 2).trans rfl
      have hcz27_3 : w6.cell? ⟨gb161, 3, none⟩ = some (.int .i64 a0_3) := (blk_cell BK161.out 3).trans rfl
      have hcz27_4 : w6.cell? ⟨gb161, 4, none⟩ = some (.int .i64 a0_4) := (blk_cell BK161.out 4).trans rfl
      have hcz27_5 : w6.cell? ⟨gb161, 5, none⟩ = some (.string a0_5) := (blk_cell BK161.out 5).trans rfl
      have hcz27_6 : w6.cell? ⟨gb161, 6, none⟩ = some (.string a0_6) := (blk_cell BK161.out 6).trans rfl
      have hfz27_0 := blk_frozen BK161.out 0
      have hfz27_1 := blk_frozen BK161.out 1
      have hfz27_2 := blk_frozen BK161.out 2
      have hfz27_3 := blk_frozen BK161.out 3
      have hfz27_4 := blk_frozen BK161.out 4
      have hfz27_5 := blk_frozen BK161.out 5
      have hfz27_6 := blk_frozen BK161.out 6
      go_wp2
      go_meet
      case rel => exact ⟨_, ((a0_3 != 0)), ez, H', ⟨by first | omega | exact Nat.le_refl _⟩, ⟨by (with_reducible repeat (first | refine blk_drewN ?_ _ | refine blk_drew ?_ | refine blk_alloc ?_ _)); exact BK161.out⟩, ⟨(bz1 HB.out GE161.out)⟩⟩
     ·rw [if_neg c26] at H
      have c26b0 : decide (t163 < 3) = false := decide_eq_false c26
      clear c26
      have H' := Aside0.mk H
      clear H
      go_wp2
      go_meet
      case rel => exact ⟨_, (false), ez, H', ⟨by first | omega | exact Nat.le_refl _⟩, ⟨by (with_reducible repeat (first | refine blk_drewN ?_ _ | refine blk_drew ?_ | refine blk_alloc ?_ _)); exact BK161.out⟩, ⟨(bz1 HB.out GE161.out)⟩⟩
  case rest =>
   clear HC5
   try clear c1
   try clear c2
   try clear p2
   try clear c3
   try clear c7
   try clear c8
   try clear c8b0
   try clear c9
   try clear c9b0
   try clear c9b1
   try clear c10
   try clear c10b0
   try clear c11
   try clear c11b0
   try clear c11b1
   try clear c12
   try clear c12b0
   try clear c16
   try clear c16b0
   try clear c20
   try clear c20b0
   try clear c21
   try clear c21b0
   try clear c21b1
   try clear c22
   try clear c22b0
   try clear c26
   try clear c26b0
   try clear hcz13_0
   try clear hcz13_1
   try clear hcz13_2
   try clear hcz13_3
   try clear hcz13_4
   try clear hcz13_5
   try clear hcz13_6
   try clear hcz14_0
   try clear hcz14_1
   try clear hcz14_2
   try clear hcz14_3
   try clear hcz14_4
   try clear hcz14_5
   try clear hcz14_6
   try clear hcz15_0
   try clear hcz15_1
   try clear hcz15_2
   try clear hcz15_3
   try clear hcz15_4
   try clear hcz15_5
   try clear hcz15_6
   try clear hcz17_0
   try clear hcz17_1
   try clear hcz17_2
   try clear hcz17_3
   try clear hcz17_4
   try clear hcz17_5
   try clear hcz17_6
   try clear hcz18_0
   try clear hcz18_1
   try clear hcz18_2
   try clear hcz18_3
   try clear hcz18_4
   try clear hcz18_5
   try clear hcz18_6
   try clear hcz19_0
   try clear hcz19_1
   try clear hcz19_2
   try clear hcz19_3
   try clear hcz19_4
   try clear hcz19_5
   try clear hcz19_6
   try clear hcz23_0
   try clear hcz23_1
   try clear hcz23_2
   try clear hcz23_3
   try clear hcz23_4
   try clear hcz23_5
   try clear hcz23_6
   try clear hcz24_0
   try clear hcz24_1
   try clear hcz24_2
   try clear hcz24_3
   try clear hcz24_4
   try clear hcz24_5
   try clear hcz24_6
   try clear hcz25_0
   try clear hcz25_1
   try clear hcz25_2
   try clear hcz25_3
   try clear hcz25_4
   try clear hcz25_5
   try clear hcz25_6
   try clear hcz27_0
   try clear hcz27_1
   try clear hcz27_2
   try clear hcz27_3
   try clear hcz27_4
   try clear hcz27_5
   try clear hcz27_6
   try clear hcz7_0
   try clear hcz7_1
   try clear hcz7_2
   try clear hcz7_3
   try clear hcz7_4
   try clear hcz7_5
   try clear hcz7_6
   try clear hfz13_0
   try clear hfz13_1
   try clear hfz13_2
   try clear hfz13_3
   try clear hfz13_4
   try clear hfz13_5
   try clear hfz13_6
   try clear hfz14_0
   try clear hfz14_1
   try clear hfz14_2
   try clear hfz14_3
   try clear hfz14_4
   try clear hfz14_5
   try clear hfz14_6
   try clear hfz15_0
   try clear hfz15_1
   try clear hfz15_2
   try clear hfz15_3
   try clear hfz15_4
   try clear hfz15_5
   try clear hfz15_6
   try clear hfz17_0
   try clear hfz17_1
   try clear hfz17_2
   try clear hfz17_3
   try clear hfz17_4
   try clear hfz17_5
   try clear hfz17_6
   try clear hfz18_0
   try clear hfz18_1
   try clear hfz18_2
   try clear hfz18_3
   try clear hfz18_4
   try clear hfz18_5
   try clear hfz18_6
   try clear hfz19_0
   try clear hfz19_1
   try clear hfz19_2
   try clear hfz19_3
   try clear hfz19_4
   try clear hfz19_5
   try clear hfz19_6
   try clear hfz23_0
   try clear hfz23_1
   try clear hfz23_2
   try clear hfz23_3
   try clear hfz23_4
   try clear hfz23_5
   try clear hfz23_6
   try clear hfz24_0
   try clear hfz24_1
   try clear hfz24_2
   try clear hfz24_3
   try clear hfz24_4
   try clear hfz24_5
   try clear hfz24_6
   try clear hfz25_0
   try clear hfz25_1
   try clear hfz25_2
   try clear hfz25_3
   try clear hfz25_4
   try clear hfz25_5
   try clear hfz25_6
   try clear hfz27_0
   try clear hfz27_1
   try clear hfz27_2
   try clear hfz27_3
   try clear hfz27_4
   try clear hfz27_5
   try clear hfz27_6
   try clear hfz7_0
   try clear hfz7_1
   try clear hfz7_2
   try clear hfz7_3
   try clear hfz7_4
   try clear hfz7_5
   try clear hfz7_6
   obtain ⟨kq, x36_4, rfl, HA, HJ4, BK161, HB⟩ := hcut
   cases kq with
   | zero => exact absurd HA.out (by simp [spec_l3Fields.j0])
   | succ kj4 =>
    have H := HA.out
    clear HA
    simp only [spec_l3Fields.j0] at H
    by_cases c28 : x36_4 = true
    ·subst c28
     have H1 : (some false) = some r := by rw [if_pos rfl] at H; exact H
     clear H
     have H := H1
     clear H1
     obtain rfl := Option.some.inj H
     go_wp2
     go_ret
     exact ⟨gz, (bz1 HB.out GE161.out)⟩
    ·replace c28 := Bool.eq_false_iff.mpr c28
     subst c28
     have H1 : ((spec_l3Names.f kj4 a0_0).bind fun t164 => ((spec_l3Name.f kj4 a0_5).bind fun t165 => (if ((decide (t164 > 0)) != t165) = true then (spec_l3Fields.j1 kj4 true a0_0 a0_1 a0_2 a0_3 a0_4 a0_5 a0_6) else (if t164 = 0 then (if a0_5.toList = ([] : List UInt8) then ((spec_l3Name.f kj4 a0_6).bind fun t166 => (if ((decide (t164 > 1)) != t166) = true then (spec_l3Fields.j1 kj4 true a0_0 a0_1 a0_2 a0_3 a0_4 a0_5 a0_6) else (if t164 < 2 then (spec_l3Fields.j1 kj4 (a0_6.toList != ([] : List UInt8)) a0_0 a0_1 a0_2 a0_3 a0_4 a0_5 a0_6) else (spec_l3Fields.j1 kj4 false a0_0 a0_1 a0_2 a0_3 a0_4 a0_5 a0_6)))) else (spec_l3Fields.j1 kj4 true a0_0 a0_1 a0_2 a0_3 a0_4 a0_5 a0_6)) else ((spec_l3Name.f kj4 a0_6).bind fun t167 => (if ((decide (t164 > 1)) != t167) = true then (spec_l3Fields.j1 kj4 true a0_0 a0_1 a0_2 a0_3 a0_4 a0_5 a0_6) else (if t164 < 2 then (spec_l3Fields.j1 kj4 (a0_6.toList != ([] : List UInt8)) a0_0 a0_1 a0_2 a0_3 a0_4 a0_5 a0_6) else (spec_l3Fields.j1 kj4 false a0_0 a0_1 a0_2 a0_3 a0_4 a0_5 a0_6)))))))) = some r := by rw [if_neg (show ¬ (false = true) by decide)] at H; exact H
     clear H
     have H := H1
     clear H1
     replace H := Option.bind_eq_some_iff.mp H
     obtain ⟨t164, A290, H⟩ := H
     replace H : ((spec_l3Name.f kj4 a0_5).bind fun t165 => (if ((decide (t164 > 0)) != t165) = true then (spec_l3Fields.j1 kj4 true a0_0 a0_1 a0_2 a0_3 a0_4 a0_5 a0_6) else (if t164 = 0 then (if a0_5.toList = ([] : List UInt8) then ((spec_l3Name.f kj4 a0_6).bind fun t166 => (if ((decide (t164 > 1)) != t166) = true then (spec_l3Fields.j1 kj4 true a0_0 a0_1 a0_2 a0_3 a0_4 a0_5 a0_6) else (if t164 < 2 then (spec_l3Fields.j1 kj4 (a0_6.toList != ([] : List UInt8)) a0_0 a0_1 a0_2 a0_3 a0_4 a0_5 a0_6) else (spec_l3Fields.j1 kj4 false a0_0 a0_1 a0_2 a0_3 a0_4 a0_5 a0_6)))) else (spec_l3Fields.j1 kj4 true a0_0 a0_1 a0_2 a0_3 a0_4 a0_5 a0_6)) else ((spec_l3Name.f kj4 a0_6).bind fun t167 => (if ((decide (t164 > 1)) != t167) = true then (spec_l3Fields.j1 kj4 true a0_0 a0_1 a0_2 a0_3 a0_4 a0_5 a0_6) else (if t164 < 2 then (spec_l3Fields.j1 kj4 (a0_6.toList != ([] : List UInt8)) a0_0 a0_1 a0_2 a0_3 a0_4 a0_5 a0_6) else (spec_l3Fields.j1 kj4 false a0_0 a0_1 a0_2 a0_3 a0_4 a0_5 a0_6))))))) = some r := H
     have A29 := Aside0.mk A290
     clear A290
     have HC30 := Aside0.mk H
     clear H
     have hcz31_0 : wc.cell? ⟨gb161, 0, none⟩ = some (.int .i64 a0_0) := (blk_cell BK161.out 0).trans rfl
     have hcz31_1 : wc.cell? ⟨gb161, 1, none⟩ = some (.int .i64 a0_1) := (blk_cell BK161.out 1).trans rfl
     have hcz31_2 : wc.cell? ⟨gb161, 2, none⟩ = some (.int .i64 a0_2) := (blk_cell BK161.out 2).trans rfl
     have hcz31_3 : wc.cell? ⟨gb161, 3, none⟩ = some (.int .i64 a0_3) := (blk_cell BK161.out 3).trans rfl
     have hcz31_4 : wc.cell? ⟨gb161, 4, none⟩ = some (.int .i64 a0_4) := (blk_cell BK161.out 4).trans rfl
     have hcz31_5 : wc.cell? ⟨gb161, 5, none⟩ = some (.string a0_5) := (blk_cell BK161.out 5).trans rfl
     have hcz31_6 : wc.cell? ⟨gb161, 6, none⟩ = some (.string a0_6) := (blk_cell BK161.out 6).trans rfl
     have hfz31_0 := blk_frozen BK161.out 0
     have hfz31_1 := blk_frozen BK161.out 1
     have hfz31_2 := blk_frozen BK161.out 2
     have hfz31_3 := blk_frozen BK161.out 3
     have hfz31_4 := blk_frozen BK161.out 4
     have hfz31_5 := blk_frozen BK161.out 5
     have hfz31_6 := blk_frozen BK161.out 6
     go_upto_region 7 with (first | ((with_reducible refine gate_callee (f := 91) rfl ?_); refine goesL_ (some 39) rfl rfl Tryd.func91 (by kernel_rfl) rfl #[.int .i64 a0_0] rfl lz ?_; (with_reducible refine (spec_l3Names.calls kj4 a0_0 t164 _ A29.out).mono ?_); rintro e w' ⟨rfl, ⟨nd, rfl⟩⟩; refine ⟨_, rfl, ?_⟩))
     (try simp only [Act.put, List.setIfInBounds_toArray, List.set_cons_zero, List.set_cons_succ])
     go_cut [71] (fun v71 wc => ∃ (kq : Nat) (x71_29 : Bool), v71 = .bool x71_29 ∧ Aside0 (spec_l3Fields.j1 kq x71_29 a0_0 a0_1 a0_2 a0_3 a0_4 a0_5 a0_6 = some r) ∧ Aside0 (kq ≤ kj4) ∧ Aside0 (wc.heap[gb161]? = some (.cells #[.int .i64 a0_0, .int .i64 a0_1, .int .i64 a0_2, .int .i64 a0_3, .int .i64 a0_4, .string a0_5, .string a0_6] 43 (0, 0))) ∧ Aside0 (Below w.heap.size w wc))
     case first =>
      have H := HC30.out
      clear HC30
      replace H := Option.bind_eq_some_iff.mp H
      obtain ⟨t165, A320, H⟩ := H
      replace H : (if ((decide (t164 > 0)) != t165) = true then (spec_l3Fields.j1 kj4 true a0_0 a0_1 a0_2 a0_3 a0_4 a0_5 a0_6) else (if t164 = 0 then (if a0_5.toList = ([] : List UInt8) then ((spec_l3Name.f kj4 a0_6).bind fun t166 => (if ((decide (t164 > 1)) != t166) = true then (spec_l3Fields.j1 kj4 true a0_0 a0_1 a0_2 a0_3 a0_4 a0_5 a0_6) else (if t164 < 2 then (spec_l3Fields.j1 kj4 (a0_6.toList != ([] : List UInt8)) a0_0 a0_1 a0_2 a0_3 a0_4 a0_5 a0_6) else (spec_l3Fields.j1 kj4 false a0_0 a0_1 a0_2 a0_3 a0_4 a0_5 a0_6)))) else (spec_l3Fields.j1 kj4 true a0_0 a0_1 a0_2 a0_3 a0_4 a0_5 a0_6)) else ((spec_l3Name.f kj4 a0_6).bind fun t167 => (if ((decide (t164 > 1)) != t167) = true then (spec_l3Fields.j1 kj4 true a0_0 a0_1 a0_2 a0_3 a0_4 a0_5 a0_6) else (if t164 < 2 then (spec_l3Fields.j1 kj4 (a0_6.toList != ([] : List UInt8)) a0_0 a0_1 a0_2 a0_3 a0_4 a0_5 a0_6) else (spec_l3Fields.j1 kj4 false a0_0 a0_1 a0_2 a0_3 a0_4 a0_5 a0_6)))))) = some r := H
      have A32 := Aside0.mk A320
      clear A320
      by_cases c33 : ((decide (t164 > 0)) != t165) = true
      ·rw [if_pos c33] at H
       have c33b0 : ((decide (t164 > 0)) != t165) = true := c33
       (try (have c33b1 : decide ((decide (t164 > 0)) = t165) = false := by simpa using c33))
       (try (have c33b2 : ((decide (t164 > 0)) == t165) = false := by simpa using c33))
       (try (have c33b3 : ¬ ((decide (t164 > 0)) = t165) := by simpa using c33))
       clear c33
       (first | rw [c33b0] | (simp only [i64_w, i32_w]; rw [c33b0]) | skip)
       have H' := Aside0.mk H
       clear H
       have hcz34_0 : wc.cell? ⟨gb161, 0, none⟩ = some (.int .i64 a0_0) := (blk_cell BK161.out 0).trans rfl
       have hcz34_1 : wc.cell? ⟨gb161, 1, none⟩ = some (.int .i64 a0_1) := (blk_cell BK161.out 1).trans rfl
       have hcz34_2 : wc.cell? ⟨gb161, 2, none⟩ = some (.int .i64 a0_2) := (blk_cell BK161.out 2).trans rfl
       have hcz34_3 : wc.cell? ⟨gb161, 3, none⟩ = some (.int .i64 a0_3) := (blk_cell BK161.out 3).trans rfl
       have hcz34_4 : wc.cell? ⟨gb161, 4, none⟩ = some (.int .i64 a0_4) := (blk_cell BK161.out 4).trans rfl
       have hcz34_5 : wc.cell? ⟨gb161, 5, none⟩ = some (.string a0_5) := (blk_cell BK161.out 5).trans rfl
       have hcz34_6 : wc.cell? ⟨gb161, 6, none⟩ = some (.string a0_6) := (blk_cell BK161.out 6).trans rfl
       have hfz34_0 := blk_frozen BK161.out 0
       have hfz34_1 := blk_frozen BK161.out 1
       have hfz34_2 := blk_frozen BK161.out 2
       have hfz34_3 := blk_frozen BK161.out 3
       have hfz34_4 := blk_frozen BK161.out 4
       have hfz34_5 := blk_frozen BK161.out 5
       have hfz34_6 := blk_frozen BK161.out 6
       go_wp2_with (first | ((with_reducible refine gate_callee (f := 92) rfl ?_); refine goesL_ (some 44) rfl rfl Tryd.func92 (by kernel_rfl) rfl #[.string a0_5] rfl lz ?_; (with_reducible refine (spec_l3Name.calls kj4 a0_5 t165 _ A32.out).mono ?_); rintro e w35 ⟨rfl, hb⟩; refine ⟨_, rfl, ?_⟩; have n0_ := Aside0.mk (blk_below (g := gb161) (o := .cells #[.int .i64 a0_0, .int .i64 a0_1, .int .i64 a0_2, .int .i64 a0_3, .int .i64 a0_4, .string a0_5, .string a0_6] 43 (0, 0)) (kz BK161.out) hb); have n1_ := Aside0.mk (below_step (bz1 HB.out GE161.out) hb); clear BK161; clear HB; have BK161 := n0_; have HB := n1_; clear n0_ n1_; (try clear hb); (try clear hb2); (try clear hk); (try clear hi)))
       go_meet
       case rel => exact ⟨_, (true), ez, H', ⟨by have := HJ4.out; first | omega | exact Nat.le_refl _⟩, ⟨by (with_reducible repeat (first | refine blk_drewN ?_ _ | refine blk_drew ?_ | refine blk_alloc ?_ _)); exact BK161.out⟩, ⟨(bz1 HB.out GE161.out)⟩⟩
      ·rw [if_neg c33] at H
       have c33b0 : ((decide (t164 > 0)) != t165) = false := by simpa using c33
       (try (have c33b1 : decide ((decide (t164 > 0)) = t165) = true := by simpa using c33))
       (try (have c33b2 : ((decide (t164 > 0)) == t165) = true := by simpa using c33))
       clear c33
       (first | rw [c33b0] | (simp only [i64_w, i32_w]; rw [c33b0]) | skip)
       by_cases c36 : t164 = 0
       ·rw [if_pos c36] at H
        have c36b0 : (t164 == 0) = true := beq_iff_eq.mpr c36
        have c36b1 : (t164 != 0) = false := bne_eq_false_iff_eq.mpr c36
        clear c36
        by_cases c37 : a0_5.toList = ([] : List UInt8)
        ·rw [if_pos c37] at H
         have c37b0 : (a0_5.toList == ([] : List UInt8)) = true := beq_iff_eq.mpr c37
         have c37b1 : (a0_5.toList != ([] : List UInt8)) = false := bne_eq_false_iff_eq.mpr c37
         clear c37
         replace H := Option.bind_eq_some_iff.mp H
         obtain ⟨t166, A380, H⟩ := H
         replace H : (if ((decide (t164 > 1)) != t166) = true then (spec_l3Fields.j1 kj4 true a0_0 a0_1 a0_2 a0_3 a0_4 a0_5 a0_6) else (if t164 < 2 then (spec_l3Fields.j1 kj4 (a0_6.toList != ([] : List UInt8)) a0_0 a0_1 a0_2 a0_3 a0_4 a0_5 a0_6) else (spec_l3Fields.j1 kj4 false a0_0 a0_1 a0_2 a0_3 a0_4 a0_5 a0_6))) = some r := H
         have A38 := Aside0.mk A380
         clear A380
         by_cases c39 : ((decide (t164 > 1)) != t166) = true
         ·rw [if_pos c39] at H
          have c39b0 : ((decide (t164 > 1)) != t166) = true := c39
          (try (have c39b1 : decide ((decide (t164 > 1)) = t166) = false := by simpa using c39))
          (try (have c39b2 : ((decide (t164 > 1)) == t166) = false := by simpa using c39))
          (try (have c39b3 : ¬ ((decide (t164 > 1)) = t166) := by simpa using c39))
          clear c39
          have H' := Aside0.mk H
          clear H
          have hcz40_0 : wc.cell? ⟨gb161, 0, none⟩ = some (.int .i64 a0_0) := (blk_cell BK161.out 0).trans rfl
          have hcz40_1 : wc.cell? ⟨gb161, 1, none⟩ = some (.int .i64 a0_1) := (blk_cell BK161.out 1).trans rfl
          have hcz40_2 : wc.cell? ⟨gb161, 2, none⟩ = some (.int .i64 a0_2) := (blk_cell BK161.out 2).trans rfl
          have hcz40_3 : wc.cell? ⟨gb161, 3, none⟩ = some (.int .i64 a0_3) := (blk_cell BK161.out 3).trans rfl
          have hcz40_4 : wc.cell? ⟨gb161, 4, none⟩ = some (.int .i64 a0_4) := (blk_cell BK161.out 4).trans rfl
          have hcz40_5 : wc.cell? ⟨gb161, 5, none⟩ = some (.string a0_5) := (blk_cell BK161.out 5).trans rfl
          have hcz40_6 : wc.cell? ⟨gb161, 6, none⟩ = some (.string a0_6) := (blk_cell BK161.out 6).trans rfl
          have hfz40_0 := blk_frozen BK161.out 0
          have hfz40_1 := blk_frozen BK161.out 1
          have hfz40_2 := blk_frozen BK161.out 2
          have hfz40_3 := blk_frozen BK161.out 3
          have hfz40_4 := blk_frozen BK161.out 4
          have hfz40_5 := blk_frozen BK161.out 5
          have hfz40_6 := blk_frozen BK161.out 6
          go_wp2_with (first | ((with_reducible refine gate_callee (f := 92) rfl ?_); refine goesL_ (some 44) rfl rfl Tryd.func92 (by kernel_rfl) rfl #[.string a0_5] rfl lz ?_; (with_reducible refine (spec_l3Name.calls kj4 a0_5 t165 _ A32.out).mono ?_); rintro e w41 ⟨rfl, hb⟩; refine ⟨_, rfl, ?_⟩; have n0_ := Aside0.mk (blk_below (g := gb161) (o := .cells #[.int .i64 a0_0, .int .i64 a0_1, .int .i64 a0_2, .int .i64 a0_3, .int .i64 a0_4, .string a0_5, .string a0_6] 43 (0, 0)) (kz BK161.out) hb); have n1_ := Aside0.mk (below_step (bz1 HB.out GE161.out) hb); clear BK161; clear HB; have BK161 := n0_; have HB := n1_; clear n0_ n1_; (try clear hb); (try clear hb2); (try clear hk); (try clear hi); have hcz42_0 : w41.cell? ⟨gb161, 0, none⟩ = some (.int .i64 a0_0) := (blk_cell BK161.out 0).trans rfl; have hcz42_1 : w41.cell? ⟨gb161, 1, none⟩ = some (.int .i64 a0_1) := (blk_cell BK161.out 1).trans rfl; have hcz42_2 : w41.cell? ⟨gb161, 2, none⟩ = some (.int .i64 a0_2) := (blk_cell BK161.out 2).trans rfl; have hcz42_3 : w41.cell? ⟨gb161, 3, none⟩ = some (.int .i64 a0_3) := (blk_cell BK161.out 3).trans rfl; have hcz42_4 : w41.cell? ⟨gb161, 4, none⟩ = some (.int .i64 a0_4) := (blk_cell BK161.out 4).trans rfl; have hcz42_5 : w41.cell? ⟨gb161, 5, none⟩ = some (.string a0_5) := (blk_cell BK161.out 5).trans rfl; have hcz42_6 : w41.cell? ⟨gb161, 6, none⟩ = some (.string a0_6) := (blk_cell BK161.out 6).trans rfl; have hfz42_0 := blk_frozen BK161.out 0; have hfz42_1 := blk_frozen BK161.out 1; have hfz42_2 := blk_frozen BK161.out 2; have hfz42_3 := blk_frozen BK161.out 3; have hfz42_4 := blk_frozen BK161.out 4; have hfz42_5 := blk_frozen BK161.out 5; have hfz42_6 := blk_frozen BK161.out 6) | (go_at_call 92; (with_reducible refine (spec_l3Name.calls kj4 a0_6 t166 _ A38.out).mono ?_); rintro e w43 ⟨rfl, hb⟩; have n0_ := Aside0.mk (blk_below (g := gb161) (o := .cells #[.int .i64 a0_0, .int .i64 a0_1, .int .i64 a0_2, .int .i64 a0_3, .int .i64 a0_4, .string a0_5, .string a0_6] 43 (0, 0)) (kz BK161.out) hb); have n1_ := Aside0.mk (below_step (bz1 HB.out GE161.out) hb); clear BK161; clear HB; have BK161 := n0_; have HB := n1_; clear n0_ n1_; (try clear hb); (try clear hb2); (try clear hk); (try clear hi)))
          go_meet
          case rel => exact ⟨_, (true), ez, H', ⟨by have := HJ4.out; first | omega | exact Nat.le_refl _⟩, ⟨by (with_reducible repeat (first | refine blk_drewN ?_ _ | refine blk_drew ?_ | refine blk_alloc ?_ _)); exact BK161.out⟩, ⟨(bz1 HB.out GE161.out)⟩⟩
         ·rw [if_neg c39] at H
          have c39b0 : ((decide (t164 > 1)) != t166) = false := by simpa using c39
          (try (have c39b1 : decide ((decide (t164 > 1)) = t166) = true := by simpa using c39))
          (try (have c39b2 : ((decide (t164 > 1)) == t166) = true := by simpa using c39))
          clear c39
          by_cases c44 : t164 < 2
          ·rw [if_pos c44] at H
           have c44b0 : decide (t164 < 2) = true := decide_eq_true c44
           clear c44
           have H' := Aside0.mk H
           clear H
           have hcz45_0 : wc.cell? ⟨gb161, 0, none⟩ = some (.int .i64 a0_0) := (blk_cell BK161.out 0).trans rfl
           have hcz45_1 : wc.cell? ⟨gb161, 1, none⟩ = some (.int .i64 a0_1) := (blk_cell BK161.out 1).trans rfl
           have hcz45_2 : wc.cell? ⟨gb161, 2, none⟩ = some (.int .i64 a0_2) := (blk_cell BK161.out 2).trans rfl
           have hcz45_3 : wc.cell? ⟨gb161, 3, none⟩ = some (.int .i64 a0_3) := (blk_cell BK161.out 3).trans rfl
           have hcz45_4 : wc.cell? ⟨gb161, 4, none⟩ = some (.int .i64 a0_4) := (blk_cell BK161.out 4).trans rfl
           have hcz45_5 : wc.cell? ⟨gb161, 5, none⟩ = some (.string a0_5) := (blk_cell BK161.out 5).trans rfl
           have hcz45_6 : wc.cell? ⟨gb161, 6, none⟩ = some (.string a0_6) := (blk_cell BK161.out 6).trans rfl
           have hfz45_0 := blk_frozen BK161.out 0
           have hfz45_1 := blk_frozen BK161.out 1
           have hfz45_2 := blk_frozen BK161.out 2
           have hfz45_3 := blk_frozen BK161.out 3
           have hfz45_4 := blk_frozen BK161.out 4
           have hfz45_5 := blk_frozen BK161.out 5
           have hfz45_6 := blk_frozen BK161.out 6
           go_wp2_with (first | ((with_reducible refine gate_callee (f := 92) rfl ?_); refine goesL_ (some 44) rfl rfl Tryd.func92 (by kernel_rfl) rfl #[.string a0_5] rfl lz ?_; (with_reducible refine (spec_l3Name.calls kj4 a0_5 t165 _ A32.out).mono ?_); rintro e w46 ⟨rfl, hb⟩; refine ⟨_, rfl, ?_⟩; have n0_ := Aside0.mk (blk_below (g := gb161) (o := .cells #[.int .i64 a0_0, .int .i64 a0_1, .int .i64 a0_2, .int .i64 a0_3, .int .i64 a0_4, .string a0_5, .string a0_6] 43 (0, 0)) (kz BK161.out) hb); have n1_ := Aside0.mk (below_step (bz1 HB.out GE161.out) hb); clear BK161; clear HB; have BK161 := n0_; have HB := n1_; clear n0_ n1_; (try clear hb); (try clear hb2); (try clear hk); (try clear hi); have hcz47_0 : w46.cell? ⟨gb161, 0, none⟩ = some (.int .i64 a0_0) := (blk_cell BK161.out 0).trans rfl; have hcz47_1 : w46.cell? ⟨gb161, 1, none⟩ = some (.int .i64 a0_1) := (blk_cell BK161.out 1).trans rfl; have hcz47_2 : w46.cell? ⟨gb161, 2, none⟩ = some (.int .i64 a0_2) := (blk_cell BK161.out 2).trans rfl; have hcz47_3 : w46.cell? ⟨gb161, 3, none⟩ = some (.int .i64 a0_3) := (blk_cell BK161.out 3).trans rfl; have hcz47_4 : w46.cell? ⟨gb161, 4, none⟩ = some (.int .i64 a0_4) := (blk_cell BK161.out 4).trans rfl; have hcz47_5 : w46.cell? ⟨gb161, 5, none⟩ = some (.string a0_5) := (blk_cell BK161.out 5).trans rfl; have hcz47_6 : w46.cell? ⟨gb161, 6, none⟩ = some (.string a0_6) := (blk_cell BK161.out 6).trans rfl; have hfz47_0 := blk_frozen BK161.out 0; have hfz47_1 := blk_frozen BK161.out 1; have hfz47_2 := blk_frozen BK161.out 2; have hfz47_3 := blk_frozen BK161.out 3; have hfz47_4 := blk_frozen BK161.out 4; have hfz47_5 := blk_frozen BK161.out 5; have hfz47_6 := blk_frozen BK161.out 6) | (go_at_call 92; (with_reducible refine (spec_l3Name.calls kj4 a0_6 t166 _ A38.out).mono ?_); rintro e w48 ⟨rfl, hb⟩; have n0_ := Aside0.mk (blk_below (g := gb161) (o := .cells #[.int .i64 a0_0, .int .i64 a0_1, .int .i64 a0_2, .int .i64 a0_3, .int .i64 a0_4, .string a0_5, .string a0_6] 43 (0, 0)) (kz BK161.out) hb); have n1_ := Aside0.mk (below_step (bz1 HB.out GE161.out) hb); clear BK161; clear HB; have BK161 := n0_; have HB := n1_; clear n0_ n1_; (try clear hb); (try clear hb2); (try clear hk); (try clear hi); have hcz49_0 : w48.cell? ⟨gb161, 0, none⟩ = some (.int .i64 a0_0) := (blk_cell BK161.out 0).trans rfl; have hcz49_1 : w48.cell? ⟨gb161, 1, none⟩ = some (.int .i64 a0_1) := (blk_cell BK161.out 1).trans rfl; have hcz49_2 : w48.cell? ⟨gb161, 2, none⟩ = some (.int .i64 a0_2) := (blk_cell BK161.out 2).trans rfl; have hcz49_3 : w48.cell? ⟨gb161, 3, none⟩ = some (.int .i64 a0_3) := (blk_cell BK161.out 3).trans rfl; have hcz49_4 : w48.cell? ⟨gb161, 4, none⟩ = some (.int .i64 a0_4) := (blk_cell BK161.out 4).trans rfl; have hcz49_5 : w48.cell? ⟨gb161, 5, none⟩ = some (.string a0_5) := (blk_cell BK161.out 5).trans rfl; have hcz49_6 : w48.cell? ⟨gb161, 6, none⟩ = some (.string a0_6) := (blk_cell BK161.out 6).trans rfl; have hfz49_0 := blk_frozen BK161.out 0; have hfz49_1 := blk_frozen BK161.out 1; have hfz49_2 := blk_frozen BK161.out 2; have hfz49_3 := blk_frozen BK161.out 3; have hfz49_4 := blk_frozen BK161.out 4; have hfz49_5 := blk_frozen BK161.out 5; have hfz49_6 := blk_frozen BK161.out 6))
           go_meet
           case rel => exact ⟨_, ((a0_6.toList != ([] : List UInt8))), ez, H', ⟨by have := HJ4.out; first | omega | exact Nat.le_refl _⟩, ⟨by (with_reducible repeat (first | refine blk_drewN ?_ _ | refine blk_drew ?_ | refine blk_alloc ?_ _)); exact BK161.out⟩, ⟨(bz1 HB.out GE161.out)⟩⟩
          ·rw [if_neg c44] at H
           have c44b0 : decide (t164 < 2) = false := decide_eq_false c44
           clear c44
           have H' := Aside0.mk H
           clear H
           have hcz50_0 : wc.cell? ⟨gb161, 0, none⟩ = some (.int .i64 a0_0) := (blk_cell BK161.out 0).trans rfl
           have hcz50_1 : wc.cell? ⟨gb161, 1, none⟩ = some (.int .i64 a0_1) := (blk_cell BK161.out 1).trans rfl
           have hcz50_2 : wc.cell? ⟨gb161, 2, none⟩ = some (.int .i64 a0_2) := (blk_cell BK161.out 2).trans rfl
           have hcz50_3 : wc.cell? ⟨gb161, 3, none⟩ = some (.int .i64 a0_3) := (blk_cell BK161.out 3).trans rfl
           have hcz50_4 : wc.cell? ⟨gb161, 4, none⟩ = some (.int .i64 a0_4) := (blk_cell BK161.out 4).trans rfl
           have hcz50_5 : wc.cell? ⟨gb161, 5, none⟩ = some (.string a0_5) := (blk_cell BK161.out 5).trans rfl
           have hcz50_6 : wc.cell? ⟨gb161, 6, none⟩ = some (.string a0_6) := (blk_cell BK161.out 6).trans rfl
           have hfz50_0 := blk_frozen BK161.out 0
           have hfz50_1 := blk_frozen BK161.out 1
           have hfz50_2 := blk_frozen BK161.out 2
           have hfz50_3 := blk_frozen BK161.out 3
           have hfz50_4 := blk_frozen BK161.out 4
           have hfz50_5 := blk_frozen BK161.out 5
           have hfz50_6 := blk_frozen BK161.out 6
           go_wp2_with (first | ((with_reducible refine gate_callee (f := 92) rfl ?_); refine goesL_ (some 44) rfl rfl Tryd.func92 (by kernel_rfl) rfl #[.string a0_5] rfl lz ?_; (with_reducible refine (spec_l3Name.calls kj4 a0_5 t165 _ A32.out).mono ?_); rintro e w51 ⟨rfl, hb⟩; refine ⟨_, rfl, ?_⟩; have n0_ := Aside0.mk (blk_below (g := gb161) (o := .cells #[.int .i64 a0_0, .int .i64 a0_1, .int .i64 a0_2, .int .i64 a0_3, .int .i64 a0_4, .string a0_5, .string a0_6] 43 (0, 0)) (kz BK161.out) hb); have n1_ := Aside0.mk (below_step (bz1 HB.out GE161.out) hb); clear BK161; clear HB; have BK161 := n0_; have HB := n1_; clear n0_ n1_; (try clear hb); (try clear hb2); (try clear hk); (try clear hi); have hcz52_0 : w51.cell? ⟨gb161, 0, none⟩ = some (.int .i64 a0_0) := (blk_cell BK161.out 0).trans rfl; have hcz52_1 : w51.cell? ⟨gb161, 1, none⟩ = some (.int .i64 a0_1) := (blk_cell BK161.out 1).trans rfl; have hcz52_2 : w51.cell? ⟨gb161, 2, none⟩ = some (.int .i64 a0_2) := (blk_cell BK161.out 2).trans rfl; have hcz52_3 : w51.cell? ⟨gb161, 3, none⟩ = some (.int .i64 a0_3) := (blk_cell BK161.out 3).trans rfl; have hcz52_4 : w51.cell? ⟨gb161, 4, none⟩ = some (.int .i64 a0_4) := (blk_cell BK161.out 4).trans rfl; have hcz52_5 : w51.cell? ⟨gb161, 5, none⟩ = some (.string a0_5) := (blk_cell BK161.out 5).trans rfl; have hcz52_6 : w51.cell? ⟨gb161, 6, none⟩ = some (.string a0_6) := (blk_cell BK161.out 6).trans rfl; have hfz52_0 := blk_frozen BK161.out 0; have hfz52_1 := blk_frozen BK161.out 1; have hfz52_2 := blk_frozen BK161.out 2; have hfz52_3 := blk_frozen BK161.out 3; have hfz52_4 := blk_frozen BK161.out 4; have hfz52_5 := blk_frozen BK161.out 5; have hfz52_6 := blk_frozen BK161.out 6) | (go_at_call 92; (with_reducible refine (spec_l3Name.calls kj4 a0_6 t166 _ A38.out).mono ?_); rintro e w53 ⟨rfl, hb⟩; have n0_ := Aside0.mk (blk_below (g := gb161) (o := .cells #[.int .i64 a0_0, .int .i64 a0_1, .int .i64 a0_2, .int .i64 a0_3, .int .i64 a0_4, .string a0_5, .string a0_6] 43 (0, 0)) (kz BK161.out) hb); have n1_ := Aside0.mk (below_step (bz1 HB.out GE161.out) hb); clear BK161; clear HB; have BK161 := n0_; have HB := n1_; clear n0_ n1_; (try clear hb); (try clear hb2); (try clear hk); (try clear hi)))
           go_meet
           case rel => exact ⟨_, (false), ez, H', ⟨by have := HJ4.out; first | omega | exact Nat.le_refl _⟩, ⟨by (with_reducible repeat (first | refine blk_drewN ?_ _ | refine blk_drew ?_ | refine blk_alloc ?_ _)); exact BK161.out⟩, ⟨(bz1 HB.out GE161.out)⟩⟩
        ·rw [if_neg c37] at H
         have c37b0 : (a0_5.toList == ([] : List UInt8)) = false := beq_eq_false_iff_ne.mpr c37
         have c37b1 : (a0_5.toList != ([] : List UInt8)) = true := bne_iff_ne.mpr c37
         have H' := Aside0.mk H
         clear H
         have hcz54_0 : wc.cell? ⟨gb161, 0, none⟩ = some (.int .i64 a0_0) := (blk_cell BK161.out 0).trans rfl
         have hcz54_1 : wc.cell? ⟨gb161, 1, none⟩ = some (.int .i64 a0_1) := (blk_cell BK161.out 1).trans rfl
         have hcz54_2 : wc.cell? ⟨gb161, 2, none⟩ = some (.int .i64 a0_2) := (blk_cell BK161.out 2).trans rfl
         have hcz54_3 : wc.cell? ⟨gb161, 3, none⟩ = some (.int .i64 a0_3) := (blk_cell BK161.out 3).trans rfl
         have hcz54_4 : wc.cell? ⟨gb161, 4, none⟩ = some (.int .i64 a0_4) := (blk_cell BK161.out 4).trans rfl
         have hcz54_5 : wc.cell? ⟨gb161, 5, none⟩ = some (.string a0_5) := (blk_cell BK161.out 5).trans rfl
         have hcz54_6 : wc.cell? ⟨gb161, 6, none⟩ = some (.string a0_6) := (blk_cell BK161.out 6).trans rfl
         have hfz54_0 := blk_frozen BK161.out 0
         have hfz54_1 := blk_frozen BK161.out 1
         have hfz54_2 := blk_frozen BK161.out 2
         have hfz54_3 := blk_frozen BK161.out 3
         have hfz54_4 := blk_frozen BK161.out 4
         have hfz54_5 := blk_frozen BK161.out 5
         have hfz54_6 := blk_frozen BK161.out 6
         go_wp2_with (first | ((with_reducible refine gate_callee (f := 92) rfl ?_); refine goesL_ (some 44) rfl rfl Tryd.func92 (by kernel_rfl) rfl #[.string a0_5] rfl lz ?_; (with_reducible refine (spec_l3Name.calls kj4 a0_5 t165 _ A32.out).mono ?_); rintro e w55 ⟨rfl, hb⟩; refine ⟨_, rfl, ?_⟩; have n0_ := Aside0.mk (blk_below (g := gb161) (o := .cells #[.int .i64 a0_0, .int .i64 a0_1, .int .i64 a0_2, .int .i64 a0_3, .int .i64 a0_4, .string a0_5, .string a0_6] 43 (0, 0)) (kz BK161.out) hb); have n1_ := Aside0.mk (below_step (bz1 HB.out GE161.out) hb); clear BK161; clear HB; have BK161 := n0_; have HB := n1_; clear n0_ n1_; (try clear hb); (try clear hb2); (try clear hk); (try clear hi); have hcz56_0 : w55.cell? ⟨gb161, 0, none⟩ = some (.int .i64 a0_0) := (blk_cell BK161.out 0).trans rfl; have hcz56_1 : w55.cell? ⟨gb161, 1, none⟩ = some (.int .i64 a0_1) := (blk_cell BK161.out 1).trans rfl; have hcz56_2 : w55.cell? ⟨gb161, 2, none⟩ = some (.int .i64 a0_2) := (blk_cell BK161.out 2).trans rfl; have hcz56_3 : w55.cell? ⟨gb161, 3, none⟩ = some (.int .i64 a0_3) := (blk_cell BK161.out 3).trans rfl; have hcz56_4 : w55.cell? ⟨gb161, 4, none⟩ = some (.int .i64 a0_4) := (blk_cell BK161.out 4).trans rfl; have hcz56_5 : w55.cell? ⟨gb161, 5, none⟩ = some (.string a0_5) := (blk_cell BK161.out 5).trans rfl; have hcz56_6 : w55.cell? ⟨gb161, 6, none⟩ = some (.string a0_6) := (blk_cell BK161.out 6).trans rfl; have hfz56_0 := blk_frozen BK161.out 0; have hfz56_1 := blk_frozen BK161.out 1; have hfz56_2 := blk_frozen BK161.out 2; have hfz56_3 := blk_frozen BK161.out 3; have hfz56_4 := blk_frozen BK161.out 4; have hfz56_5 := blk_frozen BK161.out 5; have hfz56_6 := blk_frozen BK161.out 6))
         go_meet
         case rel => exact ⟨_, (true), ez, H', ⟨by have := HJ4.out; first | omega | exact Nat.le_refl _⟩, ⟨by (with_reducible repeat (first | refine blk_drewN ?_ _ | refine blk_drew ?_ | refine blk_alloc ?_ _)); exact BK161.out⟩, ⟨(bz1 HB.out GE161.out)⟩⟩
       ·rw [if_neg c36] at H
        have c36b0 : (t164 == 0) = false := beq_eq_false_iff_ne.mpr c36
        have c36b1 : (t164 != 0) = true := bne_iff_ne.mpr c36
        replace H := Option.bind_eq_some_iff.mp H
        obtain ⟨t167, A570, H⟩ := H
        replace H : (if ((decide (t164 > 1)) != t167) = true then (spec_l3Fields.j1 kj4 true a0_0 a0_1 a0_2 a0_3 a0_4 a0_5 a0_6) else (if t164 < 2 then (spec_l3Fields.j1 kj4 (a0_6.toList != ([] : List UInt8)) a0_0 a0_1 a0_2 a0_3 a0_4 a0_5 a0_6) else (spec_l3Fields.j1 kj4 false a0_0 a0_1 a0_2 a0_3 a0_4 a0_5 a0_6))) = some r := H
        have A57 := Aside0.mk A570
        clear A570
        by_cases c58 : ((decide (t164 > 1)) != t167) = true
        ·rw [if_pos c58] at H
         have c58b0 : ((decide (t164 > 1)) != t167) = true := c58
         (try (have c58b1 : decide ((decide (t164 > 1)) = t167) = false := by simpa using c58))
         (try (have c58b2 : ((decide (t164 > 1)) == t167) = false := by simpa using c58))
         (try (have c58b3 : ¬ ((decide (t164 > 1)) = t167) := by simpa using c58))
         clear c58
         have H' := Aside0.mk H
         clear H
         have hcz59_0 : wc.cell? ⟨gb161, 0, none⟩ = some (.int .i64 a0_0) := (blk_cell BK161.out 0).trans rfl
         have hcz59_1 : wc.cell? ⟨gb161, 1, none⟩ = some (.int .i64 a0_1) := (blk_cell BK161.out 1).trans rfl
         have hcz59_2 : wc.cell? ⟨gb161, 2, none⟩ = some (.int .i64 a0_2) := (blk_cell BK161.out 2).trans rfl
         have hcz59_3 : wc.cell? ⟨gb161, 3, none⟩ = some (.int .i64 a0_3) := (blk_cell BK161.out 3).trans rfl
         have hcz59_4 : wc.cell? ⟨gb161, 4, none⟩ = some (.int .i64 a0_4) := (blk_cell BK161.out 4).trans rfl
         have hcz59_5 : wc.cell? ⟨gb161, 5, none⟩ = some (.string a0_5) := (blk_cell BK161.out 5).trans rfl
         have hcz59_6 : wc.cell? ⟨gb161, 6, none⟩ = some (.string a0_6) := (blk_cell BK161.out 6).trans rfl
         have hfz59_0 := blk_frozen BK161.out 0
         have hfz59_1 := blk_frozen BK161.out 1
         have hfz59_2 := blk_frozen BK161.out 2
         have hfz59_3 := blk_frozen BK161.out 3
         have hfz59_4 := blk_frozen BK161.out 4
         have hfz59_5 := blk_frozen BK161.out 5
         have hfz59_6 := blk_frozen BK161.out 6
         go_wp2_with (first | ((with_reducible refine gate_callee (f := 92) rfl ?_); refine goesL_ (some 44) rfl rfl Tryd.func92 (by kernel_rfl) rfl #[.string a0_5] rfl lz ?_; (with_reducible refine (spec_l3Name.calls kj4 a0_5 t165 _ A32.out).mono ?_); rintro e w60 ⟨rfl, hb⟩; refine ⟨_, rfl, ?_⟩; have n0_ := Aside0.mk (blk_below (g := gb161) (o := .cells #[.int .i64 a0_0, .int .i64 a0_1, .int .i64 a0_2, .int .i64 a0_3, .int .i64 a0_4, .string a0_5, .string a0_6] 43 (0, 0)) (kz BK161.out) hb); have n1_ := Aside0.mk (below_step (bz1 HB.out GE161.out) hb); clear BK161; clear HB; have BK161 := n0_; have HB := n1_; clear n0_ n1_; (try clear hb); (try clear hb2); (try clear hk); (try clear hi); have hcz61_0 : w60.cell? ⟨gb161, 0, none⟩ = some (.int .i64 a0_0) := (blk_cell BK161.out 0).trans rfl; have hcz61_1 : w60.cell? ⟨gb161, 1, none⟩ = some (.int .i64 a0_1) := (blk_cell BK161.out 1).trans rfl; have hcz61_2 : w60.cell? ⟨gb161, 2, none⟩ = some (.int .i64 a0_2) := (blk_cell BK161.out 2).trans rfl; have hcz61_3 : w60.cell? ⟨gb161, 3, none⟩ = some (.int .i64 a0_3) := (blk_cell BK161.out 3).trans rfl; have hcz61_4 : w60.cell? ⟨gb161, 4, none⟩ = some (.int .i64 a0_4) := (blk_cell BK161.out 4).trans rfl; have hcz61_5 : w60.cell? ⟨gb161, 5, none⟩ = some (.string a0_5) := (blk_cell BK161.out 5).trans rfl; have hcz61_6 : w60.cell? ⟨gb161, 6, none⟩ = some (.string a0_6) := (blk_cell BK161.out 6).trans rfl; have hfz61_0 := blk_frozen BK161.out 0; have hfz61_1 := blk_frozen BK161.out 1; have hfz61_2 := blk_frozen BK161.out 2; have hfz61_3 := blk_frozen BK161.out 3; have hfz61_4 := blk_frozen BK161.out 4; have hfz61_5 := blk_frozen BK161.out 5; have hfz61_6 := blk_frozen BK161.out 6) | (go_at_call 92; (with_reducible refine (spec_l3Name.calls kj4 a0_6 t167 _ A57.out).mono ?_); rintro e w62 ⟨rfl, hb⟩; have n0_ := Aside0.mk (blk_below (g := gb161) (o := .cells #[.int .i64 a0_0, .int .i64 a0_1, .int .i64 a0_2, .int .i64 a0_3, .int .i64 a0_4, .string a0_5, .string a0_6] 43 (0, 0)) (kz BK161.out) hb); have n1_ := Aside0.mk (below_step (bz1 HB.out GE161.out) hb); clear BK161; clear HB; have BK161 := n0_; have HB := n1_; clear n0_ n1_; (try clear hb); (try clear hb2); (try clear hk); (try clear hi)))
         go_meet
         case rel => exact ⟨_, (true), ez, H', ⟨by have := HJ4.out; first | omega | exact Nat.le_refl _⟩, ⟨by (with_reducible repeat (first | refine blk_drewN ?_ _ | refine blk_drew ?_ | refine blk_alloc ?_ _)); exact BK161.out⟩, ⟨(bz1 HB.out GE161.out)⟩⟩
        ·rw [if_neg c58] at H
         have c58b0 : ((decide (t164 > 1)) != t167) = false := by simpa using c58
         (try (have c58b1 : decide ((decide (t164 > 1)) = t167) = true := by simpa using c58))
         (try (have c58b2 : ((decide (t164 > 1)) == t167) = true := by simpa using c58))
         clear c58
         by_cases c63 : t164 < 2
         ·rw [if_pos c63] at H
          have c63b0 : decide (t164 < 2) = true := decide_eq_true c63
          clear c63
          have H' := Aside0.mk H
          clear H
          have hcz64_0 : wc.cell? ⟨gb161, 0, none⟩ = some (.int .i64 a0_0) := (blk_cell BK161.out 0).trans rfl
          have hcz64_1 : wc.cell? ⟨gb161, 1, none⟩ = some (.int .i64 a0_1) := (blk_cell BK161.out 1).trans rfl
          have hcz64_2 : wc.cell? ⟨gb161, 2, none⟩ = some (.int .i64 a0_2) := (blk_cell BK161.out 2).trans rfl
          have hcz64_3 : wc.cell? ⟨gb161, 3, none⟩ = some (.int .i64 a0_3) := (blk_cell BK161.out 3).trans rfl
          have hcz64_4 : wc.cell? ⟨gb161, 4, none⟩ = some (.int .i64 a0_4) := (blk_cell BK161.out 4).trans rfl
          have hcz64_5 : wc.cell? ⟨gb161, 5, none⟩ = some (.string a0_5) := (blk_cell BK161.out 5).trans rfl
          have hcz64_6 : wc.cell? ⟨gb161, 6, none⟩ = some (.string a0_6) := (blk_cell BK161.out 6).trans rfl
          have hfz64_0 := blk_frozen BK161.out 0
          have hfz64_1 := blk_frozen BK161.out 1
          have hfz64_2 := blk_frozen BK161.out 2
          have hfz64_3 := blk_frozen BK161.out 3
          have hfz64_4 := blk_frozen BK161.out 4
          have hfz64_5 := blk_frozen BK161.out 5
          have hfz64_6 := blk_frozen BK161.out 6
          go_wp2_with (first | ((with_reducible refine gate_callee (f := 92) rfl ?_); refine goesL_ (some 44) rfl rfl Tryd.func92 (by kernel_rfl) rfl #[.string a0_5] rfl lz ?_; (with_reducible refine (spec_l3Name.calls kj4 a0_5 t165 _ A32.out).mono ?_); rintro e w65 ⟨rfl, hb⟩; refine ⟨_, rfl, ?_⟩; have n0_ := Aside0.mk (blk_below (g := gb161) (o := .cells #[.int .i64 a0_0, .int .i64 a0_1, .int .i64 a0_2, .int .i64 a0_3, .int .i64 a0_4, .string a0_5, .string a0_6] 43 (0, 0)) (kz BK161.out) hb); have n1_ := Aside0.mk (below_step (bz1 HB.out GE161.out) hb); clear BK161; clear HB; have BK161 := n0_; have HB := n1_; clear n0_ n1_; (try clear hb); (try clear hb2); (try clear hk); (try clear hi); have hcz66_0 : w65.cell? ⟨gb161, 0, none⟩ = some (.int .i64 a0_0) := (blk_cell BK161.out 0).trans rfl; have hcz66_1 : w65.cell? ⟨gb161, 1, none⟩ = some (.int .i64 a0_1) := (blk_cell BK161.out 1).trans rfl; have hcz66_2 : w65.cell? ⟨gb161, 2, none⟩ = some (.int .i64 a0_2) := (blk_cell BK161.out 2).trans rfl; have hcz66_3 : w65.cell? ⟨gb161, 3, none⟩ = some (.int .i64 a0_3) := (blk_cell BK161.out 3).trans rfl; have hcz66_4 : w65.cell? ⟨gb161, 4, none⟩ = some (.int .i64 a0_4) := (blk_cell BK161.out 4).trans rfl; have hcz66_5 : w65.cell? ⟨gb161, 5, none⟩ = some (.string a0_5) := (blk_cell BK161.out 5).trans rfl; have hcz66_6 : w65.cell? ⟨gb161, 6, none⟩ = some (.string a0_6) := (blk_cell BK161.out 6).trans rfl; have hfz66_0 := blk_frozen BK161.out 0; have hfz66_1 := blk_frozen BK161.out 1; have hfz66_2 := blk_frozen BK161.out 2; have hfz66_3 := blk_frozen BK161.out 3; have hfz66_4 := blk_frozen BK161.out 4; have hfz66_5 := blk_frozen BK161.out 5; have hfz66_6 := blk_frozen BK161.out 6) | (go_at_call 92; (with_reducible refine (spec_l3Name.calls kj4 a0_6 t167 _ A57.out).mono ?_); rintro e w67 ⟨rfl, hb⟩; have n0_ := Aside0.mk (blk_below (g := gb161) (o := .cells #[.int .i64 a0_0, .int .i64 a0_1, .int .i64 a0_2, .int .i64 a0_3, .int .i64 a0_4, .string a0_5, .string a0_6] 43 (0, 0)) (kz BK161.out) hb); have n1_ := Aside0.mk (below_step (bz1 HB.out GE161.out) hb); clear BK161; clear HB; have BK161 := n0_; have HB := n1_; clear n0_ n1_; (try clear hb); (try clear hb2); (try clear hk); (try clear hi); have hcz68_0 : w67.cell? ⟨gb161, 0, none⟩ = some (.int .i64 a0_0) := (blk_cell BK161.out 0).trans rfl; have hcz68_1 : w67.cell? ⟨gb161, 1, none⟩ = some (.int .i64 a0_1) := (blk_cell BK161.out 1).trans rfl; have hcz68_2 : w67.cell? ⟨gb161, 2, none⟩ = some (.int .i64 a0_2) := (blk_cell BK161.out 2).trans rfl; have hcz68_3 : w67.cell? ⟨gb161, 3, none⟩ = some (.int .i64 a0_3) := (blk_cell BK161.out 3).trans rfl; have hcz68_4 : w67.cell? ⟨gb161, 4, none⟩ = some (.int .i64 a0_4) := (blk_cell BK161.out 4).trans rfl; have hcz68_5 : w67.cell? ⟨gb161, 5, none⟩ = some (.string a0_5) := (blk_cell BK161.out 5).trans rfl; have hcz68_6 : w67.cell? ⟨gb161, 6, none⟩ = some (.string a0_6) := (blk_cell BK161.out 6).trans rfl; have hfz68_0 := blk_frozen BK161.out 0; have hfz68_1 := blk_frozen BK161.out 1; have hfz68_2 := blk_frozen BK161.out 2; have hfz68_3 := blk_frozen BK161.out 3; have hfz68_4 := blk_frozen BK161.out 4; have hfz68_5 := blk_frozen BK161.out 5; have hfz68_6 := blk_frozen BK161.out 6))
          go_meet
          case rel => exact ⟨_, ((a0_6.toList != ([] : List UInt8))), ez, H', ⟨by have := HJ4.out; first | omega | exact Nat.le_refl _⟩, ⟨by (with_reducible repeat (first | refine blk_drewN ?_ _ | refine blk_drew ?_ | refine blk_alloc ?_ _)); exact BK161.out⟩, ⟨(bz1 HB.out GE161.out)⟩⟩
         ·rw [if_neg c63] at H
          have c63b0 : decide (t164 < 2) = false := decide_eq_false c63
          clear c63
          have H' := Aside0.mk H
          clear H
          have hcz69_0 : wc.cell? ⟨gb161, 0, none⟩ = some (.int .i64 a0_0) := (blk_cell BK161.out 0).trans rfl
          have hcz69_1 : wc.cell? ⟨gb161, 1, none⟩ = some (.int .i64 a0_1) := (blk_cell BK161.out 1).trans rfl
          have hcz69_2 : wc.cell? ⟨gb161, 2, none⟩ = some (.int .i64 a0_2) := (blk_cell BK161.out 2).trans rfl
          have hcz69_3 : wc.cell? ⟨gb161, 3, none⟩ = some (.int .i64 a0_3) := (blk_cell BK161.out 3).trans rfl
          have hcz69_4 : wc.cell? ⟨gb161, 4, none⟩ = some (.int .i64 a0_4) := (blk_cell BK161.out 4).trans rfl
          have hcz69_5 : wc.cell? ⟨gb161, 5, none⟩ = some (.string a0_5) := (blk_cell BK161.out 5).trans rfl
          have hcz69_6 : wc.cell? ⟨gb161, 6, none⟩ = some (.string a0_6) := (blk_cell BK161.out 6).trans rfl
          have hfz69_0 := blk_frozen BK161.out 0
          have hfz69_1 := blk_frozen BK161.out 1
          have hfz69_2 := blk_frozen BK161.out 2
          have hfz69_3 := blk_frozen BK161.out 3
          have hfz69_4 := blk_frozen BK161.out 4
          have hfz69_5 := blk_frozen BK161.out 5
          have hfz69_6 := blk_frozen BK161.out 6
          go_wp2_with (first | ((with_reducible refine gate_callee (f := 92) rfl ?_); refine goesL_ (some 44) rfl rfl Tryd.func92 (by kernel_rfl) rfl #[.string a0_5] rfl lz ?_; (with_reducible refine (spec_l3Name.calls kj4 a0_5 t165 _ A32.out).mono ?_); rintro e w70 ⟨rfl, hb⟩; refine ⟨_, rfl, ?_⟩; have n0_ := Aside0.mk (blk_below (g := gb161) (o := .cells #[.int .i64 a0_0, .int .i64 a0_1, .int .i64 a0_2, .int .i64 a0_3, .int .i64 a0_4, .string a0_5, .string a0_6] 43 (0, 0)) (kz BK161.out) hb); have n1_ := Aside0.mk (below_step (bz1 HB.out GE161.out) hb); clear BK161; clear HB; have BK161 := n0_; have HB := n1_; clear n0_ n1_; (try clear hb); (try clear hb2); (try clear hk); (try clear hi); have hcz71_0 : w70.cell? ⟨gb161, 0, none⟩ = some (.int .i64 a0_0) := (blk_cell BK161.out 0).trans rfl; have hcz71_1 : w70.cell? ⟨gb161, 1, none⟩ = some (.int .i64 a0_1) := (blk_cell BK161.out 1).trans rfl; have hcz71_2 : w70.cell? ⟨gb161, 2, none⟩ = some (.int .i64 a0_2) := (blk_cell BK161.out 2).trans rfl; have hcz71_3 : w70.cell? ⟨gb161, 3, none⟩ = some (.int .i64 a0_3) := (blk_cell BK161.out 3).trans rfl; have hcz71_4 : w70.cell? ⟨gb161, 4, none⟩ = some (.int .i64 a0_4) := (blk_cell BK161.out 4).trans rfl; have hcz71_5 : w70.cell? ⟨gb161, 5, none⟩ = some (.string a0_5) := (blk_cell BK161.out 5).trans rfl; have hcz71_6 : w70.cell? ⟨gb161, 6, none⟩ = some (.string a0_6) := (blk_cell BK161.out 6).trans rfl; have hfz71_0 := blk_frozen BK161.out 0; have hfz71_1 := blk_frozen BK161.out 1; have hfz71_2 := blk_frozen BK161.out 2; have hfz71_3 := blk_frozen BK161.out 3; have hfz71_4 := blk_frozen BK161.out 4; have hfz71_5 := blk_frozen BK161.out 5; have hfz71_6 := blk_frozen BK161.out 6) | (go_at_call 92; (with_reducible refine (spec_l3Name.calls kj4 a0_6 t167 _ A57.out).mono ?_); rintro e w72 ⟨rfl, hb⟩; have n0_ := Aside0.mk (blk_below (g := gb161) (o := .cells #[.int .i64 a0_0, .int .i64 a0_1, .int .i64 a0_2, .int .i64 a0_3, .int .i64 a0_4, .string a0_5, .string a0_6] 43 (0, 0)) (kz BK161.out) hb); have n1_ := Aside0.mk (below_step (bz1 HB.out GE161.out) hb); clear BK161; clear HB; have BK161 := n0_; have HB := n1_; clear n0_ n1_; (try clear hb); (try clear hb2); (try clear hk); (try clear hi)))
          go_meet
          case rel => exact ⟨_, (false), ez, H', ⟨by have := HJ4.out; first | omega | exact Nat.le_refl _⟩, ⟨by (with_reducible repeat (first | refine blk_drewN ?_ _ | refine blk_drew ?_ | refine blk_alloc ?_ _)); exact BK161.out⟩, ⟨(bz1 HB.out GE161.out)⟩⟩
     case rest =>
      clear HC30
      try clear c1
      try clear c2
      try clear p2
      try clear c3
      try clear c4
      try clear c5
      try clear c6
      try clear c7
      try clear c8
      try clear c8b0
      try clear c9
      try clear c9b0
      try clear c9b1
      try clear c10
      try clear c10b0
      try clear c11
      try clear c11b0
      try clear c11b1
      try clear c12
      try clear c12b0
      try clear c16
      try clear c16b0
      try clear c20
      try clear c20b0
      try clear c21
      try clear c21b0
      try clear c21b1
      try clear c22
      try clear c22b0
      try clear c26
      try clear c26b0
      try clear c28
      try clear c33
      try clear c33b0
      try clear c33b1
      try clear c33b2
      try clear c36
      try clear c36b0
      try clear c36b1
      try clear c37
      try clear c37b0
      try clear c37b1
      try clear c39
      try clear c39b0
      try clear c39b1
      try clear c39b2
      try clear c44
      try clear c44b0
      try clear c58
      try clear c58b0
      try clear c58b1
      try clear c58b2
      try clear c63
      try clear c63b0
      try clear hcz13_0
      try clear hcz13_1
      try clear hcz13_2
      try clear hcz13_3
      try clear hcz13_4
      try clear hcz13_5
      try clear hcz13_6
      try clear hcz14_0
      try clear hcz14_1
      try clear hcz14_2
      try clear hcz14_3
      try clear hcz14_4
      try clear hcz14_5
      try clear hcz14_6
      try clear hcz15_0
      try clear hcz15_1
      try clear hcz15_2
      try clear hcz15_3
      try clear hcz15_4
      try clear hcz15_5
      try clear hcz15_6
      try clear hcz17_0
      try clear hcz17_1
      try clear hcz17_2
      try clear hcz17_3
      try clear hcz17_4
      try clear hcz17_5
      try clear hcz17_6
      try clear hcz18_0
      try clear hcz18_1
      try clear hcz18_2
      try clear hcz18_3
      try clear hcz18_4
      try clear hcz18_5
      try clear hcz18_6
      try clear hcz19_0
      try clear hcz19_1
      try clear hcz19_2
      try clear hcz19_3
      try clear hcz19_4
      try clear hcz19_5
      try clear hcz19_6
      try clear hcz23_0
      try clear hcz23_1
      try clear hcz23_2
      try clear hcz23_3
      try clear hcz23_4
      try clear hcz23_5
      try clear hcz23_6
      try clear hcz24_0
      try clear hcz24_1
      try clear hcz24_2
      try clear hcz24_3
      try clear hcz24_4
      try clear hcz24_5
      try clear hcz24_6
      try clear hcz25_0
      try clear hcz25_1
      try clear hcz25_2
      try clear hcz25_3
      try clear hcz25_4
      try clear hcz25_5
      try clear hcz25_6
      try clear hcz27_0
      try clear hcz27_1
      try clear hcz27_2
      try clear hcz27_3
      try clear hcz27_4
      try clear hcz27_5
      try clear hcz27_6
      try clear hcz31_0
      try clear hcz31_1
      try clear hcz31_2
      try clear hcz31_3
      try clear hcz31_4
      try clear hcz31_5
      try clear hcz31_6
      try clear hcz34_0
      try clear hcz34_1
      try clear hcz34_2
      try clear hcz34_3
      try clear hcz34_4
      try clear hcz34_5
      try clear hcz34_6
      try clear hcz40_0
      try clear hcz40_1
      try clear hcz40_2
      try clear hcz40_3
      try clear hcz40_4
      try clear hcz40_5
      try clear hcz40_6
      try clear hcz42_0
      try clear hcz42_1
      try clear hcz42_2
      try clear hcz42_3
      try clear hcz42_4
      try clear hcz42_5
      try clear hcz42_6
      try clear hcz45_0
      try clear hcz45_1
      try clear hcz45_2
      try clear hcz45_3
      try clear hcz45_4
      try clear hcz45_5
      try clear hcz45_6
      try clear hcz47_0
      try clear hcz47_1
      try clear hcz47_2
      try clear hcz47_3
      try clear hcz47_4
      try clear hcz47_5
      try clear hcz47_6
      try clear hcz49_0
      try clear hcz49_1
      try clear hcz49_2
      try clear hcz49_3
      try clear hcz49_4
      try clear hcz49_5
      try clear hcz49_6
      try clear hcz50_0
      try clear hcz50_1
      try clear hcz50_2
      try clear hcz50_3
      try clear hcz50_4
      try clear hcz50_5
      try clear hcz50_6
      try clear hcz52_0
      try clear hcz52_1
      try clear hcz52_2
      try clear hcz52_3
      try clear hcz52_4
      try clear hcz52_5
      try clear hcz52_6
      try clear hcz54_0
      try clear hcz54_1
      try clear hcz54_2
      try clear hcz54_3
      try clear hcz54_4
      try clear hcz54_5
      try clear hcz54_6
      try clear hcz56_0
      try clear hcz56_1
      try clear hcz56_2
      try clear hcz56_3
      try clear hcz56_4
      try clear hcz56_5
      try clear hcz56_6
      try clear hcz59_0
      try clear hcz59_1
      try clear hcz59_2
      try clear hcz59_3
      try clear hcz59_4
      try clear hcz59_5
      try clear hcz59_6
      try clear hcz61_0
      try clear hcz61_1
      try clear hcz61_2
      try clear hcz61_3
      try clear hcz61_4
      try clear hcz61_5
      try clear hcz61_6
      try clear hcz64_0
      try clear hcz64_1
      try clear hcz64_2
      try clear hcz64_3
      try clear hcz64_4
      try clear hcz64_5
      try clear hcz64_6
      try clear hcz66_0
      try clear hcz66_1
      try clear hcz66_2
      try clear hcz66_3
      try clear hcz66_4
      try clear hcz66_5
      try clear hcz66_6
      try clear hcz68_0
      try clear hcz68_1
      try clear hcz68_2
      try clear hcz68_3
      try clear hcz68_4
      try clear hcz68_5
      try clear hcz68_6
      try clear hcz69_0
      try clear hcz69_1
      try clear hcz69_2
      try clear hcz69_3
      try clear hcz69_4
      try clear hcz69_5
      try clear hcz69_6
      try clear hcz71_0
      try clear hcz71_1
      try clear hcz71_2
      try clear hcz71_3
      try clear hcz71_4
      try clear hcz71_5
      try clear hcz71_6
      try clear hcz7_0
      try clear hcz7_1
      try clear hcz7_2
      try clear hcz7_3
      try clear hcz7_4
      try clear hcz7_5
      try clear hcz7_6
      try clear hfz13_0
      try clear hfz13_1
      try clear hfz13_2
      try clear hfz13_3
      try clear hfz13_4
      try clear hfz13_5
      try clear hfz13_6
      try clear hfz14_0
      try clear hfz14_1
      try clear hfz14_2
      try clear hfz14_3
      try clear hfz14_4
      try clear hfz14_5
      try clear hfz14_6
      try clear hfz15_0
      try clear hfz15_1
      try clear hfz15_2
      try clear hfz15_3
      try clear hfz15_4
      try clear hfz15_5
      try clear hfz15_6
      try clear hfz17_0
      try clear hfz17_1
      try clear hfz17_2
      try clear hfz17_3
      try clear hfz17_4
      try clear hfz17_5
      try clear hfz17_6
      try clear hfz18_0
      try clear hfz18_1
      try clear hfz18_2
      try clear hfz18_3
      try clear hfz18_4
      try clear hfz18_5
      try clear hfz18_6
      try clear hfz19_0
      try clear hfz19_1
      try clear hfz19_2
      try clear hfz19_3
      try clear hfz19_4
      try clear hfz19_5
      try clear hfz19_6
      try clear hfz23_0
      try clear hfz23_1
      try clear hfz23_2
      try clear hfz23_3
      try clear hfz23_4
      try clear hfz23_5
      try clear hfz23_6
      try clear hfz24_0
      try clear hfz24_1
      try clear hfz24_2
      try clear hfz24_3
      try clear hfz24_4
      try clear hfz24_5
      try clear hfz24_6
      try clear hfz25_0
      try clear hfz25_1
      try clear hfz25_2
      try clear hfz25_3
      try clear hfz25_4
      try clear hfz25_5
      try clear hfz25_6
      try clear hfz27_0
      try clear hfz27_1
      try clear hfz27_2
      try clear hfz27_3
      try clear hfz27_4
      try clear hfz27_5
      try clear hfz27_6
      try clear hfz31_0
      try clear hfz31_1
      try clear hfz31_2
      try clear hfz31_3
      try clear hfz31_4
      try clear hfz31_5
      try clear hfz31_6
      try clear hfz34_0
      try clear hfz34_1
      try clear hfz34_2
      try clear hfz34_3
      try clear hfz34_4
      try clear hfz34_5
      try clear hfz34_6
      try clear hfz40_0
      try clear hfz40_1
      try clear hfz40_2
      try clear hfz40_3
      try clear hfz40_4
      try clear hfz40_5
      try clear hfz40_6
      try clear hfz42_0
      try clear hfz42_1
      try clear hfz42_2
      try clear hfz42_3
      try clear hfz42_4
      try clear hfz42_5
      try clear hfz42_6
      try clear hfz45_0
      try clear hfz45_1
      try clear hfz45_2
      try clear hfz45_3
      try clear hfz45_4
      try clear hfz45_5
      try clear hfz45_6
      try clear hfz47_0
      try clear hfz47_1
      try clear hfz47_2
      try clear hfz47_3
      try clear hfz47_4
      try clear hfz47_5
      try clear hfz47_6
      try clear hfz49_0
      try clear hfz49_1
      try clear hfz49_2
      try clear hfz49_3
      try clear hfz49_4
      try clear hfz49_5
      try clear hfz49_6
      try clear hfz50_0
      try clear hfz50_1
      try clear hfz50_2
      try clear hfz50_3
      try clear hfz50_4
      try clear hfz50_5
      try clear hfz50_6
      try clear hfz52_0
      try clear hfz52_1
      try clear hfz52_2
      try clear hfz52_3
      try clear hfz52_4
      try clear hfz52_5
      try clear hfz52_6
      try clear hfz54_0
      try clear hfz54_1
      try clear hfz54_2
      try clear hfz54_3
      try clear hfz54_4
      try clear hfz54_5
      try clear hfz54_6
      try clear hfz56_0
      try clear hfz56_1
      try clear hfz56_2
      try clear hfz56_3
      try clear hfz56_4
      try clear hfz56_5
      try clear hfz56_6
      try clear hfz59_0
      try clear hfz59_1
      try clear hfz59_2
      try clear hfz59_3
      try clear hfz59_4
      try clear hfz59_5
      try clear hfz59_6
      try clear hfz61_0
      try clear hfz61_1
      try clear hfz61_2
      try clear hfz61_3
      try clear hfz61_4
      try clear hfz61_5
      try clear hfz61_6
      try clear hfz64_0
      try clear hfz64_1
      try clear hfz64_2
      try clear hfz64_3
      try clear hfz64_4
      try clear hfz64_5
      try clear hfz64_6
      try clear hfz66_0
      try clear hfz66_1
      try clear hfz66_2
      try clear hfz66_3
      try clear hfz66_4
      try clear hfz66_5
      try clear hfz66_6
      try clear hfz68_0
      try clear hfz68_1
      try clear hfz68_2
      try clear hfz68_3
      try clear hfz68_4
      try clear hfz68_5
      try clear hfz68_6
      try clear hfz69_0
      try clear hfz69_1
      try clear hfz69_2
      try clear hfz69_3
      try clear hfz69_4
      try clear hfz69_5
      try clear hfz69_6
      try clear hfz71_0
      try clear hfz71_1
      try clear hfz71_2
      try clear hfz71_3
      try clear hfz71_4
      try clear hfz71_5
      try clear hfz71_6
      try clear hfz7_0
      try clear hfz7_1
      try clear hfz7_2
      try clear hfz7_3
      try clear hfz7_4
      try clear hfz7_5
      try clear hfz7_6
      try clear p2
      obtain ⟨kq, x71_29, rfl, HA, HJ29, BK161, HB⟩ := hcut
      cases kq with
      | zero => exact absurd HA.out (by simp [spec_l3Fields.j1])
      | succ kj29 =>
       have H := HA.out
       clear HA
       simp only [spec_l3Fields.j1] at H
       by_cases c73 : x71_29 = true
       ·subst c73
        have H1 : (some false) = some r := by rw [if_pos rfl] at H; exact H
        clear H
        have H := H1
        clear H1
        obtain rfl := Option.some.inj H
        go_wp2
        go_ret
        exact ⟨gz, (bz1 HB.out GE161.out)⟩
       ·replace c73 := Bool.eq_false_iff.mpr c73
        subst c73
        have H1 : (if a0_0 = 2 then ((spec_l1In.f a0_4 0 65535).bind fun t168 => (some t168)) else (if a0_0 = 8 then ((spec_l1In.f a0_4 0 3).bind fun t169 => (some t169)) else (some (a0_4 == 0)))) = some r := by rw [if_neg (show ¬ (false = true) by decide)] at H; exact H
        clear H
        have H := H1
        clear H1
        by_cases c74 : a0_0 = 2
        ·rw [if_pos c74] at H
         have c74b0 : (a0_0 == 2) = true := beq_iff_eq.mpr c74
         have c74b1 : (a0_0 != 2) = false := bne_eq_false_iff_eq.mpr c74
         clear c74
         replace H := Option.bind_eq_some_iff.mp H
         obtain ⟨t168, A750, H⟩ := H
         replace H : (some t168) = some r := H
         have A75 := Aside0.mk A750
         clear A750
         obtain rfl := Option.some.inj H
         have hcz76_0 : wc.cell? ⟨gb161, 0, none⟩ = some (.int .i64 a0_0) := (blk_cell BK161.out 0).trans rfl
         have hcz76_1 : wc.cell? ⟨gb161, 1, none⟩ = some (.int .i64 a0_1) := (blk_cell BK161.out 1).trans rfl
         have hcz76_2 : wc.cell? ⟨gb161, 2, none⟩ = some (.int .i64 a0_2) := (blk_cell BK161.out 2).trans rfl
         have hcz76_3 : wc.cell? ⟨gb161, 3, none⟩ = some (.int .i64 a0_3) := (blk_cell BK161.out 3).trans rfl
         have hcz76_4 : wc.cell? ⟨gb161, 4, none⟩ = some (.int .i64 a0_4) := (blk_cell BK161.out 4).trans rfl
         have hcz76_5 : wc.cell? ⟨gb161, 5, none⟩ = some (.string a0_5) := (blk_cell BK161.out 5).trans rfl
         have hcz76_6 : wc.cell? ⟨gb161, 6, none⟩ = some (.string a0_6) := (blk_cell BK161.out 6).trans rfl
         have hfz76_0 := blk_frozen BK161.out 0
         have hfz76_1 := blk_frozen BK161.out 1
         have hfz76_2 := blk_frozen BK161.out 2
         have hfz76_3 := blk_frozen BK161.out 3
         have hfz76_4 := blk_frozen BK161.out 4
         have hfz76_5 := blk_frozen BK161.out 5
         have hfz76_6 := blk_frozen BK161.out 6
         go_wp2_with (first | ((with_reducible refine gate_callee (f := 39) rfl ?_); refine goesL_ (some 78) rfl rfl Tryd.func39 (by kernel_rfl) rfl #[.int .i64 a0_4, .int .i64 0, .int .i64 65535] rfl lz ?_; (with_reducible refine (spec_l1In.calls a0_4 0 65535 t168 _ A75.out).mono ?_); rintro e w' ⟨rfl, ⟨nd, rfl⟩⟩; refine ⟨_, rfl, ?_⟩))
         go_ret
         exact ⟨gz, (bz1 HB.out GE161.out)⟩
        ·rw [if_neg c74] at H
         have c74b0 : (a0_0 == 2) = false := beq_eq_false_iff_ne.mpr c74
         have c74b1 : (a0_0 != 2) = true := bne_iff_ne.mpr c74
         by_cases c77 : a0_0 = 8
         ·rw [if_pos c77] at H
          have c77b0 : (a0_0 == 8) = true := beq_iff_eq.mpr c77
          have c77b1 : (a0_0 != 8) = false := bne_eq_false_iff_eq.mpr c77
          clear c77
          replace H := Option.bind_eq_some_iff.mp H
          obtain ⟨t169, A780, H⟩ := H
          replace H : (some t169) = some r := H
          have A78 := Aside0.mk A780
          clear A780
          obtain rfl := Option.some.inj H
          have hcz79_0 : wc.cell? ⟨gb161, 0, none⟩ = some (.int .i64 a0_0) := (blk_cell BK161.out 0).trans rfl
          have hcz79_1 : wc.cell? ⟨gb161, 1, none⟩ = some (.int .i64 a0_1) := (blk_cell BK161.out 1).trans rfl
          have hcz79_2 : wc.cell? ⟨gb161, 2, none⟩ = some (.int .i64 a0_2) := (blk_cell BK161.out 2).trans rfl
          have hcz79_3 : wc.cell? ⟨gb161, 3, none⟩ = some (.int .i64 a0_3) := (blk_cell BK161.out 3).trans rfl
          have hcz79_4 : wc.cell? ⟨gb161, 4, none⟩ = some (.int .i64 a0_4) := (blk_cell BK161.out 4).trans rfl
          have hcz79_5 : wc.cell? ⟨gb161, 5, none⟩ = some (.string a0_5) := (blk_cell BK161.out 5).trans rfl
          have hcz79_6 : wc.cell? ⟨gb161, 6, none⟩ = some (.string a0_6) := (blk_cell BK161.out 6).trans rfl
          have hfz79_0 := blk_frozen BK161.out 0
          have hfz79_1 := blk_frozen BK161.out 1
          have hfz79_2 := blk_frozen BK161.out 2
          have hfz79_3 := blk_frozen BK161.out 3
          have hfz79_4 := blk_frozen BK161.out 4
          have hfz79_5 := blk_frozen BK161.out 5
          have hfz79_6 := blk_frozen BK161.out 6
          go_wp2_with (first | ((with_reducible refine gate_callee (f := 39) rfl ?_); refine goesL_ (some 83) rfl rfl Tryd.func39 (by kernel_rfl) rfl #[.int .i64 a0_4, .int .i64 0, .int .i64 3] rfl lz ?_; (with_reducible refine (spec_l1In.calls a0_4 0 3 t169 _ A78.out).mono ?_); rintro e w' ⟨rfl, ⟨nd, rfl⟩⟩; refine ⟨_, rfl, ?_⟩))
          go_ret
          exact ⟨gz, (bz1 HB.out GE161.out)⟩
         ·rw [if_neg c77] at H
          have c77b0 : (a0_0 == 8) = false := beq_eq_false_iff_ne.mpr c77
          have c77b1 : (a0_0 != 8) = true := bne_iff_ne.mpr c77
          obtain rfl := Option.some.inj H
          have hcz80_0 : wc.cell? ⟨gb161, 0, none⟩ = some (.int .i64 a0_0) := (blk_cell BK161.out 0).trans rfl
          have hcz80_1 : wc.cell? ⟨gb161, 1, none⟩ = some (.int .i64 a0_1) := (blk_cell BK161.out 1).trans rfl
          have hcz80_2 : wc.cell? ⟨gb161, 2, none⟩ = some (.int .i64 a0_2) := (blk_cell BK161.out 2).trans rfl
          have hcz80_3 : wc.cell? ⟨gb161, 3, none⟩ = some (.int .i64 a0_3) := (blk_cell BK161.out 3).trans rfl
          have hcz80_4 : wc.cell? ⟨gb161, 4, none⟩ = some (.int .i64 a0_4) := (blk_cell BK161.out 4).trans rfl
          have hcz80_5 : wc.cell? ⟨gb161, 5, none⟩ = some (.string a0_5) := (blk_cell BK161.out 5).trans rfl
          have hcz80_6 : wc.cell? ⟨gb161, 6, none⟩ = some (.string a0_6) := (blk_cell BK161.out 6).trans rfl
          have hfz80_0 := blk_frozen BK161.out 0
          have hfz80_1 := blk_frozen BK161.out 1
          have hfz80_2 := blk_frozen BK161.out 2
          have hfz80_3 := blk_frozen BK161.out 3
          have hfz80_4 := blk_frozen BK161.out 4
          have hfz80_5 := blk_frozen BK161.out 5
          have hfz80_6 := blk_frozen BK161.out 6
          go_wp2
          go_ret
          exact ⟨gz, (bz1 HB.out GE161.out)⟩
 ·replace c3 := Bool.eq_false_iff.mpr c3
  subst c3
  have H1 : (some false) = some r := by rw [if_neg (show ¬ (false = true) by decide)] at H; exact H
  clear H
  have H := H1
  clear H1
  obtain rfl := Option.some.inj H
  go_enter Tryd.func79, Tryd.ntmps79
  go_wp2_with (first | ((with_reducible refine gate_dst (N := 1) rfl ?_); refine box_event ?hg (N := 1) ?hd (cs := #[.int .i64 a0_0, .int .i64 a0_1, .int .i64 a0_2, .int .i64 a0_3, .int .i64 a0_4, .string a0_5, .string a0_6]) (t := 43) ?hr ?_; (case hd => rfl); (case hg => rfl); (case hr => first | (go_simp; done) | (go_simp; rfl)); intro gb161 hg w81 hbox hb; have n0_ := Aside0.mk (below_step (bz0 HB.out) hb); have n1_ := Aside0.mk (hbox); have n2_ := Aside0.mk ((by rw [hg]; exact (below_size (bz0 HB.out)) : w.heap.size ≤ gb161)); have n3_ := Aside0.mk ((by rw [hg]; exact (below_size (bz0 HB.out)) : w.heap.size ≤ gb161)); clear HB; have HB := n0_; have BK161 := n1_; have GW161 := n2_; have GE161 := n3_; clear n0_ n1_ n2_ n3_; clear hb hbox hg; have hcz82_0 : w81.cell? ⟨gb161, 0, none⟩ = some (.int .i64 a0_0) := (blk_cell BK161.out 0).trans rfl; have hcz82_1 : w81.cell? ⟨gb161, 1, none⟩ = some (.int .i64 a0_1) := (blk_cell BK161.out 1).trans rfl; have hcz82_2 : w81.cell? ⟨gb161, 2, none⟩ = some (.int .i64 a0_2) := (blk_cell BK161.out 2).trans rfl; have hcz82_3 : w81.cell? ⟨gb161, 3, none⟩ = some (.int .i64 a0_3) := (blk_cell BK161.out 3).trans rfl; have hcz82_4 : w81.cell? ⟨gb161, 4, none⟩ = some (.int .i64 a0_4) := (blk_cell BK161.out 4).trans rfl; have hcz82_5 : w81.cell? ⟨gb161, 5, none⟩ = some (.string a0_5) := (blk_cell BK161.out 5).trans rfl; have hcz82_6 : w81.cell? ⟨gb161, 6, none⟩ = some (.string a0_6) := (blk_cell BK161.out 6).trans rfl; have hfz82_0 := blk_frozen BK161.out 0; have hfz82_1 := blk_frozen BK161.out 1; have hfz82_2 := blk_frozen BK161.out 2; have hfz82_3 := blk_frozen BK161.out 3; have hfz82_4 := blk_frozen BK161.out 4; have hfz82_5 := blk_frozen BK161.out 5; have hfz82_6 := blk_frozen BK161.out 6) | ((with_reducible refine gate_callee (f := 39) rfl ?_); refine goesL_ (some 7) rfl rfl Tryd.func39 (by kernel_rfl) rfl #[.int .i64 a0_0, .int .i64 1, .int .i64 19] rfl lz ?_; (with_reducible refine (spec_l1In.calls a0_0 1 19 false _ A2.out).mono ?_); rintro e w' ⟨rfl, ⟨nd, rfl⟩⟩; refine ⟨_, rfl, ?_⟩))
  go_ret
  exact ⟨gz, (bz1 HB.out GE161.out)⟩
end Go.Proofs.YtmilegjmiiccdaaDoor.PFnExactFreeNames
