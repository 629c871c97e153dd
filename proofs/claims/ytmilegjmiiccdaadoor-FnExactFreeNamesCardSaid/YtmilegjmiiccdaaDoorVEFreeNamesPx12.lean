/- PFnExactFreeNamesx12, of the words and walks that the law FnExactFreeNames needs; made by this session's program out of printed texts. -/

import Derived.Test.YtmilegjmiiccdaaDoorVEFreeNamesPx0
import Derived.Test.YtmilegjmiiccdaaDoorVEFreeNamesPx8
import Derived.Test.YtmilegjmiiccdaaDoorVEFreeNamesPx10
import Derived.Test.YtmilegjmiiccdaaDoorVEFreeNamesPx11
namespace Go.Proofs.YtmilegjmiiccdaaDoor.PFnExactFreeNames
open Go.RowKit Go.Proofs.YtmilegjmiiccdaaDoorW.PrintWords Go.Proofs.YtmilegjmiiccdaaDoorW.PrintLast Go.Proofs.YtmilegjmiiccdaaDoorW.PrintMore
attribute [local go_sem] max2_int min2_int max_two min_two max_three min_three max_four min_four
set_option linter.unusedVariables false
set_option linter.unusedSimpArgs false
def impl_Kids.f (k : Nat) (a0_0 : Int) (a0_1 : Int) (a0_2 : Int) (a0_3 : Int) (a0_4 : Int) (a0_5 : ByteArray) (a0_6 : ByteArray) : Option (List Int) := (some (([a0_1, a0_2, a0_3] : List Int) : List Int)).bind fun y350 => ((impl_Arity.f k a0_0).bind fun t353 => ((impl_Arity.f k a0_0).bind fun t354 => (if 0 ≤ t353 then (if t353 ≤ t354 then (if t354 ≤ (y350.length : Int) then (some (y350.take (t353 : Int).toNat)) else (none)) else (none)) else (none))))
theorem impl_Kids.mono : ∀ a0 a1 a2 a3 a4 a5 a6 k, LeO (impl_Kids.f k a0 a1 a2 a3 a4 a5 a6) (impl_Kids.f (k + 1) a0 a1 a2 a3 a4 a5 a6) := by
 intro a0 a1 a2 a3 a4 a5 a6 k
 unfold impl_Kids.f
 repeat' first
   | (with_reducible exact impl_Arity.mono _ _)
   | (with_reducible exact LeO.refl _)
   | (with_reducible exact LeO.none _)
   | (with_reducible refine LeO.ite ?_ ?_)
   | (with_reducible refine LeO.bind ?_ (fun _ => ?_))
   | exact impl_Arity.mono _ _
   | exact LeO.none _
   | refine LeO.ite ?_ ?_
   | refine LeO.bind ?_ (fun _ => ?_)
def impl_Kids.T1 : Bool × List (List Nat × List Nat) := (true, [([], []), ([0], [0]), ([], []), ([2], [2]), ([], []), ([4], [4]), ([1, 3, 5], [1, 3, 5]), ([], []), ([7], [7]), ([8], [8]), ([], []), ([10], [10]), ([11, 9], [11]), ([6, 9, 12], [6, 9, 12]), ([13, 12, 0, 1, 2, 3, 4, 5, 6, 7, 8, 9, 10, 11, 12, 13], [13])])
def impl_Kids.B1 : List Nat := [0, 1, 0, 4, 0, 16, 63, 0, 128, 384, 0, 1024, 3968, 8191, 16383]
theorem impl_Kids.tab1 : rtab .any (opsOf Tryd.f69 1) = impl_Kids.T1 := by kernel_rfl
theorem impl_Kids.bits1 : waitsOk impl_Kids.T1.2 impl_Kids.B1 = true := by kernel_rfl
set_option maxHeartbeats 8000000 in
set_option maxRecDepth 100000 in
theorem impl_Kids.calls (k : Nat) (a0_0 : Int) (a0_1 : Int) (a0_2 : Int) (a0_3 : Int) (a0_4 : Int) (a0_5 : ByteArray) (a0_6 : ByteArray) (r : List Int) (w : World) (h : impl_Kids.f k a0_0 a0_1 a0_2 a0_3 a0_4 a0_5 a0_6 = some r) :
  Calls Tryd.prog 69 #[.agg #[.int .i64 a0_0, .int .i64 a0_1, .int .i64 a0_2, .int .i64 a0_3, .int .i64 a0_4, .string a0_5, .string a0_6]] w fun e w' => ∃ v0_ : Value, e = .returned (v0_) ∧ Kd.V (Kd.int .i64) 3 w' w.heap.size (fun k_ => (w.heap.size ≤ k_)) v0_ r ∧ Below w.heap.size w w' := by
 have hu43 := Tryd.underlying43
 have HB := Aside0.mk (Below.refl w.heap.size w)
 have H : ((some (([a0_1, a0_2, a0_3] : List Int) : List Int)).bind fun y350 => ((impl_Arity.f k a0_0).bind fun t353 => ((impl_Arity.f k a0_0).bind fun t354 => (if 0 ≤ t353 then (if t353 ≤ t354 then (if t354 ≤ (y350.length : Int) then (some (y350.take (t353 : Int).toNat)) else (none)) else (none)) else (none))))) = some r := h
 clear h
 obtain ⟨y350, hy350⟩ : ∃ y_ : List Int, y_ = (([a0_1, a0_2, a0_3] : List Int)) := ⟨_, rfl⟩
 replace H : ((impl_Arity.f k a0_0).bind fun t353 => ((impl_Arity.f k a0_0).bind fun t354 => (if 0 ≤ t353 then (if t353 ≤ t354 then (if t354 ≤ (y350.length : Int) then (some (y350.take (t353 : Int).toNat)) else (none)) else (none)) else (none)))) = some r := by first | (rw [hy350]; with_reducible exact H) | (have H2_ := (Option.bind_some _ _).symm.trans H; rw [hy350]; with_reducible exact H2_) | (have H2_ := (Option.bind_some _ _).symm.trans H; with_reducible exact H2_) | with_reducible exact H | (rw [hy350]; exact H) | exact H
 have Ny350 := Aside0.mk hy350
 clear hy350
 replace H := Option.bind_eq_some_iff.mp H
 obtain ⟨t353, A20, H⟩ := H
 replace H : ((impl_Arity.f k a0_0).bind fun t354 => (if 0 ≤ t353 then (if t353 ≤ t354 then (if t354 ≤ (y350.length : Int) then (some (y350.take (t353 : Int).toNat)) else (none)) else (none)) else (none))) = some r := H
 have A2 := Aside0.mk A20
 clear A20
 replace H := Option.bind_eq_some_iff.mp H
 obtain ⟨t354, A30, H⟩ := H
 replace H : (if 0 ≤ t353 then (if t353 ≤ t354 then (if t354 ≤ (y350.length : Int) then (some (y350.take (t353 : Int).toNat)) else (none)) else (none)) else (none)) = some r := H
 have A3 := Aside0.mk A30
 clear A30
 by_cases c4 : 0 ≤ t353
 ·rw [if_pos c4] at H
  have c4b0 := eq_true c4
  have c4b1 : decide (0 ≤ t353) = true := decide_eq_true c4
  clear c4
  by_cases c5 : t353 ≤ t354
  ·rw [if_pos c5] at H
   have c5b0 := eq_true c5
   have c5b1 : decide (t353 ≤ t354) = true := decide_eq_true c5
   clear c5
   by_cases c6 : t354 ≤ (y350.length : Int)
   ·rw [if_pos c6] at H
    have c6b0 := eq_true c6
    have c6b1 : decide (t354 ≤ (y350.length : Int)) = true := decide_eq_true c6
    clear c6
    obtain ⟨y355, hy355⟩ : ∃ y_ : List Int, y_ = (y350.take (t353 : Int).toNat) := ⟨_, rfl⟩
    replace H : (some y355) = some r := by first | (rw [hy355]; with_reducible exact H) | (have H2_ := (Option.bind_some _ _).symm.trans H; rw [hy355]; with_reducible exact H2_) | (have H2_ := (Option.bind_some _ _).symm.trans H; with_reducible exact H2_) | with_reducible exact H | (rw [hy355]; exact H) | exact H
    have Ny355 := Aside0.mk hy355
    clear hy355
    obtain rfl := Option.some.inj H
    go_enter Tryd.func69, Tryd.ntmps69
    try go_wp2_with (first | ((with_reducible refine gate_dst (N := 1) rfl ?_); refine box_event ?hg (N := 1) ?hd (cs := #[.int .i64 a0_0, .int .i64 a0_1, .int .i64 a0_2, .int .i64 a0_3, .int .i64 a0_4, .string a0_5, .string a0_6]) (t := 43) ?hr ?_; (case hd => rfl); (case hg => rfl); (case hr => first | (go_simp; done) | (go_simp; rfl)); intro gb349 hg w7 hbox hb; have n0_ := Aside0.mk (below_step (bz0 HB.out) hb); have n1_ := Aside0.mk (hbox); have n2_ := Aside0.mk ((by rw [hg]; exact (below_size (bz0 HB.out)) : w.heap.size ≤ gb349)); have n3_ := Aside0.mk ((by rw [hg]; exact (below_size (bz0 HB.out)) : w.heap.size ≤ gb349)); clear HB; have HB := n0_; have BK349 := n1_; have GW349 := n2_; have GE349 := n3_; clear n0_ n1_ n2_ n3_; clear hb hbox hg))
    have n0_ := Aside0.mk (blk_drew BK349.out)
    have n1_ := Aside0.mk (below_drew1 HB.out)
    clear BK349
    clear HB
    have BK349 := n0_
    have HB := n1_
    clear n0_ n1_
    refine start_ (n := 15) (S := fun w' => w'.cell? ⟨gb349, 0, none⟩ = some (.int .i64 a0_0) ∧ w'.cell? ⟨gb349, 1, none⟩ = some (.int .i64 a0_1) ∧ w'.cell? ⟨gb349, 2, none⟩ = some (.int .i64 a0_2) ∧ w'.cell? ⟨gb349, 3, none⟩ = some (.int .i64 a0_3) ∧ w'.cell? ⟨gb349, 4, none⟩ = some (.int .i64 a0_4) ∧ w'.cell? ⟨gb349, 5, none⟩ = some (.string a0_5) ∧ w'.cell? ⟨gb349, 6, none⟩ = some (.string a0_6)) (ds := []) #[false, false, false, false, false, false, false, false, false, false, false, false, false, false, false] (by kernel_rfl) rfl rfl ⟨(blk_cell BK349.out 0).trans rfl, (blk_cell BK349.out 1).trans rfl, (blk_cell BK349.out 2).trans rfl, (blk_cell BK349.out 3).trans rfl, (blk_cell BK349.out 4).trans rfl, (blk_cell BK349.out 5).trans rfl, (blk_cell BK349.out 6).trans rfl⟩ (fun hHeld => ?_); refine with_tabW impl_Kids.tab1 impl_Kids.bits1 (fun HT_ HW_ => ?_)
    generalize w7.drew = w8 at BK349 HB hHeld ⊢
    refine pure_ (i := 0) (N := some 3) (v := ?_) (a' := ?_) #[true, false, false, false, false, false, false, false, false, false, false, false, false, false, false] rfl rfl (any_of HT_.out (by kernel_rfl)) (fun _ _ _ h => h) (Or.inl ⟨by rfl, ?_⟩) ?_ ?_
    rotate_left
    ·intro w'
     go_simp
     with_reducible rfl
    rotate_left
    ·simp only [Act.put, List.setIfInBounds_toArray, List.set_cons_zero, List.set_cons_succ, i64_w, i32_w]
     rfl
    refine pure_ (i := 2) (N := some 5) (v := ?_) (a' := ?_) #[true, false, true, false, false, false, false, false, false, false, false, false, false, false, false] rfl rfl (any_of HT_.out (by kernel_rfl)) (fun _ _ _ h => h) (Or.inl ⟨by rfl, ?_⟩) ?_ ?_
    rotate_left
    ·intro w'
     go_simp
     with_reducible rfl
    rotate_left
    ·simp only [Act.put, List.setIfInBounds_toArray, List.set_cons_zero, List.set_cons_succ, i64_w, i32_w]
     rfl
    refine pure_ (i := 4) (N := some 7) (v := ?_) (a' := ?_) #[true, false, true, false, true, false, false, false, false, false, false, false, false, false, false] rfl rfl (any_of HT_.out (by kernel_rfl)) (fun _ _ _ h => h) (Or.inl ⟨by rfl, ?_⟩) ?_ ?_
    rotate_left
    ·intro w'
     go_simp
     with_reducible rfl
    rotate_left
    ·simp only [Act.put, List.setIfInBounds_toArray, List.set_cons_zero, List.set_cons_succ, i64_w, i32_w]
     rfl
    refine pure_ (i := 7) (N := some 10) (v := ?_) (a' := ?_) #[true, false, true, false, true, false, false, true, false, false, false, false, false, false, false] rfl rfl (any_of HT_.out (by kernel_rfl)) (fun _ _ _ h => h) (Or.inl ⟨by rfl, ?_⟩) ?_ ?_
    rotate_left
    ·intro w'
     go_simp
     with_reducible rfl
    rotate_left
    ·simp only [Act.put, List.setIfInBounds_toArray, List.set_cons_zero, List.set_cons_succ, i64_w, i32_w]
     rfl
    refine pure_ (i := 10) (N := some 13) (v := ?_) (a' := ?_) #[true, false, true, false, true, false, false, true, false, false, true, false, false, false, false] rfl rfl (any_of HT_.out (by kernel_rfl)) (fun _ _ _ h => h) (Or.inl ⟨by rfl, ?_⟩) ?_ ?_
    rotate_left
    ·intro w'
     go_simp
     with_reducible rfl
    rotate_left
    ·simp only [Act.put, List.setIfInBounds_toArray, List.set_cons_zero, List.set_cons_succ, i64_w, i32_w]
     rfl
    refine take_ (i := 1) (N := some 4) (v := ?_) (a' := ?_) #[true, true, true, false, true, false, false, true, false, false, true, false, false, false, false] rfl rfl (take_ofW HT_.out HW_.out (by kernel_rfl)) (fun _ _ _ h => h) (Or.inl ⟨by rfl, ?_⟩) hHeld ?_ ?_
    rotate_left
    ·rintro w' ⟨s0, s1, s2, s3, s4, s5, s6⟩
     go_simp
     with_reducible rfl
    rotate_left
    ·simp only [Act.put, List.setIfInBounds_toArray, List.set_cons_zero, List.set_cons_succ, i64_w, i32_w]
     rfl
    refine take_ (i := 3) (N := some 6) (v := ?_) (a' := ?_) #[true, true, true, true, true, false, false, true, false, false, true, false, false, false, false] rfl rfl (take_ofW HT_.out HW_.out (by kernel_rfl)) (fun _ _ _ h => h) (Or.inl ⟨by rfl, ?_⟩) hHeld ?_ ?_
    rotate_left
    ·rintro w' ⟨s0, s1, s2, s3, s4, s5, s6⟩
     go_simp
     with_reducible rfl
    rotate_left
    ·simp only [Act.put, List.setIfInBounds_toArray, List.set_cons_zero, List.set_cons_succ, i64_w, i32_w]
     rfl
    refine take_ (i := 5) (N := some 8) (v := ?_) (a' := ?_) #[true, true, true, true, true, true, false, true, false, false, true, false, false, false, false] rfl rfl (take_ofW HT_.out HW_.out (by kernel_rfl)) (fun _ _ _ h => h) (Or.inl ⟨by rfl, ?_⟩) hHeld ?_ ?_
    rotate_left
    ·rintro w' ⟨s0, s1, s2, s3, s4, s5, s6⟩
     go_simp
     with_reducible rfl
    rotate_left
    ·simp only [Act.put, List.setIfInBounds_toArray, List.set_cons_zero, List.set_cons_succ, i64_w, i32_w]
     rfl
    refine take_ (i := 8) (N := some 11) (v := ?_) (a' := ?_) #[true, true, true, true, true, true, false, true, true, false, true, false, false, false, false] rfl rfl (take_ofW HT_.out HW_.out (by kernel_rfl)) (fun _ _ _ h => h) (Or.inl ⟨by rfl, ?_⟩) hHeld ?_ ?_
    rotate_left
    ·rintro w' ⟨s0, s1, s2, s3, s4, s5, s6⟩
     go_simp
     with_reducible rfl
    rotate_left
    ·simp only [Act.put, List.setIfInBounds_toArray, List.set_cons_zero, List.set_cons_succ, i64_w, i32_w]
     rfl
    refine take_ (i := 11) (N := some 14) (v := ?_) (a' := ?_) #[true, true, true, true, true, true, false, true, true, false, true, true, false, false, false] rfl rfl (take_ofW HT_.out HW_.out (by kernel_rfl)) (fun _ _ _ h => h) (Or.inl ⟨by rfl, ?_⟩) hHeld ?_ ?_
    rotate_left
    ·rintro w' ⟨s0, s1, s2, s3, s4, s5, s6⟩
     go_simp
     with_reducible rfl
    rotate_left
    ·simp only [Act.put, List.setIfInBounds_toArray, List.set_cons_zero, List.set_cons_succ, i64_w, i32_w]
     rfl
    refine join_ (σ := Value) 2 #[true, true, true, true, true, true, true, true, true, true, true, true, true, false, false] (fun s_ => [(9, s_), (12, .int .i64 t353), (15, .int .i64 t354)]) (fun s_ w' => (w'.cell? ⟨gb349, 0, none⟩ = some (.int .i64 a0_0) ∧ w'.cell? ⟨gb349, 1, none⟩ = some (.int .i64 a0_1) ∧ w'.cell? ⟨gb349, 2, none⟩ = some (.int .i64 a0_2) ∧ w'.cell? ⟨gb349, 3, none⟩ = some (.int .i64 a0_3) ∧ w'.cell? ⟨gb349, 4, none⟩ = some (.int .i64 a0_4) ∧ w'.cell? ⟨gb349, 5, none⟩ = some (.string a0_5) ∧ w'.cell? ⟨gb349, 6, none⟩ = some (.string a0_6)) ∧ (Kd.R (Kd.int .i64) 3 w' w.heap.size (fun k_ => (w.heap.size ≤ k_)) s_ y350) ∧ (w'.heap[gb349]? = some (.cells #[.int .i64 a0_0, .int .i64 a0_1, .int .i64 a0_2, .int .i64 a0_3, .int .i64 a0_4, .string a0_5, .string a0_6] 43 (0, 0))) ∧ (Below w.heap.size w w')) ?_ ?_
    rotate_left
    ·intro hCont
     refine two_ (i := 6) (j := 9) (Ni := some 9) (Nj := some 12) #[true, true, true, true, true, true, true, true, true, false, true, true, false, false, false] #[true, true, true, true, true, true, false, true, true, true, true, true, false, false, false] rfl rfl rfl rfl (two_of HT_.out (by kernel_rfl)) (by decide) (by decide) (fun K hK => ?_) (fun K hK => ?_)
     ·skip
      refine Kd.R_lit_step (Kd.int .i64) _ 3 ?hg (N := 9) ?hd (xs := ([a0_1, a0_2, a0_3] : List Int)) (inner := [.int .i64 a0_1, .int .i64 a0_2, .int .i64 a0_3]) (ok := fun _ => True) (okp := fun _ => True) ?hr ?hp (fun _ hk => hk) trivial (Below.refl _ _) (Nat.le_refl _) (by simp) ?_; (case hd => rfl); (case hg => rfl); (case hr => first | (go_simp; done) | (go_simp; rfl)); (case hp => exact (Reps.one (show Kd.M (Kd.int .i64) _ _ _ a0_1 [.int .i64 a0_1] from rfl) (Reps.one (show Kd.M (Kd.int .i64) _ _ _ a0_2 [.int .i64 a0_2] from rfl) (Reps.one (show Kd.M (Kd.int .i64) _ _ _ a0_3 [.int .i64 a0_3] from rfl) (Reps.none _ _)))))
      intro v351 w9 ho10 hb hg_ hnew_
      clear hg_ hnew_
      (first | rw [← Ny350.out] at ho10 | (simp only [Int.reduceToNat] at ho10; rw [← Ny350.out] at ho10))
      have n0_ := Aside0.mk (Kd.R_lower (Kd.R_newM (M := fun k_ => (w.heap.size ≤ k_)) ho10 (below_size (bz1 HB.out GE349.out)) (fun k_ h_ => h_)) (below_size (bz1 HB.out GE349.out)))
      have n1_ := Aside0.mk (blk_below (g := gb349) (o := .cells #[.int .i64 a0_0, .int .i64 a0_1, .int .i64 a0_2, .int .i64 a0_3, .int .i64 a0_4, .string a0_5, .string a0_6] 43 (0, 0)) (kz BK349.out) hb)
      have n2_ := Aside0.mk (below_step (bz1 HB.out GE349.out) hb)
      clear BK349
      clear HB
      have HO352 := n0_
      have BK349 := n1_
      have HB := n2_
      clear n0_ n1_ n2_
      clear hb ho10
      refine hK.out _ _ ⟨(blk_cell BK349.out 0).trans rfl, (blk_cell BK349.out 1).trans rfl, (blk_cell BK349.out 2).trans rfl, (blk_cell BK349.out 3).trans rfl, (blk_cell BK349.out 4).trans rfl, (blk_cell BK349.out 5).trans rfl, (blk_cell BK349.out 6).trans rfl⟩ (fun hHeld => ?_)
      clear hK K
      refine norm_ (a' := ?_) ?_ ?_
      rotate_left
      ·show Act.put _ (some 9) _ = _
       simp only [Act.put, List.setIfInBounds_toArray, List.set_cons_zero, List.set_cons_succ, i64_w, i32_w]
       rfl
      refine one_ (i := 9) (N := some 12) #[true, true, true, true, true, true, true, true, true, true, true, true, false, false, false] rfl rfl (one_of HT_.out (by kernel_rfl)) (by decide) (fun K hK => ?_)
      refine goes_ Tryd.func82 (by kernel_rfl) rfl #[.int .i64 a0_0] (by rfl) rfl rfl lz ?_
      with_reducible refine (impl_Arity.calls k a0_0 t353 _ A2.out).mono ?_
      rintro e w' ⟨rfl, ⟨nd, rfl⟩⟩
      refine ⟨_, rfl, ?_⟩
      refine hK.out _ _ ⟨(blk_cell BK349.out 0).trans rfl, (blk_cell BK349.out 1).trans rfl, (blk_cell BK349.out 2).trans rfl, (blk_cell BK349.out 3).trans rfl, (blk_cell BK349.out 4).trans rfl, (blk_cell BK349.out 5).trans rfl, (blk_cell BK349.out 6).trans rfl⟩ (fun hHeld => ?_)
      clear hK K
      refine norm_ (a' := ?_) ?_ ?_
      rotate_left
      ·show Act.put _ (some 12) _ = _
       simp only [Act.put, List.setIfInBounds_toArray, List.set_cons_zero, List.set_cons_succ, i64_w, i32_w]
       rfl
      refine one_ (i := 12) (N := some 15) #[true, true, true, true, true, true, true, true, true, true, true, true, true, false, false] rfl rfl (one_of HT_.out (by kernel_rfl)) (by decide) (fun K hK => ?_)
      refine goes_ Tryd.func82 (by kernel_rfl) rfl #[.int .i64 a0_0] (by rfl) rfl rfl lz ?_
      with_reducible refine (impl_Arity.calls k a0_0 t354 _ A3.out).mono ?_
      rintro e w' ⟨rfl, ⟨nd, rfl⟩⟩
      refine ⟨_, rfl, ?_⟩
      refine hK.out _ _ ⟨(blk_cell BK349.out 0).trans rfl, (blk_cell BK349.out 1).trans rfl, (blk_cell BK349.out 2).trans rfl, (blk_cell BK349.out 3).trans rfl, (blk_cell BK349.out 4).trans rfl, (blk_cell BK349.out 5).trans rfl, (blk_cell BK349.out 6).trans rfl⟩ (fun hHeld => ?_)
      clear hK K
      refine norm_ (a' := ?_) ?_ ?_
      rotate_left
      ·show Act.put _ (some 15) _ = _
       simp only [Act.put, List.setIfInBounds_toArray, List.set_cons_zero, List.set_cons_succ, i64_w, i32_w]
       rfl
      exact norm_ (by simp only [putAll, Act.put, List.setIfInBounds_toArray, List.set_cons_zero, List.set_cons_succ]) (hCont (v351) _ ⟨hHeld, (by (with_reducible repeat (first | apply Kd.R_alloc | apply Kd.R_drewN | apply Kd.R_drew)); exact Kd.R_mono HO352.out (fun _ hk => hk.1)), (kz BK349.out), (bz1 HB.out GE349.out)⟩)
     ·skip
      refine goes_ Tryd.func82 (by kernel_rfl) rfl #[.int .i64 a0_0] (by rfl) rfl rfl lz ?_
      with_reducible refine (impl_Arity.calls k a0_0 t353 _ A2.out).mono ?_
      rintro e w' ⟨rfl, ⟨nd, rfl⟩⟩
      refine ⟨_, rfl, ?_⟩
      refine hK.out _ _ ⟨(blk_cell BK349.out 0).trans rfl, (blk_cell BK349.out 1).trans rfl, (blk_cell BK349.out 2).trans rfl, (blk_cell BK349.out 3).trans rfl, (blk_cell BK349.out 4).trans rfl, (blk_cell BK349.out 5).trans rfl, (blk_cell BK349.out 6).trans rfl⟩ (fun hHeld => ?_)
      clear hK K
      refine norm_ (a' := ?_) ?_ ?_
      rotate_left
      ·show Act.put _ (some 12) _ = _
       simp only [Act.put, List.setIfInBounds_toArray, List.set_cons_zero, List.set_cons_succ, i64_w, i32_w]
       rfl
      refine two_ (i := 6) (j := 12) (Ni := some 9) (Nj := some 15) #[true, true, true, true, true, true, true, true, true, true, true, true, false, false, false] #[true, true, true, true, true, true, false, true, true, true, true, true, true, false, false] rfl rfl rfl rfl (two_of HT_.out (by kernel_rfl)) (by decide) (by decide) (fun K hK => ?_) (fun K hK => ?_)
      ·skip
       refine Kd.R_lit_step (Kd.int .i64) _ 3 ?hg (N := 9) ?hd (xs := ([a0_1, a0_2, a0_3] : List Int)) (inner := [.int .i64 a0_1, .int .i64 a0_2, .int .i64 a0_3]) (ok := fun _ => True) (okp := fun _ => True) ?hr ?hp (fun _ hk => hk) trivial (Below.refl _ _) (Nat.le_refl _) (by simp) ?_; (case hd => rfl); (case hg => rfl); (case hr => first | (go_simp; done) | (go_simp; rfl)); (case hp => exact (Reps.one (show Kd.M (Kd.int .i64) _ _ _ a0_1 [.int .i64 a0_1] from rfl) (Reps.one (show Kd.M (Kd.int .i64) _ _ _ a0_2 [.int .i64 a0_2] from rfl) (Reps.one (show Kd.M (Kd.int .i64) _ _ _ a0_3 [.int .i64 a0_3] from rfl) (Reps.none _ _)))))
       intro v351 w9 ho10 hb hg_ hnew_
       clear hg_ hnew_
       (first | rw [← Ny350.out] at ho10 | (simp only [Int.reduceToNat] at ho10; rw [← Ny350.out] at ho10))
       have n0_ := Aside0.mk (Kd.R_lower (Kd.R_newM (M := fun k_ => (w.heap.size ≤ k_)) ho10 (below_size (bz1 HB.out GE349.out)) (fun k_ h_ => h_)) (below_size (bz1 HB.out GE349.out)))
       have n1_ := Aside0.mk (blk_below (g := gb349) (o := .cells #[.int .i64 a0_0, .int .i64 a0_1, .int .i64 a0_2, .int .i64 a0_3, .int .i64 a0_4, .string a0_5, .string a0_6] 43 (0, 0)) (kz BK349.out) hb)
       have n2_ := Aside0.mk (below_step (bz1 HB.out GE349.out) hb)
       clear BK349
       clear HB
       have HO352 := n0_
       have BK349 := n1_
       have HB := n2_
       clear n0_ n1_ n2_
       clear hb ho10
       refine hK.out _ _ ⟨(blk_cell BK349.out 0).trans rfl, (blk_cell BK349.out 1).trans rfl, (blk_cell BK349.out 2).trans rfl, (blk_cell BK349.out 3).trans rfl, (blk_cell BK349.out 4).trans rfl, (blk_cell BK349.out 5).trans rfl, (blk_cell BK349.out 6).trans rfl⟩ (fun hHeld => ?_)
       clear hK K
       refine norm_ (a' := ?_) ?_ ?_
       rotate_left
       ·show Act.put _ (some 9) _ = _
        simp only [Act.put, List.setIfInBounds_toArray, List.set_cons_zero, List.set_cons_succ, i64_w, i32_w]
        rfl
       refine one_ (i := 12) (N := some 15) #[true, true, true, true, true, true, true, true, true, true, true, true, true, false, false] rfl rfl (one_of HT_.out (by kernel_rfl)) (by decide) (fun K hK => ?_)
       refine goes_ Tryd.func82 (by kernel_rfl) rfl #[.int .i64 a0_0] (by rfl) rfl rfl lz ?_
       with_reducible refine (impl_Arity.calls k a0_0 t354 _ A3.out).mono ?_
       rintro e w' ⟨rfl, ⟨nd, rfl⟩⟩
       refine ⟨_, rfl, ?_⟩
       refine hK.out _ _ ⟨(blk_cell BK349.out 0).trans rfl, (blk_cell BK349.out 1).trans rfl, (blk_cell BK349.out 2).trans rfl, (blk_cell BK349.out 3).trans rfl, (blk_cell BK349.out 4).trans rfl, (blk_cell BK349.out 5).trans rfl, (blk_cell BK349.out 6).trans rfl⟩ (fun hHeld => ?_)
       clear hK K
       refine norm_ (a' := ?_) ?_ ?_
       rotate_left
       ·show Act.put _ (some 15) _ = _
        simp only [Act.put, List.setIfInBounds_toArray, List.set_cons_zero, List.set_cons_succ, i64_w, i32_w]
        rfl
       exact norm_ (by simp only [putAll, Act.put, List.setIfInBounds_toArray, List.set_cons_zero, List.set_cons_succ]) (hCont (v351) _ ⟨hHeld, (by (with_reducible repeat (first | apply Kd.R_alloc | apply Kd.R_drewN | apply Kd.R_drew)); exact Kd.R_mono HO352.out (fun _ hk => hk.1)), (kz BK349.out), (bz1 HB.out GE349.out)⟩)
      ·skip
       refine goes_ Tryd.func82 (by kernel_rfl) rfl #[.int .i64 a0_0] (by rfl) rfl rfl lz ?_
       with_reducible refine (impl_Arity.calls k a0_0 t354 _ A3.out).mono ?_
       rintro e w' ⟨rfl, ⟨nd, rfl⟩⟩
       refine ⟨_, rfl, ?_⟩
       refine hK.out _ _ ⟨(blk_cell BK349.out 0).trans rfl, (blk_cell BK349.out 1).trans rfl, (blk_cell BK349.out 2).trans rfl, (blk_cell BK349.out 3).trans rfl, (blk_cell BK349.out 4).trans rfl, (blk_cell BK349.out 5).trans rfl, (blk_cell BK349.out 6).trans rfl⟩ (fun hHeld => ?_)
       clear hK K
       refine norm_ (a' := ?_) ?_ ?_
       rotate_left
       ·show Act.put _ (some 15) _ = _
        simp only [Act.put, List.setIfInBounds_toArray, List.set_cons_zero, List.set_cons_succ, i64_w, i32_w]
        rfl
       refine one_ (i := 6) (N := some 9) #[true, true, true, true, true, true, true, true, true, true, true, true, true, false, false] rfl rfl (one_of HT_.out (by kernel_rfl)) (by decide) (fun K hK => ?_)
       refine Kd.R_lit_step (Kd.int .i64) _ 3 ?hg (N := 9) ?hd (xs := ([a0_1, a0_2, a0_3] : List Int)) (inner := [.int .i64 a0_1, .int .i64 a0_2, .int .i64 a0_3]) (ok := fun _ => True) (okp := fun _ => True) ?hr ?hp (fun _ hk => hk) trivial (Below.refl _ _) (Nat.le_refl _) (by simp) ?_; (case hd => rfl); (case hg => rfl); (case hr => first | (go_simp; done) | (go_simp; rfl)); (case hp => exact (Reps.one (show Kd.M (Kd.int .i64) _ _ _ a0_1 [.int .i64 a0_1] from rfl) (Reps.one (show Kd.M (Kd.int .i64) _ _ _ a0_2 [.int .i64 a0_2] from rfl) (Reps.one (show Kd.M (Kd.int .i64) _ _ _ a0_3 [.int .i64 a0_3] from rfl) (Reps.none _ _)))))
       intro v351 w9 ho10 hb hg_ hnew_
       clear hg_ hnew_
       (first | rw [← Ny350.out] at ho10 | (simp only [Int.reduceToNat] at ho10; rw [← Ny350.out] at ho10))
       have n0_ := Aside0.mk (Kd.R_lower (Kd.R_newM (M := fun k_ => (w.heap.size ≤ k_)) ho10 (below_size (bz1 HB.out GE349.out)) (fun k_ h_ => h_)) (below_size (bz1 HB.out GE349.out)))
       have n1_ := Aside0.mk (blk_below (g := gb349) (o := .cells #[.int .i64 a0_0, .int .i64 a0_1, .int .i64 a0_2, .int .i64 a0_3, .int .i64 a0_4, .string a0_5, .string a0_6] 43 (0, 0)) (kz BK349.out) hb)
       have n2_ := Aside0.mk (below_step (bz1 HB.out GE349.out) hb)
       clear BK349
       clear HB
       have HO352 := n0_
       have BK349 := n1_
       have HB := n2_
       clear n0_ n1_ n2_
       clear hb ho10
       refine hK.out _ _ ⟨(blk_cell BK349.out 0).trans rfl, (blk_cell BK349.out 1).trans rfl, (blk_cell BK349.out 2).trans rfl, (blk_cell BK349.out 3).trans rfl, (blk_cell BK349.out 4).trans rfl, (blk_cell BK349.out 5).trans rfl, (blk_cell BK349.out 6).trans rfl⟩ (fun hHeld => ?_)
       clear hK K
       refine norm_ (a' := ?_) ?_ ?_
       rotate_left
       ·show Act.put _ (some 9) _ = _
        simp only [Act.put, List.setIfInBounds_toArray, List.set_cons_zero, List.set_cons_succ, i64_w, i32_w]
        rfl
       exact norm_ (by simp only [putAll, Act.put, List.setIfInBounds_toArray, List.set_cons_zero, List.set_cons_succ]) (hCont (v351) _ ⟨hHeld, (by (with_reducible repeat (first | apply Kd.R_alloc | apply Kd.R_drewN | apply Kd.R_drew)); exact Kd.R_mono HO352.out (fun _ hk => hk.1)), (kz BK349.out), (bz1 HB.out GE349.out)⟩)
    rintro v351 w11 ⟨hS_, h0_, h1_, h2_⟩
    have n0_ : Aside0 (Kd.R (Kd.int .i64) 3 w11 w.heap.size (fun k_ => (w.heap.size ≤ k_)) v351 y350) := ⟨h0_⟩
    have n1_ : Aside0 (w11.heap[gb349]? = some (.cells #[.int .i64 a0_0, .int .i64 a0_1, .int .i64 a0_2, .int .i64 a0_3, .int .i64 a0_4, .string a0_5, .string a0_6] 43 (0, 0))) := ⟨h1_⟩
    have n2_ : Aside0 (Below w.heap.size w w11) := ⟨h2_⟩
    clear BK349
    clear HB
    clear h0_ h1_ h2_
    have HO352 := n0_
    have BK349 := n1_
    have HB := n2_
    clear n0_ n1_ n2_
    have hHeld : w11.cell? ⟨gb349, 0, none⟩ = some (.int .i64 a0_0) ∧ w11.cell? ⟨gb349, 1, none⟩ = some (.int .i64 a0_1) ∧ w11.cell? ⟨gb349, 2, none⟩ = some (.int .i64 a0_2) ∧ w11.cell? ⟨gb349, 3, none⟩ = some (.int .i64 a0_3) ∧ w11.cell? ⟨gb349, 4, none⟩ = some (.int .i64 a0_4) ∧ w11.cell? ⟨gb349, 5, none⟩ = some (.string a0_5) ∧ w11.cell? ⟨gb349, 6, none⟩ = some (.string a0_6) := hS_
    obtain ⟨Ao13, co13, eo13⟩ := Kd.R_slice HO352.out
    (first | subst eo13 | (injection eo13 with f1_ f2_ f3_; have f4_ := f1_.symm; have f5_ := f3_.symm; clear f1_ f2_ f3_; subst f4_; subst f5_))
    have q12 : (t353 : Int) ≤ ((y350.length : Int) : Int) := Int.le_trans (b := (t354 : Int)) (of_decide_eq_true az) (of_decide_eq_true az)
    obtain ⟨i012, hi012, _, hsz12, _⟩ := info_parts info3
    have hroom12 : y350.length ≤ co13 := (Kd.R_reads' HO352.out).2.1
    have hC12 : Kd.F (Kd.int .i64) _ _ Ao13 y350.length y350 := (Kd.V_at (base := w.heap.size) (Kd.R_V (Kd.R_types (HO352.out) BK349.out (by decide)))).2.2
    have qm12 : (t353 : Int) ≤ (t354 : Int) := of_decide_eq_true az
    have qn12 : (t354 : Int) ≤ ((y350.length : Int) : Int) := of_decide_eq_true az
    have hcut12 := cut_to3 (P := Tryd.prog) 47 3 .i64 .i64 Tryd.underlying47 hi012 Ao13 y350.length co13 t353 t354 (of_decide_eq_true az) qm12 qn12 hroom12
    have hr12 := Kd.F_take (m := (t353 : Int).toNat) hC12 (by omega)
    have hy12 : y355.length = (t353 : Int).toNat := (by rw [Ny355.out, List.length_take]; omega)
    rw [← Ny355.out] at hr12
    rw [← hy12] at hcut12
    have HO358 := Aside0.mk (show Kd.V (Kd.int .i64) 3 _ w.heap.size _ (.slice Ao13 y355.length (t354 : Int).toNat) y355 from Kd.V_mk (by omega) hr12)
    have HC358 := Aside0.mk (show y355.length ≤ (t354 : Int).toNat from by omega)
    clear hr12 hC12 hroom12 hi012 hsz12 qm12 qn12
    have KY12 := Aside0.mk hy12
    clear hy12
    replace q12 := eq_true q12
    refine norm_ (a' := ?_) ?_ ?_
    rotate_left
    ·simp only [putAll, Act.put, List.setIfInBounds_toArray, List.set_cons_zero, List.set_cons_succ]
     rfl
    refine pure_ (i := 13) (N := some 16) (v := ?_) (a' := ?_) #[true, true, true, true, true, true, true, true, true, true, true, true, true, true, false] rfl rfl (any_of HT_.out (by kernel_rfl)) (fun _ _ _ h => h) (Or.inl ⟨by rfl, ?_⟩) ?_ ?_
    rotate_left
    ·intro w'
     go_simp
     with_reducible rfl
    rotate_left
    ·simp only [Act.put, List.setIfInBounds_toArray, List.set_cons_zero, List.set_cons_succ, i64_w, i32_w]
     rfl
    refine pure_ (i := 14) (N := some 2) (v := ?_) (a' := ?_) #[true, true, true, true, true, true, true, true, true, true, true, true, true, true, true] rfl rfl (any_of HT_.out (by kernel_rfl)) (fun _ _ _ h => h) (Or.inl ⟨by rfl, ?_⟩) ?_ ?_
    rotate_left
    ·intro w'
     go_simp
     with_reducible rfl
    rotate_left
    ·simp only [Act.put, List.setIfInBounds_toArray, List.set_cons_zero, List.set_cons_succ, i64_w, i32_w]
     rfl
    refine done_ (done_of HT_.out (by kernel_rfl)) ?_
    try go_wp2
    go_ret
    exact ⟨_, gz, by (with_reducible repeat (first | apply Kd.V_alloc | apply Kd.V_drewN | apply Kd.V_drew)); exact Kd.V_mono HO358.out (fun _ hk => hk.1), (bz1 HB.out GE349.out)⟩
   ·rw [if_neg c6] at H
    exact absurd H (by simp)
  ·rw [if_neg c5] at H
   exact absurd H (by simp)
 ·rw [if_neg c4] at H
  exact absurd H (by simp)
mutual
def impl_NodesOk.l0 : Nat → List (S43) → List Int → List (S43) → Int → Int → Option (Bool)
 | 0, _, _, _, _, _ => none
 | k + 1, x0, x3, x16, x17, x18 => if x18 < x17 then (if 0 ≤ x18 then (if x18 < (x16.length : Int) then ((impl_fieldsOk.f k ((rd_T43 x16 x18).f0) ((rd_T43 x16 x18).f1) ((rd_T43 x16 x18).f2) ((rd_T43 x16 x18).f3) ((rd_T43 x16 x18).f4) ((rd_T43 x16 x18).f5) ((rd_T43 x16 x18).f6)).bind fun t366 => (if t366 = true then ((impl_Kids.f k ((rd_T43 x16 x18).f0) ((rd_T43 x16 x18).f1) ((rd_T43 x16 x18).f2) ((rd_T43 x16 x18).f3) ((rd_T43 x16 x18).f4) ((rd_T43 x16 x18).f5) ((rd_T43 x16 x18).f6)).bind fun t367 => (impl_NodesOk.l1 k x0 x3 x18 t367 x18 (wrap64 ((t367.length : Int) - 1)) x16 x17 x18)) else (some false))) else (none)) else (none)) else (if 0 ≤ (wrap64 ((x0.length : Int) - 1)) then (if (wrap64 ((x0.length : Int) - 1)) < (x3.length : Int) then (some ((rd x3 (wrap64 ((x0.length : Int) - 1))) == 0)) else (none)) else (none))
def impl_NodesOk.l1 : Nat → List (S43) → List Int → Int → List Int → Int → Int → List (S43) → Int → Int → Option (Bool)
 | 0, _, _, _, _, _, _, _, _, _ => none
 | k + 1, x0, x3, x4, x6, x7, x8, x16, x17, x18 => if x8 ≥ 0 then (if x7 = 0 then (some false) else (if 0 ≤ x8 then (if x8 < (x6.length : Int) then (if (rd x6 x8) = (wrap64 (x7 - 1)) then (if 0 ≤ (wrap64 (x7 - 1)) then (if (wrap64 (x7 - 1)) < (x3.length : Int) then (impl_NodesOk.l1 k x0 x3 x4 x6 (rd x3 (wrap64 (x7 - 1))) (wrap64 (x8 - 1)) x16 x17 x18) else (none)) else (none)) else (some false)) else (none)) else (none))) else (if 0 ≤ x4 then (if x4 < (x3.length : Int) then (impl_NodesOk.l0 k x0 (x3.set (x4 : Int).toNat x7) x16 x17 (wrap64 (x18 + 1))) else (none)) else (none))
end
def impl_NodesOk.f (k : Nat) (l0 : List (S43)) : Option (Bool) := (impl_in.f (l0.length : Int) 1 150).bind fun t359 => (if t359 = true then (if 0 ≤ (l0.length : Int) then (if ((l0.length : Int) : Int).toNat ≤ 35184372088832 then (impl_NodesOk.l0 k l0 (List.replicate ((l0.length : Int) : Int).toNat 0) l0 (l0.length : Int) 0) else (none)) else (none)) else (some false))
theorem impl_NodesOk.mono_l : ∀ k, (∀ y0 y1 y2 y3 y4, LeO (impl_NodesOk.l0 k y0 y1 y2 y3 y4) (impl_NodesOk.l0 (k + 1) y0 y1 y2 y3 y4)) ∧ (∀ y0 y1 y2 y3 y4 y5 y6 y7 y8, LeO (impl_NodesOk.l1 k y0 y1 y2 y3 y4 y5 y6 y7 y8) (impl_NodesOk.l1 (k + 1) y0 y1 y2 y3 y4 y5 y6 y7 y8))
 | 0 => ⟨fun _ _ _ _ _ r h => by simp [impl_NodesOk.l0] at h, fun _ _ _ _ _ _ _ _ _ r h => by simp [impl_NodesOk.l1] at h⟩
 | k + 1 => by
  obtain ⟨ih0, ih1⟩ := impl_NodesOk.mono_l k
  refine ⟨?_, ?_⟩
  ·intro y0 y1 y2 y3 y4
   unfold impl_NodesOk.l0
   repeat' first
   | (with_reducible exact ih0 _ _ _ _ _)
   | (with_reducible exact ih1 _ _ _ _ _ _ _ _ _)
   | (with_reducible exact impl_Kids.mono _ _ _ _ _ _ _ _)
   | (with_reducible exact impl_fieldsOk.mono _ _ _ _ _ _ _ _)
   | (with_reducible exact LeO.refl _)
   | (with_reducible exact LeO.none _)
   | (with_reducible refine LeO.ite ?_ ?_)
   | (with_reducible refine LeO.bind ?_ (fun _ => ?_))
   | exact ih0 _ _ _ _ _
   | exact ih1 _ _ _ _ _ _ _ _ _
   | exact impl_Kids.mono _ _ _ _ _ _ _ _
   | exact impl_fieldsOk.mono _ _ _ _ _ _ _ _
   | exact LeO.none _
   | refine LeO.ite ?_ ?_
   | refine LeO.bind ?_ (fun _ => ?_)
  ·intro y0 y1 y2 y3 y4 y5 y6 y7 y8
   unfold impl_NodesOk.l1
   repeat' first
   | (with_reducible exact ih0 _ _ _ _ _)
   | (with_reducible exact ih1 _ _ _ _ _ _ _ _ _)
   | (with_reducible exact impl_Kids.mono _ _ _ _ _ _ _ _)
   | (with_reducible exact impl_fieldsOk.mono _ _ _ _ _ _ _ _)
   | (with_reducible exact LeO.refl _)
   | (with_reducible exact LeO.none _)
   | (with_reducible refine LeO.ite ?_ ?_)
   | (with_reducible refine LeO.bind ?_ (fun _ => ?_))
   | exact ih0 _ _ _ _ _
   | exact ih1 _ _ _ _ _ _ _ _ _
   | exact impl_Kids.mono _ _ _ _ _ _ _ _
   | exact impl_fieldsOk.mono _ _ _ _ _ _ _ _
   | exact LeO.none _
   | refine LeO.ite ?_ ?_
   | refine LeO.bind ?_ (fun _ => ?_)
theorem impl_NodesOk.mono : ∀ a0 k, LeO (impl_NodesOk.f k a0) (impl_NodesOk.f (k + 1) a0) := by
 intro a0 k
 obtain ⟨ih0, ih1⟩ := impl_NodesOk.mono_l k
 unfold impl_NodesOk.f
 repeat' first
   | (with_reducible exact ih0 _ _ _ _ _)
   | (with_reducible exact ih1 _ _ _ _ _ _ _ _ _)
   | (with_reducible exact impl_Kids.mono _ _ _ _ _ _ _ _)
   | (with_reducible exact impl_fieldsOk.mono _ _ _ _ _ _ _ _)
   | (with_reducible exact LeO.refl _)
   | (with_reducible exact LeO.none _)
   | (with_reducible refine LeO.ite ?_ ?_)
   | (with_reducible refine LeO.bind ?_ (fun _ => ?_))
   | exact ih0 _ _ _ _ _
   | exact ih1 _ _ _ _ _ _ _ _ _
   | exact impl_Kids.mono _ _ _ _ _ _ _ _
   | exact impl_fieldsOk.mono _ _ _ _ _ _ _ _
   | exact LeO.none _
   | refine LeO.ite ?_ ?_
   | refine LeO.bind ?_ (fun _ => ?_)
set_option maxHeartbeats 8000000 in
set_option maxRecDepth 100000 in
theorem impl_NodesOk.calls (k : Nat) (A0 : Option Addr) (c0 : Nat) (l0 : List (S43)) (r : Bool) (w : World) (hr0 : Kd.C k43 w A0 l0.length l0) (hc0 : l0.length ≤ c0) (h : impl_NodesOk.f k l0 = some r) :
  Calls Tryd.prog 36 #[.slice A0 l0.length c0] w fun e w' => e = .returned (.bool r) ∧ Below w.heap.size w w' := by
 have hu43 := Tryd.underlying43
 have HR0 := Aside0.mk hr0
 have HC0 := Aside0.mk hc0
 clear hr0 hc0
 have HB := Aside0.mk (Below.refl w.heap.size w)
 have H : ((impl_in.f (l0.length : Int) 1 150).bind fun t359 => (if t359 = true then (if 0 ≤ (l0.length : Int) then (if ((l0.length : Int) : Int).toNat ≤ 35184372088832 then (impl_NodesOk.l0 k l0 (List.replicate ((l0.length : Int) : Int).toNat 0) l0 (l0.length : Int) 0) else (none)) else (none)) else (some false))) = some r := h
 clear h
 replace H := Option.bind_eq_some_iff.mp H
 obtain ⟨t359, A20, H⟩ := H
 replace H : (if t359 = true then (if 0 ≤ (l0.length : Int) then (if ((l0.length : Int) : Int).toNat ≤ 35184372088832 then (impl_NodesOk.l0 k l0 (List.replicate ((l0.length : Int) : Int).toNat 0) l0 (l0.length : Int) 0) else (none)) else (none)) else (some false)) = some r := H
 have A2 := Aside0.mk A20
 clear A20
 by_cases c3 : t359 = true
 ·subst c3
  have H1 : (if 0 ≤ (l0.length : Int) then (if ((l0.length : Int) : Int).toNat ≤ 35184372088832 then (impl_NodesOk.l0 k l0 (List.replicate ((l0.length : Int) : Int).toNat 0) l0 (l0.length : Int) 0) else (none)) else (none)) = some r := by rw [if_pos rfl] at H; exact H
  clear H
  have H := H1
  clear H1
  by_cases c4 : 0 ≤ (l0.length : Int)
  ·rw [if_pos c4] at H
   have c4b0 := eq_true c4
   have c4b1 : decide (0 ≤ (l0.length : Int)) = true := decide_eq_true c4
   clear c4
   by_cases c5 : ((l0.length : Int) : Int).toNat ≤ 35184372088832
   ·rw [if_pos c5] at H
    have c5b0 := eq_true c5
    have c5b1 : decide (((l0.length : Int) : Int).toNat ≤ 35184372088832) = true := decide_eq_true c5
    clear c5
    obtain ⟨y360, hy360⟩ : ∃ y_ : List Int, y_ = (List.replicate ((l0.length : Int) : Int).toNat 0) := ⟨_, rfl⟩
    replace H : (impl_NodesOk.l0 k l0 y360 l0 (l0.length : Int) 0) = some r := by first | (rw [hy360]; with_reducible exact H) | (have H2_ := (Option.bind_some _ _).symm.trans H; rw [hy360]; with_reducible exact H2_) | (have H2_ := (Option.bind_some _ _).symm.trans H; with_reducible exact H2_) | with_reducible exact H | (rw [hy360]; exact H) | exact H
    have Ny360 := Aside0.mk hy360
    clear hy360
    have H' := Aside0.mk H
    clear H
    go_enter Tryd.func36, Tryd.ntmps36
    go_wp2_with (first | ((with_reducible refine gate_callee (f := 44) rfl ?_); refine goesL_ (some 11) rfl rfl Tryd.func44 (by kernel_rfl) rfl #[.int .i64 (l0.length : Int), .int .i64 1, .int .i64 150] rfl lz ?_; (with_reducible refine (impl_in.calls (l0.length : Int) 1 150 true _ A2.out).mono ?_); rintro e w' ⟨rfl, ⟨nd, rfl⟩⟩; refine ⟨_, rfl, ?_⟩) | ((with_reducible refine gate_dst (N := 15) rfl ?_); refine Kd.R_make (Kd.int .i64) _ 3 rfl (N := 15) rfl 47 _ _ rfl (l0.length : Int) rfl rfl Tryd.underlying47 (.int .i64 0) 8 info3 rfl (by decide) (by omega) 0 (ok := fun _ => True) (okp := fun _ => True) rfl (fun _ hk => hk) trivial (of_decide_eq_true az) (Nat.le_trans (Nat.mul_le_mul_right _ (of_decide_eq_true az : (l0.length : Int).toNat ≤ 35184372088832)) (by omega)) (Below.refl _ _) (Nat.le_refl _) ?_; intro v361 w6 ho7 hb hg_ hnew_; clear hg_ hnew_; (first | rw [← Ny360.out] at ho7 | (simp only [Int.reduceToNat] at ho7; rw [← Ny360.out] at ho7)); have n0_ := Aside0.mk (Kd.R_lower ho7 (below_size (bz0 HB.out))); have n1_ := Aside0.mk (below_step (bz0 HB.out) hb); clear HB; have HO362 := n0_; have HB := n1_; clear n0_ n1_; clear hb ho7))
    go_loopg [18] k (fun kq v18 w' => ∃ (x3_1 : List Int) (x18_1 : Int), v18 = .int .i64 x18_1 ∧ Aside0 (impl_NodesOk.l0 kq l0 x3_1 l0 (l0.length : Int) x18_1 = some r) ∧ Aside0 (kq ≤ k) ∧ Aside0 (Kd.R (Kd.int .i64) 3 w' w.heap.size (fun _ => True) v361 x3_1) ∧ Aside0 (Below w.heap.size w w'))
    case atStart => exact ⟨(y360), (0), ez, H', ⟨Nat.le_refl _⟩, ⟨by (with_reducible repeat (first | apply Kd.R_alloc | apply Kd.R_drewN | apply Kd.R_drew)); exact HO362.out⟩, ⟨(bz0 HB.out)⟩⟩
    case round =>
     clear H'
     try clear p2
     try clear c3
     try clear c4
     try clear c4b0
     try clear c4b1
     try clear c5
     try clear c5b0
     try clear c5b1
     obtain ⟨x3_1, x18_1, rfl, HA, HK1, HO_3, HB⟩ := hrel
     cases gk with
     | zero => exact absurd HA.out (by simp [impl_NodesOk.l0])
     | succ k1 =>
      have H := HA.out
      clear HA
      simp only [impl_NodesOk.l0] at H
      by_cases c8 : x18_1 < (l0.length : Int)
      ·rw [if_pos c8] at H
       have c8b0 : decide (x18_1 < (l0.length : Int)) = true := decide_eq_true c8
       clear c8
       by_cases c9 : 0 ≤ x18_1
       ·rw [if_pos c9] at H
        have c9b0 : decide (0 ≤ x18_1) = true := decide_eq_true c9
        clear c9
        by_cases c10 : x18_1 < (l0.length : Int)
        ·rw [if_pos c10] at H
         have c10b0 : decide (x18_1 < (l0.length : Int)) = true := decide_eq_true c10
         clear c10
         replace H := Option.bind_eq_some_iff.mp H
         obtain ⟨t366, A110, H⟩ := H
         replace H : (if t366 = true then ((impl_Kids.f k1 ((rd_T43 l0 x18_1).f0) ((rd_T43 l0 x18_1).f1) ((rd_T43 l0 x18_1).f2) ((rd_T43 l0 x18_1).f3) ((rd_T43 l0 x18_1).f4) ((rd_T43 l0 x18_1).f5) ((rd_T43 l0 x18_1).f6)).bind fun t367 => (impl_NodesOk.l1 k1 l0 x3_1 x18_1 t367 x18_1 (wrap64 ((t367.length : Int) - 1)) l0 (l0.length : Int) x18_1)) else (some false)) = some r := H
         have A11 := Aside0.mk A110
         clear A110
         by_cases c12 : t366 = true
         ·subst c12
          have H1 : ((impl_Kids.f k1 ((rd_T43 l0 x18_1).f0) ((rd_T43 l0 x18_1).f1) ((rd_T43 l0 x18_1).f2) ((rd_T43 l0 x18_1).f3) ((rd_T43 l0 x18_1).f4) ((rd_T43 l0 x18_1).f5) ((rd_T43 l0 x18_1).f6)).bind fun t367 => (impl_NodesOk.l1 k1 l0 x3_1 x18_1 t367 x18_1 (wrap64 ((t367.length : Int) - 1)) l0 (l0.length : Int) x18_1)) = some r := by rw [if_pos rfl] at H; exact H
          clear H
          have H := H1
          clear H1
          replace H := Option.bind_eq_some_iff.mp H
          obtain ⟨t367, A130, H⟩ := H
          replace H : (impl_NodesOk.l1 k1 l0 x3_1 x18_1 t367 x18_1 (wrap64 ((t367.length : Int) - 1)) l0 (l0.length : Int) x18_1) = some r := H
          have A13 := Aside0.mk A130
          clear A130
          have H' := Aside0.mk H
          clear H
          have p364 : 0 ≤ (x18_1 : Int) := of_decide_eq_true az
          have q364 : x18_1 < (l0.length : Int) := of_decide_eq_true az
          obtain ⟨ad364, e364, hx364_0, hx364_1, hx364_2, hx364_3, hx364_4, hx364_5, hx364_6⟩ := at_T43 HR0.out x18_1 p364 q364
          cases e364
          replace hx364_0 := hz HB.out hx364_0
          replace hx364_1 := hz HB.out hx364_1
          replace hx364_2 := hz HB.out hx364_2
          replace hx364_3 := hz HB.out hx364_3
          replace hx364_4 := hz HB.out hx364_4
          replace hx364_5 := hz HB.out hx364_5
          replace hx364_6 := hz HB.out hx364_6
          replace p364 := eq_true p364
          replace q364 := eq_true q364
          go_wp2_with (first | ((with_reducible refine gate_dst (N := 5) rfl ?_); refine box_event ?hg (N := 5) ?hd (cs := #[.int .i64 0, .int .i64 0, .int .i64 0, .int .i64 0, .int .i64 0, .string (⟨#[]⟩ : ByteArray), .string (⟨#[]⟩ : ByteArray)]) (t := 43) ?hr ?_; (case hd => rfl); (case hg => rfl); (case hr => first | (go_simp; done) | (go_simp; rfl)); intro gb365 hg w14 hbox hb; have n0_ := Aside0.mk (Kd.R_below (rz HO_3.out) hb); have n1_ := Aside0.mk (below_step (bz0 HB.out) hb); have n2_ := Aside0.mk (hbox); have n3_ := Aside0.mk ((by rw [hg]; exact (below_size (bz0 HB.out)) : w.heap.size ≤ gb365)); have n4_ := Aside0.mk ((by rw [hg]; exact (below_size (bz0 HB.out)) : w.heap.size ≤ gb365)); clear HO_3; clear HB; have HO_3 := n0_; have HB := n1_; have BK365 := n2_; have GW365 := n3_; have GE365 := n4_; clear n0_ n1_ n2_ n3_ n4_; clear hb hbox hg; have hcz15_0 : w14.cell? ⟨gb365, 0, none⟩ = some (.int .i64 0) := (blk_cell BK365.out 0).trans rfl; have hcz15_1 : w14.cell? ⟨gb365, 1, none⟩ = some (.int .i64 0) := (blk_cell BK365.out 1).trans rfl; have hcz15_2 : w14.cell? ⟨gb365, 2, none⟩ = some (.int .i64 0) := (blk_cell BK365.out 2).trans rfl; have hcz15_3 : w14.cell? ⟨gb365, 3, none⟩ = some (.int .i64 0) := (blk_cell BK365.out 3).trans rfl; have hcz15_4 : w14.cell? ⟨gb365, 4, none⟩ = some (.int .i64 0) := (blk_cell BK365.out 4).trans rfl; have hcz15_5 : w14.cell? ⟨gb365, 5, none⟩ = some (.string (⟨#[]⟩ : ByteArray)) := (blk_cell BK365.out 5).trans rfl; have hcz15_6 : w14.cell? ⟨gb365, 6, none⟩ = some (.string (⟨#[]⟩ : ByteArray)) := (blk_cell BK365.out 6).trans rfl; have hfz15_0 := blk_frozen BK365.out 0; have hfz15_1 := blk_frozen BK365.out 1; have hfz15_2 := blk_frozen BK365.out 2; have hfz15_3 := blk_frozen BK365.out 3; have hfz15_4 := blk_frozen BK365.out 4; have hfz15_5 := blk_frozen BK365.out 5; have hfz15_6 := blk_frozen BK365.out 6) | ((with_reducible refine gate_callee (f := 68) rfl ?_); refine goesL_ (some 24) rfl rfl Tryd.func68 (by kernel_rfl) rfl #[.agg #[.int .i64 ((rd_T43 l0 x18_1).f0), .int .i64 ((rd_T43 l0 x18_1).f1), .int .i64 ((rd_T43 l0 x18_1).f2), .int .i64 ((rd_T43 l0 x18_1).f3), .int .i64 ((rd_T43 l0 x18_1).f4), .string ((rd_T43 l0 x18_1).f5), .string ((rd_T43 l0 x18_1).f6)]] rfl lz ?_; (with_reducible refine (impl_fieldsOk.calls k1 ((rd_T43 l0 x18_1).f0) ((rd_T43 l0 x18_1).f1) ((rd_T43 l0 x18_1).f2) ((rd_T43 l0 x18_1).f3) ((rd_T43 l0 x18_1).f4) ((rd_T43 l0 x18_1).f5) ((rd_T43 l0 x18_1).f6) true _ A11.out).mono ?_); rintro e w16 ⟨rfl, hb⟩; refine ⟨_, rfl, ?_⟩; have n0_ := Aside0.mk (Kd.R_below (by (with_reducible repeat (first | apply Kd.R_alloc | apply Kd.R_drewN | apply Kd.R_drew)); exact (Kd.R_mono (Kd.R_far (p := ⟨gb365, 6, none⟩) (Kd.R_far (p := ⟨gb365, 5, none⟩) (Kd.R_far (p := ⟨gb365, 4, none⟩) (Kd.R_far (p := ⟨gb365, 3, none⟩) (Kd.R_far (p := ⟨gb365, 2, none⟩) (Kd.R_far (p := ⟨gb365, 1, none⟩) (Kd.R_far (p := ⟨gb365, 0, none⟩) (Kd.R_types HO_3.out BK365.out (by decide)) (fun _ hk => hk.2) (.int .i64 ((rd_T43 l0 x18_1).f0))) (fun _ hk => hk.2) (.int .i64 ((rd_T43 l0 x18_1).f1))) (fun _ hk => hk.2) (.int .i64 ((rd_T43 l0 x18_1).f2))) (fun _ hk => hk.2) (.int .i64 ((rd_T43 l0 x18_1).f3))) (fun _ hk => hk.2) (.int .i64 ((rd_T43 l0 x18_1).f4))) (fun _ hk => hk.2) (.string ((rd_T43 l0 x18_1).f5))) (fun _ hk => hk.2) (.string ((rd_T43 l0 x18_1).f6))) (fun _ h_ => h_.1))) hb); have n1_ := Aside0.mk (blk_below (g := gb365) (o := .cells #[.int .i64 ((rd_T43 l0 x18_1).f0), .int .i64 ((rd_T43 l0 x18_1).f1), .int .i64 ((rd_T43 l0 x18_1).f2), .int .i64 ((rd_T43 l0 x18_1).f3), .int .i64 ((rd_T43 l0 x18_1).f4), .string ((rd_T43 l0 x18_1).f5), .string ((rd_T43 l0 x18_1).f6)] 43 (0, 0)) (by (with_reducible repeat (first | refine blk_drewN ?_ _ | refine blk_drew ?_ | refine blk_alloc ?_ _)); refine blk_put (cs := #[.int .i64 ((rd_T43 l0 x18_1).f0), .int .i64 ((rd_T43 l0 x18_1).f1), .int .i64 ((rd_T43 l0 x18_1).f2), .int .i64 ((rd_T43 l0 x18_1).f3), .int .i64 ((rd_T43 l0 x18_1).f4), .string ((rd_T43 l0 x18_1).f5), .string (⟨#[]⟩ : ByteArray)]) ?_ 6 _ rfl; (with_reducible repeat (first | refine blk_drewN ?_ _ | refine blk_drew ?_ | refine blk_alloc ?_ _)); refine blk_put (cs := #[.int .i64 ((rd_T43 l0 x18_1).f0), .int .i64 ((rd_T43 l0 x18_1).f1), .int .i64 ((rd_T43 l0 x18_1).f2), .int .i64 ((rd_T43 l0 x18_1).f3), .int .i64 ((rd_T43 l0 x18_1).f4), .string (⟨#[]⟩ : ByteArray), .string (⟨#[]⟩ : ByteArray)]) ?_ 5 _ rfl; (with_reducible repeat (first | refine blk_drewN ?_ _ | refine blk_drew ?_ | refine blk_alloc ?_ _)); refine blk_put (cs := #[.int .i64 ((rd_T43 l0 x18_1).f0), .int .i64 ((rd_T43 l0 x18_1).f1), .int .i64 ((rd_T43 l0 x18_1).f2), .int .i64 ((rd_T43 l0 x18_1).f3), .int .i64 0, .string (⟨#[]⟩ : ByteArray), .string (⟨#[]⟩ : ByteArray)]) ?_ 4 _ rfl; (with_reducible repeat (first | refine blk_drewN ?_ _ | refine blk_drew ?_ | refine blk_alloc ?_ _)); refine blk_put (cs := #[.int .i64 ((rd_T43 l0 x18_1).f0), .int .i64 ((rd_T43 l0 x18_1).f1), .int .i64 ((rd_T43 l0 x18_1).f2), .int .i64 0, .int .i64 0, .string (⟨#[]⟩ : ByteArray), .string (⟨#[]⟩ : ByteArray)]) ?_ 3 _ rfl; (with_reducible repeat (first | refine blk_drewN ?_ _ | refine blk_drew ?_ | refine blk_alloc ?_ _)); refine blk_put (cs := #[.int .i64 ((rd_T43 l0 x18_1).f0), .int .i64 ((rd_T43 l0 x18_1).f1), .int .i64 0, .int .i64 0, .int .i64 0, .string (⟨#[]⟩ : ByteArray), .string (⟨#[]⟩ : ByteArray)]) ?_ 2 _ rfl; (with_reducible repeat (first | refine blk_drewN ?_ _ | refine blk_drew ?_ | refine blk_alloc ?_ _)); refine blk_put (cs := #[.int .i64 ((rd_T43 l0 x18_1).f0), .int .i64 0, .int .i64 0, .int .i64 0, .int .i64 0, .string (⟨#[]⟩ : ByteArray), .string (⟨#[]⟩ : ByteArray)]) ?_ 1 _ rfl; (with_reducible repeat (first | refine blk_drewN ?_ _ | refine blk_drew ?_ | refine blk_alloc ?_ _)); refine blk_put (cs := #[.int .i64 0, .int .i64 0, .int .i64 0, .int .i64 0, .int .i64 0, .string (⟨#[]⟩ : ByteArray), .string (⟨#[]⟩ : ByteArray)]) ?_ 0 _ rfl; (with_reducible repeat (first | refine blk_drewN ?_ _ | refine blk_drew ?_ | refine blk_alloc ?_ _)); exact BK365.out) hb); have n2_ := Aside0.mk (below_step (bz1 HB.out GE365.out) hb); clear HO_3; clear BK365; clear HB; have HO_3 := n0_; have BK365 := n1_; have HB := n2_; clear n0_ n1_ n2_; (try clear hb); (try clear hb2); (try clear hk); (try clear hi); have hcz17_0 : w16.cell? ⟨gb365, 0, none⟩ = some (.int .i64 ((rd_T43 l0 x18_1).f0)) := (blk_cell BK365.out 0).trans rfl; have hcz17_1 : w16.cell? ⟨gb365, 1, none⟩ = some (.int .i64 ((rd_T43 l0 x18_1).f1)) := (blk_cell BK365.out 1).trans rfl; have hcz17_2 : w16.cell? ⟨gb365, 2, none⟩ = some (.int .i64 ((rd_T43 l0 x18_1).f2)) := (blk_cell BK365.out 2).trans rfl; have hcz17_3 : w16.cell? ⟨gb365, 3, none⟩ = some (.int .i64 ((rd_T43 l0 x18_1).f3)) := (blk_cell BK365.out 3).trans rfl; have hcz17_4 : w16.cell? ⟨gb365, 4, none⟩ = some (.int .i64 ((rd_T43 l0 x18_1).f4)) := (blk_cell BK365.out 4).trans rfl; have hcz17_5 : w16.cell? ⟨gb365, 5, none⟩ = some (.string ((rd_T43 l0 x18_1).f5)) := (blk_cell BK365.out 5).trans rfl; have hcz17_6 : w16.cell? ⟨gb365, 6, none⟩ = some (.string ((rd_T43 l0 x18_1).f6)) := (blk_cell BK365.out 6).trans rfl; have hfz17_0 := blk_frozen BK365.out 0; have hfz17_1 := blk_frozen BK365.out 1; have hfz17_2 := blk_frozen BK365.out 2; have hfz17_3 := blk_frozen BK365.out 3; have hfz17_4 := blk_frozen BK365.out 4; have hfz17_5 := blk_frozen BK365.out 5; have hfz17_6 := blk_frozen BK365.out 6) | ((with_reducible refine gate_callee (f := 69) rfl ?_); refine goesL_ (some 27) rfl rfl Tryd.func69 (by kernel_rfl) rfl #[.agg #[.int .i64 ((rd_T43 l0 x18_1).f0), .int .i64 ((rd_T43 l0 x18_1).f1), .int .i64 ((rd_T43 l0 x18_1).f2), .int .i64 ((rd_T43 l0 x18_1).f3), .int .i64 ((rd_T43 l0 x18_1).f4), .string ((rd_T43 l0 x18_1).f5), .string ((rd_T43 l0 x18_1).f6)]] rfl lz ?_; (with_reducible refine (impl_Kids.calls k1 ((rd_T43 l0 x18_1).f0) ((rd_T43 l0 x18_1).f1) ((rd_T43 l0 x18_1).f2) ((rd_T43 l0 x18_1).f3) ((rd_T43 l0 x18_1).f4) ((rd_T43 l0 x18_1).f5) ((rd_T43 l0 x18_1).f6) t367 _ A13.out).mono ?_); rintro e w18 ⟨v368, rfl, ho0, hb⟩; refine ⟨_, rfl, ?_⟩; have n0_ := Aside0.mk (Kd.R_below (rz HO_3.out) hb); have n1_ := Aside0.mk (Kd.V_lower (Kd.V_mono (ok' := fun k_ => some k_ ≠ (v361 : Value).ownBlock ∧ k_ ≠ gb365) ho0 (fun k_ hk_ => ⟨(Kd.fresh' (Kd.R_lt (rz HO_3.out)) k_ hk_), (Kd.freshB (g := gb365) (o := .cells #[.int .i64 ((rd_T43 l0 x18_1).f0), .int .i64 ((rd_T43 l0 x18_1).f1), .int .i64 ((rd_T43 l0 x18_1).f2), .int .i64 ((rd_T43 l0 x18_1).f3), .int .i64 ((rd_T43 l0 x18_1).f4), .string ((rd_T43 l0 x18_1).f5), .string ((rd_T43 l0 x18_1).f6)] 43 (0, 0)) (kz BK365.out) k_ hk_)⟩)) (below_size (bz1 HB.out GE365.out))); have n2_ := Aside0.mk (blk_below (g := gb365) (o := .cells #[.int .i64 ((rd_T43 l0 x18_1).f0), .int .i64 ((rd_T43 l0 x18_1).f1), .int .i64 ((rd_T43 l0 x18_1).f2), .int .i64 ((rd_T43 l0 x18_1).f3), .int .i64 ((rd_T43 l0 x18_1).f4), .string ((rd_T43 l0 x18_1).f5), .string ((rd_T43 l0 x18_1).f6)] 43 (0, 0)) (kz BK365.out) hb); have n3_ := Aside0.mk (below_step (bz1 HB.out GE365.out) hb); clear HO_3; clear BK365; clear HB; have HO_3 := n0_; have HO369 := n1_; have BK365 := n2_; have HB := n3_; clear n0_ n1_ n2_ n3_; (try clear hb); (try clear hb2); (try clear hk); (try clear hi); (try clear ho0); obtain ⟨Ao19, co19, eo19⟩ := Kd.V_slice HO369.out; subst eo19))
          (try simp only [Act.put, List.setIfInBounds_toArray, List.set_cons_zero, List.set_cons_succ])
          go_loopg [7, 8] k1 (fun kq v7 v8 w' => ∃ (x7_2 : Int) (x8_2 : Int), v7 = .int .i64 x7_2 ∧ v8 = .int .i64 x8_2 ∧ Aside0 (impl_NodesOk.l1 kq l0 x3_1 x18_1 t367 x7_2 x8_2 l0 (l0.length : Int) x18_1 = some r) ∧ Aside0 (kq ≤ k1) ∧ Aside0 (Kd.R (Kd.int .i64) 3 w' w.heap.size (fun _ => True) v361 x3_1) ∧ Aside0 (Kd.V (Kd.int .i64) 3 w' w.heap.size (fun k_ => some k_ ≠ (v361 : Value).ownBlock ∧ k_ ≠ gb365) (.slice Ao19 t367.length co19) t367) ∧ Aside0 (w'.heap[gb365]? = some (.cells #[.int .i64 ((rd_T43 l0 x18_1).f0), .int .i64 ((rd_T43 l0 x18_1).f1), .int .i64 ((rd_T43 l0 x18_1).f2), .int .i64 ((rd_T43 l0 x18_1).f3), .int .i64 ((rd_T43 l0 x18_1).f4), .string ((rd_T43 l0 x18_1).f5), .string ((rd_T43 l0 x18_1).f6)] 43 (0, 0))) ∧ Aside0 (Below w.heap.size w w'))
          case atStart => exact ⟨(x18_1), (wrap64 ((t367.length : Int) - 1)), ez, ez, H', ⟨Nat.le_refl _⟩, ⟨by (with_reducible repeat (first | apply Kd.R_alloc | apply Kd.R_drewN | apply Kd.R_drew)); exact HO_3.out⟩, ⟨by (with_reducible repeat (first | apply Kd.V_alloc | apply Kd.V_drewN | apply Kd.V_drew)); exact HO369.out⟩, ⟨by (with_reducible repeat (first | refine blk_drewN ?_ _ | refine blk_drew ?_ | refine blk_alloc ?_ _)); exact BK365.out⟩, ⟨(bz1 HB.out GE365.out)⟩⟩
          case round =>
           clear H'
           try clear c1
           try clear p2
           try clear c3
           try clear p3
           try clear q3
           try clear hx3
           try clear c4
           try clear c4b0
           try clear c4b1
           try clear c5
           try clear c5b0
           try clear c5b1
           try clear c6
           try clear p6
           try clear c8
           try clear c8b0
           try clear c9
           try clear c9b0
           try clear c10
           try clear c10b0
           try clear c12
           try clear hcz15_0
           try clear hcz15_1
           try clear hcz15_2
           try clear hcz15_3
           try clear hcz15_4
           try clear hcz15_5
           try clear hcz15_6
           try clear hcz17_0
           try clear hcz17_1
           try clear hcz17_2
           try clear hcz17_3
           try clear hcz17_4
           try clear hcz17_5
           try clear hcz17_6
           try clear hfz15_0
           try clear hfz15_1
           try clear hfz15_2
           try clear hfz15_3
           try clear hfz15_4
           try clear hfz15_5
           try clear hfz15_6
           try clear hfz17_0
           try clear hfz17_1
           try clear hfz17_2
           try clear hfz17_3
           try clear hfz17_4
           try clear hfz17_5
           try clear hfz17_6
           try clear hx364_0
           try clear hx364_1
           try clear hx364_2
           try clear hx364_3
           try clear hx364_4
           try clear hx364_5
           try clear hx364_6
           try clear p2
           try clear p364
           try clear q364
           obtain ⟨x7_2, x8_2, rfl, rfl, HA, HK2, HO_3, HO_6, BK365, HB⟩ := hrel
           cases gk with
           | zero => exact absurd HA.out (by simp [impl_NodesOk.l1])
           | succ k2 =>
            have H := HA.out
            clear HA
            simp only [impl_NodesOk.l1] at H
            by_cases c20 : x8_2 ≥ 0
            ·rw [if_pos c20] at H
             have c20b0 : decide (0 ≤ x8_2) = true := decide_eq_true c20
             clear c20
             by_cases c21 : x7_2 = 0
             ·rw [if_pos c21] at H
              have c21b0 : (x7_2 == 0) = true := beq_iff_eq.mpr c21
              have c21b1 : (x7_2 != 0) = false := bne_eq_false_iff_eq.mpr c21
              clear c21
              obtain rfl := Option.some.inj H
              go_wp2
              go_ret
              exact ⟨gz, (bz1 HB.out GE365.out)⟩
             ·rw [if_neg c21] at H
              have c21b0 : (x7_2 == 0) = false := beq_eq_false_iff_ne.mpr c21
              have c21b1 : (x7_2 != 0) = true := bne_iff_ne.mpr c21
              by_cases c22 : 0 ≤ x8_2
              ·rw [if_pos c22] at H
               have c22b0 : decide (0 ≤ x8_2) = true := decide_eq_true c22
               clear c22
               by_cases c23 : x8_2 < (t367.length : Int)
               ·rw [if_pos c23] at H
                have c23b0 : decide (x8_2 < (t367.length : Int)) = true := decide_eq_true c23
                clear c23
                by_cases c24 : (rd t367 x8_2) = (wrap64 (x7_2 - 1))
                ·rw [if_pos c24] at H
                 have c24b0 : ((rd t367 x8_2) == (wrap64 (x7_2 - 1))) = true := beq_iff_eq.mpr c24
                 have c24b1 : ((rd t367 x8_2) != (wrap64 (x7_2 - 1))) = false := bne_eq_false_iff_eq.mpr c24
                 clear c24
                 obtain ⟨ji25, hji25⟩ : ∃ j_ : Int, (wrap64 (x7_2 - 1)) = j_ := ⟨_, rfl⟩
                 replace H : (if 0 ≤ (ji25) then (if (ji25) < (x3_1.length : Int) then (impl_NodesOk.l1 k2 l0 x3_1 x18_1 t367 (rd x3_1 (ji25)) (wrap64 (x8_2 - 1)) l0 (l0.length : Int) x18_1) else (none)) else (none)) = some r := by first | (rw [hji25] at H; exact H) | (simp only [hji25] at H ⊢; exact H)
                 (try rw [hji25] at c24b0)
                 (try rw [hji25] at c24b1)
                 have hji25w : (IntKind.i64.wrap (x7_2 - 1)) = ji25 := (i64_w _).trans hji25
                 by_cases c26 : 0 ≤ (ji25)
                 ·rw [if_pos c26] at H
                  have c26b0 : decide (0 ≤ (ji25)) = true := decide_eq_true c26
                  clear c26
                  by_cases c27 : (ji25) < (x3_1.length : Int)
                  ·rw [if_pos c27] at H
                   have c27b0 : decide ((ji25) < (x3_1.length : Int)) = true := decide_eq_true c27
                   clear c27
                   have H' := Aside0.mk H
                   clear H
                   have p370 : 0 ≤ (x8_2 : Int) := of_decide_eq_true az
                   have q370 : x8_2 < (t367.length : Int) := of_decide_eq_true az
                   obtain ⟨ad370, e370, hx370_0⟩ := Kd.at_int (Kd.V_reads' HO_6.out).2.2 x8_2 p370 q370
                   cases e370
                   replace p370 := eq_true p370
                   replace q370 := eq_true q370
                   obtain ⟨Ao28, co28, eo28⟩ := Kd.R_slice HO_3.out
                   subst eo28
                   have p371 : 0 ≤ ((ji25) : Int) := of_decide_eq_true az
                   have q371 : (ji25) < (x3_1.length : Int) := of_decide_eq_true az
                   obtain ⟨ad371, e371, hx371_0⟩ := Kd.at_int (Kd.R_reads' HO_3.out).2.2 (ji25) p371 q371
                   cases e371
                   replace p371 := eq_true p371
                   replace q371 := eq_true q371
                   go_wp2
                   go_roundg k2
                   case measure => have := HK1.out; have := HK2.out; omega
                   case rel => exact ⟨(rd x3_1 (ji25)), (wrap64 (x8_2 - 1)), (by first | rfl | (simp; done) | (simp only [← hji25] <;> (first | rfl | simp)) | (simp [*]; done)), ez, H', ⟨by have := HK1.out; have := HK2.out; omega⟩, ⟨by (with_reducible repeat (first | apply Kd.R_alloc | apply Kd.R_drewN | apply Kd.R_drew)); exact HO_3.out⟩, ⟨by (with_reducible repeat (first | apply Kd.V_alloc | apply Kd.V_drewN | apply Kd.V_drew)); exact HO_6.out⟩, ⟨by (with_reducible repeat (first | refine blk_drewN ?_ _ | refine blk_drew ?_ | refine blk_alloc ?_ _)); exact BK365.out⟩, ⟨(bz1 HB.out GE365.out)⟩⟩
                  ·rw [if_neg c27] at H
                   exact absurd H (by simp)
                 ·rw [if_neg c26] at H
                  exact absurd H (by simp)
                ·rw [if_neg c24] at H
                 have c24b0 : ((rd t367 x8_2) == (wrap64 (x7_2 - 1))) = false := beq_eq_false_iff_ne.mpr c24
                 have c24b1 : ((rd t367 x8_2) != (wrap64 (x7_2 - 1))) = true := bne_iff_ne.mpr c24
                 obtain rfl := Option.some.inj H
                 have p370 : 0 ≤ (x8_2 : Int) := of_decide_eq_true az
                 have q370 : x8_2 < (t367.length : Int) := of_decide_eq_true az
                 obtain ⟨ad370, e370, hx370_0⟩ := Kd.at_int (Kd.V_reads' HO_6.out).2.2 x8_2 p370 q370
                 cases e370
                 replace p370 := eq_true p370
                 replace q370 := eq_true q370
                 go_wp2
                 go_ret
                 exact ⟨gz, (bz1 HB.out GE365.out)⟩
               ·rw [if_neg c23] at H
                exact absurd H (by simp)
              ·rw [if_neg c22] at H
               exact absurd H (by simp)
            ·rw [if_neg c20] at H
             have c20b0 : decide (0 ≤ x8_2) = false := decide_eq_false c20
             clear c20
             by_cases c29 : 0 ≤ x18_1
             ·rw [if_pos c29] at H
              have c29b0 : decide (0 ≤ x18_1) = true := decide_eq_true c29
              clear c29
              by_cases c30 : x18_1 < (x3_1.length : Int)
              ·rw [if_pos c30] at H
               have c30b0 : decide (x18_1 < (x3_1.length : Int)) = true := decide_eq_true c30
               clear c30
               obtain ⟨y372, hy372⟩ : ∃ y_ : List Int, y_ = (x3_1.set (x18_1 : Int).toNat x7_2) := ⟨_, rfl⟩
               replace H : (impl_NodesOk.l0 k2 l0 y372 l0 (l0.length : Int) (wrap64 (x18_1 + 1))) = some r := by first | (rw [hy372]; with_reducible exact H) | (have H2_ := (Option.bind_some _ _).symm.trans H; rw [hy372]; with_reducible exact H2_) | (have H2_ := (Option.bind_some _ _).symm.trans H; with_reducible exact H2_) | with_reducible exact H | (rw [hy372]; exact H) | exact H
               have Ny372 := Aside0.mk hy372
               clear hy372
               have H' := Aside0.mk H
               clear H
               have p31 : 0 ≤ (x18_1 : Int) := of_decide_eq_true az
               have q31 : (x18_1 : Int) < ((x3_1.length : Int) : Int) := of_decide_eq_true az
               obtain ⟨go31, co31, eo31, gb31, gl31, cl31, HG31⟩ := Kd.R_form HO_3.out (by omega)
               (first | cases eo31 | (injection eo31 with ea_ en_ ec_; (first | subst ea_ | (injection ea_ with ea_; subst ea_)); subst ec_; clear en_))
               have GB31 := Aside0.mk gb31
               have GG31 := Aside0.mk HG31
               clear gb31 gl31 HG31
               obtain ⟨hx31_0, hf31_0⟩ := Kd.R_celln 0 HO_3.out (x18_1 : Int) p31 q31
               replace p31 := eq_true p31
               replace q31 := eq_true q31
               have HP32 := Kd.R_putg HO_3.out (x18_1 : Int) x7_2
               go_wp2_with (first | ((with_reducible refine gate_store (t := 3) (p := 55) rfl ?_); refine store_event (t := 3) (p := 55) (v := ?vo_w33) (w1 := (wr.setCell ⟨go31, (x18_1 : Int).toNat, none⟩ (.int .i64 x7_2))) ?hg ?ho ?hn ?hr ?_; (case ho => rfl); (case hg => rfl); (case hn => rfl); (case hr => first | (go_simp; done) | (go_simp; rfl)); intro w33 hw; have hg : wr.grownBy w33 (some go31) := (by rw [hw]; exact HP32.2); have hp_ : Kd.R (Kd.int .i64) 3 w33 w.heap.size (fun _ => True) (.slice (some ⟨go31, 0, none⟩) x3_1.length co31) y372 := (by rw [hw, Ny372.out]; exact HP32.1); clear HP32; have n0_ := Aside0.mk (hp_); have n1_ := Aside0.mk (Kd.V_afterv (v := (.slice (some ⟨go31, 0, none⟩) x3_1.length co31)) (v1 := (.slice (some ⟨go31, 0, none⟩) x3_1.length co31)) (ok := (fun k_ => k_ ≠ gb365)) (by (with_reducible repeat (first | apply Kd.V_alloc | apply Kd.V_drewN | apply Kd.V_drew)); exact Kd.V_mono HO_6.out (fun _ hk => ⟨hk.2, hk.1⟩)) hg (.inl rfl)); have n2_ := Aside0.mk (blk_grown (g := gb365) (o := .cells #[.int .i64 ((rd_T43 l0 x18_1).f0), .int .i64 ((rd_T43 l0 x18_1).f1), .int .i64 ((rd_T43 l0 x18_1).f2), .int .i64 ((rd_T43 l0 x18_1).f3), .int .i64 ((rd_T43 l0 x18_1).f4), .string ((rd_T43 l0 x18_1).f5), .string ((rd_T43 l0 x18_1).f6)] 43 (0, 0)) (kz BK365.out) hg (Kd.R_ne HO_3.out BK365.out (by decide))); have n3_ := Aside0.mk ((by rw [hw]; exact below_set (HB.out) GB31.out : Below w.heap.size w w33)); clear HO_3; clear HO_6; clear BK365; clear HB; have HO_3 := n0_; have HO_6 := n1_; have BK365 := n2_; have HB := n3_; clear n0_ n1_ n2_ n3_; clear hg hw hp_))
               go_roundg k2
               case measure => have := HK1.out; have := HK2.out; omega
               case rel => exact ⟨(y372), (wrap64 (x18_1 + 1)), ez, H', ⟨by have := HK1.out; have := HK2.out; omega⟩, ⟨by (with_reducible repeat (first | apply Kd.R_alloc | apply Kd.R_drewN | apply Kd.R_drew)); exact HO_3.out⟩, ⟨(bz1 HB.out GE365.out)⟩⟩
              ·rw [if_neg c30] at H
               exact absurd H (by simp)
             ·rw [if_neg c29] at H
              exact absurd H (by simp)
         ·replace c12 := Bool.eq_false_iff.mpr c12
          subst c12
          have H1 : (some false) = some r := by rw [if_neg (show ¬ (false = true) by decide)] at H; exact H
          clear H
          have H := H1
          clear H1
          obtain rfl := Option.some.inj H
          have p364 : 0 ≤ (x18_1 : Int) := of_decide_eq_true az
          have q364 : x18_1 < (l0.length : Int) := of_decide_eq_true az
          obtain ⟨ad364, e364, hx364_0, hx364_1, hx364_2, hx364_3, hx364_4, hx364_5, hx364_6⟩ := at_T43 HR0.out x18_1 p364 q364
          cases e364
          replace hx364_0 := hz HB.out hx364_0
          replace hx364_1 := hz HB.out hx364_1
          replace hx364_2 := hz HB.out hx364_2
          replace hx364_3 := hz HB.out hx364_3
          replace hx364_4 := hz HB.out hx364_4
          replace hx364_5 := hz HB.out hx364_5
          replace hx364_6 := hz HB.out hx364_6
          replace p364 := eq_true p364
          replace q364 := eq_true q364
          go_wp2_with (first | ((with_reducible refine gate_dst (N := 5) rfl ?_); refine box_event ?hg (N := 5) ?hd (cs := #[.int .i64 0, .int .i64 0, .int .i64 0, .int .i64 0, .int .i64 0, .string (⟨#[]⟩ : ByteArray), .string (⟨#[]⟩ : ByteArray)]) (t := 43) ?hr ?_; (case hd => rfl); (case hg => rfl); (case hr => first | (go_simp; done) | (go_simp; rfl)); intro gb365 hg w34 hbox hb; have n0_ := Aside0.mk (Kd.R_below (rz HO_3.out) hb); have n1_ := Aside0.mk (below_step (bz0 HB.out) hb); have n2_ := Aside0.mk (hbox); have n3_ := Aside0.mk ((by rw [hg]; exact (below_size (bz0 HB.out)) : w.heap.size ≤ gb365)); have n4_ := Aside0.mk ((by rw [hg]; exact (below_size (bz0 HB.out)) : w.heap.size ≤ gb365)); clear HO_3; clear HB; have HO_3 := n0_; have HB := n1_; have BK365 := n2_; have GW365 := n3_; have GE365 := n4_; clear n0_ n1_ n2_ n3_ n4_; clear hb hbox hg; have hcz35_0 : w34.cell? ⟨gb365, 0, none⟩ = some (.int .i64 0) := (blk_cell BK365.out 0).trans rfl; have hcz35_1 : w34.cell? ⟨gb365, 1, none⟩ = some (.int .i64 0) := (blk_cell BK365.out 1).trans rfl; have hcz35_2 : w34.cell? ⟨gb365, 2, none⟩ = some (.int .i64 0) := (blk_cell BK365.out 2).trans rfl; have hcz35_3 : w34.cell? ⟨gb365, 3, none⟩ = some (.int .i64 0) := (blk_cell BK365.out 3).trans rfl; have hcz35_4 : w34.cell? ⟨gb365, 4, none⟩ = some (.int .i64 0) := (blk_cell BK365.out 4).trans rfl; have hcz35_5 : w34.cell? ⟨gb365, 5, none⟩ = some (.string (⟨#[]⟩ : ByteArray)) := (blk_cell BK365.out 5).trans rfl; have hcz35_6 : w34.cell? ⟨gb365, 6, none⟩ = some (.string (⟨#[]⟩ : ByteArray)) := (blk_cell BK365.out 6).trans rfl; have hfz35_0 := blk_frozen BK365.out 0; have hfz35_1 := blk_frozen BK365.out 1; have hfz35_2 := blk_frozen BK365.out 2; have hfz35_3 := blk_frozen BK365.out 3; have hfz35_4 := blk_frozen BK365.out 4; have hfz35_5 := blk_frozen BK365.out 5; have hfz35_6 := blk_frozen BK365.out 6) | ((with_reducible refine gate_callee (f := 68) rfl ?_); refine goesL_ (some 24) rfl rfl Tryd.func68 (by kernel_rfl) rfl #[.agg #[.int .i64 ((rd_T43 l0 x18_1).f0), .int .i64 ((rd_T43 l0 x18_1).f1), .int .i64 ((rd_T43 l0 x18_1).f2), .int .i64 ((rd_T43 l0 x18_1).f3), .int .i64 ((rd_T43 l0 x18_1).f4), .string ((rd_T43 l0 x18_1).f5), .string ((rd_T43 l0 x18_1).f6)]] rfl lz ?_; (with_reducible refine (impl_fieldsOk.calls k1 ((rd_T43 l0 x18_1).f0) ((rd_T43 l0 x18_1).f1) ((rd_T43 l0 x18_1).f2) ((rd_T43 l0 x18_1).f3) ((rd_T43 l0 x18_1).f4) ((rd_T43 l0 x18_1).f5) ((rd_T43 l0 x18_1).f6) false _ A11.out).mono ?_); rintro e w36 ⟨rfl, hb⟩; refine ⟨_, rfl, ?_⟩; have n0_ := Aside0.mk (Kd.R_below (by (with_reducible repeat (first | apply Kd.R_alloc | apply Kd.R_drewN | apply Kd.R_drew)); exact (Kd.R_mono (Kd.R_far (p := ⟨gb365, 6, none⟩) (Kd.R_far (p := ⟨gb365, 5, none⟩) (Kd.R_far (p := ⟨gb365, 4, none⟩) (Kd.R_far (p := ⟨gb365, 3, none⟩) (Kd.R_far (p := ⟨gb365, 2, none⟩) (Kd.R_far (p := ⟨gb365, 1, none⟩) (Kd.R_far (p := ⟨gb365, 0, none⟩) (Kd.R_types HO_3.out BK365.out (by decide)) (fun _ hk => hk.2) (.int .i64 ((rd_T43 l0 x18_1).f0))) (fun _ hk => hk.2) (.int .i64 ((rd_T43 l0 x18_1).f1))) (fun _ hk => hk.2) (.int .i64 ((rd_T43 l0 x18_1).f2))) (fun _ hk => hk.2) (.int .i64 ((rd_T43 l0 x18_1).f3))) (fun _ hk => hk.2) (.int .i64 ((rd_T43 l0 x18_1).f4))) (fun _ hk => hk.2) (.string ((rd_T43 l0 x18_1).f5))) (fun _ hk => hk.2) (.string ((rd_T43 l0 x18_1).f6))) (fun _ h_ => h_.1))) hb); have n1_ := Aside0.mk (blk_below (g := gb365) (o := .cells #[.int .i64 ((rd_T43 l0 x18_1).f0), .int .i64 ((rd_T43 l0 x18_1).f1), .int .i64 ((rd_T43 l0 x18_1).f2), .int .i64 ((rd_T43 l0 x18_1).f3), .int .i64 ((rd_T43 l0 x18_1).f4), .string ((rd_T43 l0 x18_1).f5), .string ((rd_T43 l0 x18_1).f6)] 43 (0, 0)) (by (with_reducible repeat (first | refine blk_drewN ?_ _ | refine blk_drew ?_ | refine blk_alloc ?_ _)); refine blk_put (cs := #[.int .i64 ((rd_T43 l0 x18_1).f0), .int .i64 ((rd_T43 l0 x18_1).f1), .int .i64 ((rd_T43 l0 x18_1).f2), .int .i64 ((rd_T43 l0 x18_1).f3), .int .i64 ((rd_T43 l0 x18_1).f4), .string ((rd_T43 l0 x18_1).f5), .string (⟨#[]⟩ : ByteArray)]) ?_ 6 _ rfl; (with_reducible repeat (first | refine blk_drewN ?_ _ | refine blk_drew ?_ | refine blk_alloc ?_ _)); refine blk_put (cs := #[.int .i64 ((rd_T43 l0 x18_1).f0), .int .i64 ((rd_T43 l0 x18_1).f1), .int .i64 ((rd_T43 l0 x18_1).f2), .int .i64 ((rd_T43 l0 x18_1).f3), .int .i64 ((rd_T43 l0 x18_1).f4), .string (⟨#[]⟩ : ByteArray), .string (⟨#[]⟩ : ByteArray)]) ?_ 5 _ rfl; (with_reducible repeat (first | refine blk_drewN ?_ _ | refine blk_drew ?_ | refine blk_alloc ?_ _)); refine blk_put (cs := #[.int .i64 ((rd_T43 l0 x18_1).f0), .int .i64 ((rd_T43 l0 x18_1).f1), .int .i64 ((rd_T43 l0 x18_1).f2), .int .i64 ((rd_T43 l0 x18_1).f3), .int .i64 0, .string (⟨#[]⟩ : ByteArray), .string (⟨#[]⟩ : ByteArray)]) ?_ 4 _ rfl; (with_reducible repeat (first | refine blk_drewN ?_ _ | refine blk_drew ?_ | refine blk_alloc ?_ _)); refine blk_put (cs := #[.int .i64 ((rd_T43 l0 x18_1).f0), .int .i64 ((rd_T43 l0 x18_1).f1), .int .i64 ((rd_T43 l0 x18_1).f2), .int .i64 0, .int .i64 0, .string (⟨#[]⟩ : ByteArray), .string (⟨#[]⟩ : ByteArray)]) ?_ 3 _ rfl; (with_reducible repeat (first | refine blk_drewN ?_ _ | refine blk_drew ?_ | refine blk_alloc ?_ _)); refine blk_put (cs := #[.int .i64 ((rd_T43 l0 x18_1).f0), .int .i64 ((rd_T43 l0 x18_1).f1), .int .i64 0, .int .i64 0, .int .i64 0, .string (⟨#[]⟩ : ByteArray), .string (⟨#[]⟩ : ByteArray)]) ?_ 2 _ rfl; (with_reducible repeat (first | refine blk_drewN ?_ _ | refine blk_drew ?_ | refine blk_alloc ?_ _)); refine blk_put (cs := #[.int .i64 ((rd_T43 l0 x18_1).f0), .int .i64 0, .int .i64 0, .int .i64 0, .int .i64 0, .string (⟨#[]⟩ : ByteArray), .string (⟨#[]⟩ : ByteArray)]) ?_ 1 _ rfl; (with_reducible repeat (first | refine blk_drewN ?_ _ | refine blk_drew ?_ | refine blk_alloc ?_ _)); refine blk_put (cs := #[.int .i64 0, .int .i64 0, .int .i64 0, .int .i64 0, .int .i64 0, .string (⟨#[]⟩ : ByteArray), .string (⟨#[]⟩ : ByteArray)]) ?_ 0 _ rfl; (with_reducible repeat (first | refine blk_drewN ?_ _ | refine blk_drew ?_ | refine blk_alloc ?_ _)); exact BK365.out) hb); have n2_ := Aside0.mk (below_step (bz1 HB.out GE365.out) hb); clear HO_3; clear BK365; clear HB; have HO_3 := n0_; have BK365 := n1_; have HB := n2_; clear n0_ n1_ n2_; (try clear hb); (try clear hb2); (try clear hk); (try clear hi)))
          go_ret
          exact ⟨gz, (bz1 HB.out GE365.out)⟩
        ·rw [if_neg c10] at H
         exact absurd H (by simp)
       ·rw [if_neg c9] at H
        exact absurd H (by simp)
      ·rw [if_neg c8] at H
       have c8b0 : decide (x18_1 < (l0.length : Int)) = false := decide_eq_false c8
       clear c8
       obtain ⟨ji37, hji37⟩ : ∃ j_ : Int, (wrap64 ((l0.length : Int) - 1)) = j_ := ⟨_, rfl⟩
       replace H : (if 0 ≤ (ji37) then (if (ji37) < (x3_1.length : Int) then (some ((rd x3_1 (ji37)) == 0)) else (none)) else (none)) = some r := by first | (rw [hji37] at H; exact H) | (simp only [hji37] at H ⊢; exact H)
       have hji37w : (IntKind.i64.wrap ((l0.length : Int) - 1)) = ji37 := (i64_w _).trans hji37
       by_cases c38 : 0 ≤ (ji37)
       ·rw [if_pos c38] at H
        have c38b0 : decide (0 ≤ (ji37)) = true := decide_eq_true c38
        clear c38
        by_cases c39 : (ji37) < (x3_1.length : Int)
        ·rw [if_pos c39] at H
         have c39b0 : decide ((ji37) < (x3_1.length : Int)) = true := decide_eq_true c39
         clear c39
         obtain rfl := Option.some.inj H
         obtain ⟨Ao40, co40, eo40⟩ := Kd.R_slice HO_3.out
         subst eo40
         have p363 : 0 ≤ ((ji37) : Int) := of_decide_eq_true az
         have q363 : (ji37) < (x3_1.length : Int) := of_decide_eq_true az
         obtain ⟨ad363, e363, hx363_0⟩ := Kd.at_int (Kd.R_reads' HO_3.out).2.2 (ji37) p363 q363
         cases e363
         replace p363 := eq_true p363
         replace q363 := eq_true q363
         go_wp2
         go_ret
         exact ⟨by first | rfl | (simp [errW_none, errW_some] <;> rfl) | (simp only [← hji37]; first | rfl | (simp [errW_none, errW_some] <;> rfl)) | (simp [*, errW_none, errW_some] <;> rfl), (bz0 HB.out)⟩
        ·rw [if_neg c39] at H
         exact absurd H (by simp)
       ·rw [if_neg c38] at H
        exact absurd H (by simp)
   ·rw [if_neg c5] at H
    exact absurd H (by simp)
  ·rw [if_neg c4] at H
   exact absurd H (by simp)
 ·replace c3 := Bool.eq_false_iff.mpr c3
  subst c3
  have H1 : (some false) = some r := by rw [if_neg (show ¬ (false = true) by decide)] at H; exact H
  clear H
  have H := H1
  clear H1
  obtain rfl := Option.some.inj H
  go_enter Tryd.func36, Tryd.ntmps36
  go_wp2_with (first | ((with_reducible refine gate_callee (f := 44) rfl ?_); refine goesL_ (some 11) rfl rfl Tryd.func44 (by kernel_rfl) rfl #[.int .i64 (l0.length : Int), .int .i64 1, .int .i64 150] rfl lz ?_; (with_reducible refine (impl_in.calls (l0.length : Int) 1 150 false _ A2.out).mono ?_); rintro e w' ⟨rfl, ⟨nd, rfl⟩⟩; refine ⟨_, rfl, ?_⟩))
  go_ret
  exact ⟨gz, (bz0 HB.out)⟩
def sort_Strings.f (l0 : List ByteArray) : Option (List ByteArray) := if l0.length < 4611686018427387904 then (some (sortB l0)) else (none)
theorem sort_Strings.calls (P0_ : Nat → Prop) (u9000_ : Value) (l0 : List ByteArray) (r1 : List ByteArray) (w0 w : World) (hB : Below w0.heap.size w0 w) (ho0 : Kd.R Kd.string 9 w w0.heap.size P0_ u9000_ l0) (h : sort_Strings.f l0 = some r1) :
  Calls Tryd.prog 76 #[u9000_] w fun e w' => e = .returned (.tuple #[]) ∧ Kd.R Kd.string 9 w' w0.heap.size (fun k_ => (P0_ k_ ∨ w.heap.size ≤ k_)) u9000_ r1 ∧ Below w0.heap.size w0 w' ∧ Kept w w' (fun k_ => P0_ k_) := by
 unfold sort_Strings.f at h
 split at h
 ·rename_i hl
  obtain rfl := Option.some.inj h
  exact sort_put (fun blk off cap ss w hH hb hz => Tryd.sort_Strings blk off cap ss w hH hb hz) (fun p cap w => Tryd.sort_Strings_none p cap w) P0_ u9000_ l0 w0 w hB ho0 hl
 ·cases h
end Go.Proofs.YtmilegjmiiccdaaDoor.PFnExactFreeNames
