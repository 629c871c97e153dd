/- PFnExactPrintx9, of the words and walks that the law FnExactPrint needs; made by this session's program out of printed texts. -/

import Derived.Test.YtmilegjmiiccdaaDoorVEPrintPx0
import Derived.Test.YtmilegjmiiccdaaDoorVEPrintPx5
import Derived.Test.YtmilegjmiiccdaaDoorVEPrintPx7
import Derived.Test.YtmilegjmiiccdaaDoorVEPrintPx8
namespace Go.Proofs.YtmilegjmiiccdaaDoor.PFnExactPrint
open Go.RowKit Go.Proofs.YtmilegjmiiccdaaDoorW.PrintWords Go.Proofs.YtmilegjmiiccdaaDoorW.PrintLast Go.Proofs.YtmilegjmiiccdaaDoorW.PrintMore
attribute [local go_sem] max2_int min2_int max_two min_two max_three min_three max_four min_four
set_option linter.unusedVariables false
set_option linter.unusedSimpArgs false
def impl_Kids.f (k : Nat) (a0_0 : Int) (a0_1 : Int) (a0_2 : Int) (a0_3 : Int) (a0_4 : Int) (a0_5 : ByteArray) (a0_6 : ByteArray) : Option (List Int) := (some (([a0_1, a0_2, a0_3] : List Int) : List Int)).bind fun y262 => ((impl_Arity.f k a0_0).bind fun t265 => ((impl_Arity.f k a0_0).bind fun t266 => (if 0 <= t265 then (if t265 <= t266 then (if t266 <= (y262.length : Int) then (some (y262.take (t265 : Int).toNat)) else (none)) else (none)) else (none))))
theorem impl_Kids.mono : ∀ a0 a1 a2 a3 a4 a5 a6 k, LeO (impl_Kids.f k a0 a1 a2 a3 a4 a5 a6) (impl_Kids.f (k + 1) a0 a1 a2 a3 a4 a5 a6) := by
 intro a0 a1 a2 a3 a4 a5 a6 k
 unfold impl_Kids.f
 with_reducible repeat' first | exact impl_Arity.mono _ _ | exact lrz _ | exact lnz _ | refine liz ?_ ?_ | refine lbz ?_ fun _ => ?_
def impl_Kids.T1 : Bool × List (List Nat × List Nat) := (true, [([], []), ([0], [0]), ([], []), ([2], [2]), ([], []), ([4], [4]), ([1, 3, 5], [1, 3, 5]), ([], []), ([7], [7]), ([8], [8]), ([], []), ([10], [10]), ([11, 9], [11]), ([6, 9, 12], [6, 9, 12]), ([13, 12, 0, 1, 2, 3, 4, 5, 6, 7, 8, 9, 10, 11, 12, 13], [13])])
def impl_Kids.B1 : List Nat := [0, 1, 0, 4, 0, 16, 63, 0, 128, 384, 0, 1024, 3968, 8191, 16383]
theorem impl_Kids.tab1 : rtab .any (opsOf Tryd.f69 1) = impl_Kids.T1 := by kernel_rfl
theorem impl_Kids.bits1 : waitsOk impl_Kids.T1.2 impl_Kids.B1 = true := by kernel_rfl
set_option maxHeartbeats 8000000 in
set_option maxRecDepth 100000 in
theorem impl_Kids.calls (k : Nat) (a0_0 : Int) (a0_1 : Int) (a0_2 : Int) (a0_3 : Int) (a0_4 : Int) (a0_5 : ByteArray) (a0_6 : ByteArray) (r : List Int) (w : World) (h : impl_Kids.f k a0_0 a0_1 a0_2 a0_3 a0_4 a0_5 a0_6 = some r) :
  Calls Tryd.prog 69 #[.agg #[.int .i64 a0_0, .int .i64 a0_1, .int .i64 a0_2, .int .i64 a0_3, .int .i64 a0_4, .string a0_5, .string a0_6]] w fun e w' => ∃ v0_ : Value, e = .returned (v0_) /\ Kd.V (Kd.int .i64) 3 w' w.heap.size (fun k_ => (w.heap.size <= k_)) v0_ r /\ Below w.heap.size w w' := by
 have hu43 := Tryd.underlying43
 have HB := Aside0.mk (Below.refl w.heap.size w)
 have H : ((some (([a0_1, a0_2, a0_3] : List Int) : List Int)).bind fun y262 => ((impl_Arity.f k a0_0).bind fun t265 => ((impl_Arity.f k a0_0).bind fun t266 => (if 0 <= t265 then (if t265 <= t266 then (if t266 <= (y262.length : Int) then (some (y262.take (t265 : Int).toNat)) else (none)) else (none)) else (none))))) = some r := h
 clear h
 obtain ⟨y262, hy262⟩ : ∃ y_ : List Int, y_ = (([a0_1, a0_2, a0_3] : List Int)) := ⟨_, rfl⟩
 replace H : ((impl_Arity.f k a0_0).bind fun t265 => ((impl_Arity.f k a0_0).bind fun t266 => (if 0 <= t265 then (if t265 <= t266 then (if t266 <= (y262.length : Int) then (some (y262.take (t265 : Int).toNat)) else (none)) else (none)) else (none)))) = some r := yz hy262 H
 have Ny262 := Aside0.mk hy262
 clear hy262
 replace H := bi H
 obtain ⟨t265, A20, H⟩ := H
 try dsimp only at H
 have A2 := Aside0.mk A20
 clear A20
 replace H := bi H
 obtain ⟨t266, A30, H⟩ := H
 try dsimp only at H
 have A3 := Aside0.mk A30
 clear A30
 replace H := iz H
 obtain ⟨c4, H⟩ := H
 have c4b0 := eq_true c4
 have c4b1 : decide (0 <= t265) = true := decide_eq_true c4
 clear c4
 replace H := iz H
 obtain ⟨c5, H⟩ := H
 have c5b0 := eq_true c5
 have c5b1 : decide (t265 <= t266) = true := decide_eq_true c5
 clear c5
 replace H := iz H
 obtain ⟨c6, H⟩ := H
 have c6b0 := eq_true c6
 have c6b1 : decide (t266 <= (y262.length : Int)) = true := decide_eq_true c6
 clear c6
 obtain ⟨y267, hy267⟩ : ∃ y_ : List Int, y_ = (y262.take (t265 : Int).toNat) := ⟨_, rfl⟩
 replace H : (some y267) = some r := yz hy267 H
 have Ny267 := Aside0.mk hy267
 clear hy267
 obtain rfl := Option.some.inj H
 go_enter Tryd.func69, Tryd.ntmps69
 try go_wp2_with (first | ((with_reducible refine gate_dst (N := 1) rfl ?_); refine box_event ?hg (N := 1) ?hd (cs := #[.int .i64 a0_0, .int .i64 a0_1, .int .i64 a0_2, .int .i64 a0_3, .int .i64 a0_4, .string a0_5, .string a0_6]) (t := 43) ?hr ?_; (case hd => rfl); (case hg => rfl); (case hr => exact vz); intro gb261 hg w7 hbox hb; have BK261 := Aside0.mk (hbox); have GW261 := Aside0.mk ((by rw [hg]; exact (below_size (bz0 HB.out)) : w.heap.size <= gb261)); have GE261 := Aside0.mk ((by rw [hg]; exact (below_size (bz0 HB.out)) : w.heap.size <= gb261)); replace HB := Aside0.mk (below_step (bz0 HB.out) hb); clear hb hbox hg))
 have n0_ := Aside0.mk (blk_drew BK261.out)
 have n1_ := Aside0.mk (below_drew1 HB.out)
 clear BK261
 clear HB
 have BK261 := n0_
 have HB := n1_
 clear n0_ n1_
 refine start_ (n := 15) (S := fun w' => w'.cell? ⟨gb261, 0, none⟩ = some (.int .i64 a0_0) /\ w'.cell? ⟨gb261, 1, none⟩ = some (.int .i64 a0_1) /\ w'.cell? ⟨gb261, 2, none⟩ = some (.int .i64 a0_2) /\ w'.cell? ⟨gb261, 3, none⟩ = some (.int .i64 a0_3) /\ w'.cell? ⟨gb261, 4, none⟩ = some (.int .i64 a0_4) /\ w'.cell? ⟨gb261, 5, none⟩ = some (.string a0_5) /\ w'.cell? ⟨gb261, 6, none⟩ = some (.string a0_6)) (ds := []) #[ff, ff, ff, ff, ff, ff, ff, ff, ff, ff, ff, ff, ff, ff, ff] (by kernel_rfl) rfl rfl ⟨(blk_cell BK261.out 0).trans rfl, (blk_cell BK261.out 1).trans rfl, (blk_cell BK261.out 2).trans rfl, (blk_cell BK261.out 3).trans rfl, (blk_cell BK261.out 4).trans rfl, (blk_cell BK261.out 5).trans rfl, (blk_cell BK261.out 6).trans rfl⟩ (fun hHeld => ?_); refine with_tabW impl_Kids.tab1 impl_Kids.bits1 (fun HT_ HW_ => ?_)
 generalize w7.drew = w8 at BK261 HB hHeld ⊢
 refine pure_ (i := 0) (N := some 3) (v := ?_) (a' := ?_) #[tt, ff, ff, ff, ff, ff, ff, ff, ff, ff, ff, ff, ff, ff, ff] rfl rfl (any_of HT_.out (by kernel_rfl)) (fun _ _ _ h => h) (Or.inl ⟨by rfl, ?_⟩) ?_ ?_
 rotate_left
 ·intro w'
  go_simp
  with_reducible rfl
 rotate_left
 ·simp only [Act.put, sz1, sz2, sz3, i64_w, i32_w]
  rfl
 refine pure_ (i := 2) (N := some 5) (v := ?_) (a' := ?_) #[tt, ff, tt, ff, ff, ff, ff, ff, ff, ff, ff, ff, ff, ff, ff] rfl rfl (any_of HT_.out (by kernel_rfl)) (fun _ _ _ h => h) (Or.inl ⟨by rfl, ?_⟩) ?_ ?_
 rotate_left
 ·intro w'
  go_simp
  with_reducible rfl
 rotate_left
 ·simp only [Act.put, sz1, sz2, sz3, i64_w, i32_w]
  rfl
 refine pure_ (i := 4) (N := some 7) (v := ?_) (a' := ?_) #[tt, ff, tt, ff, tt, ff, ff, ff, ff, ff, ff, ff, ff, ff, ff] rfl rfl (any_of HT_.out (by kernel_rfl)) (fun _ _ _ h => h) (Or.inl ⟨by rfl, ?_⟩) ?_ ?_
 rotate_left
 ·intro w'
  go_simp
  with_reducible rfl
 rotate_left
 ·simp only [Act.put, sz1, sz2, sz3, i64_w, i32_w]
  rfl
 refine pure_ (i := 7) (N := some 10) (v := ?_) (a' := ?_) #[tt, ff, tt, ff, tt, ff, ff, tt, ff, ff, ff, ff, ff, ff, ff] rfl rfl (any_of HT_.out (by kernel_rfl)) (fun _ _ _ h => h) (Or.inl ⟨by rfl, ?_⟩) ?_ ?_
 rotate_left
 ·intro w'
  go_simp
  with_reducible rfl
 rotate_left
 ·simp only [Act.put, sz1, sz2, sz3, i64_w, i32_w]
  rfl
 refine pure_ (i := 10) (N := some 13) (v := ?_) (a' := ?_) #[tt, ff, tt, ff, tt, ff, ff, tt, ff, ff, tt, ff, ff, ff, ff] rfl rfl (any_of HT_.out (by kernel_rfl)) (fun _ _ _ h => h) (Or.inl ⟨by rfl, ?_⟩) ?_ ?_
 rotate_left
 ·intro w'
  go_simp
  with_reducible rfl
 rotate_left
 ·simp only [Act.put, sz1, sz2, sz3, i64_w, i32_w]
  rfl
 refine take_ (i := 1) (N := some 4) (v := ?_) (a' := ?_) #[tt, tt, tt, ff, tt, ff, ff, tt, ff, ff, tt, ff, ff, ff, ff] rfl rfl (take_ofW HT_.out HW_.out (by kernel_rfl)) (fun _ _ _ h => h) (Or.inl ⟨by rfl, ?_⟩) hHeld ?_ ?_
 rotate_left
 ·rintro w' ⟨s0, s1, s2, s3, s4, s5, s6⟩
  go_simp
  with_reducible rfl
 rotate_left
 ·simp only [Act.put, sz1, sz2, sz3, i64_w, i32_w]
  rfl
 refine take_ (i := 3) (N := some 6) (v := ?_) (a' := ?_) #[tt, tt, tt, tt, tt, ff, ff, tt, ff, ff, tt, ff, ff, ff, ff] rfl rfl (take_ofW HT_.out HW_.out (by kernel_rfl)) (fun _ _ _ h => h) (Or.inl ⟨by rfl, ?_⟩) hHeld ?_ ?_
 rotate_left
 ·rintro w' ⟨s0, s1, s2, s3, s4, s5, s6⟩
  go_simp
  with_reducible rfl
 rotate_left
 ·simp only [Act.put, sz1, sz2, sz3, i64_w, i32_w]
  rfl
 refine take_ (i := 5) (N := some 8) (v := ?_) (a' := ?_) #[tt, tt, tt, tt, tt, tt, ff, tt, ff, ff, tt, ff, ff, ff, ff] rfl rfl (take_ofW HT_.out HW_.out (by kernel_rfl)) (fun _ _ _ h => h) (Or.inl ⟨by rfl, ?_⟩) hHeld ?_ ?_
 rotate_left
 ·rintro w' ⟨s0, s1, s2, s3, s4, s5, s6⟩
  go_simp
  with_reducible rfl
 rotate_left
 ·simp only [Act.put, sz1, sz2, sz3, i64_w, i32_w]
  rfl
 refine take_ (i := 8) (N := some 11) (v := ?_) (a' := ?_) #[tt, tt, tt, tt, tt, tt, ff, tt, tt, ff, tt, ff, ff, ff, ff] rfl rfl (take_ofW HT_.out HW_.out (by kernel_rfl)) (fun _ _ _ h => h) (Or.inl ⟨by rfl, ?_⟩) hHeld ?_ ?_
 rotate_left
 ·rintro w' ⟨s0, s1, s2, s3, s4, s5, s6⟩
  go_simp
  with_reducible rfl
 rotate_left
 ·simp only [Act.put, sz1, sz2, sz3, i64_w, i32_w]
  rfl
 refine take_ (i := 11) (N := some 14) (v := ?_) (a' := ?_) #[tt, tt, tt, tt, tt, tt, ff, tt, tt, ff, tt, tt, ff, ff, ff] rfl rfl (take_ofW HT_.out HW_.out (by kernel_rfl)) (fun _ _ _ h => h) (Or.inl ⟨by rfl, ?_⟩) hHeld ?_ ?_
 rotate_left
 ·rintro w' ⟨s0, s1, s2, s3, s4, s5, s6⟩
  go_simp
  with_reducible rfl
 rotate_left
 ·simp only [Act.put, sz1, sz2, sz3, i64_w, i32_w]
  rfl
 refine join_ (σ := Value) 2 #[true, true, true, true, true, true, true, true, true, true, true, true, true, false, false] (fun s_ => [(9, s_), (12, .int .i64 t265), (15, .int .i64 t266)]) (fun s_ w' => (w'.cell? ⟨gb261, 0, none⟩ = some (.int .i64 a0_0) /\ w'.cell? ⟨gb261, 1, none⟩ = some (.int .i64 a0_1) /\ w'.cell? ⟨gb261, 2, none⟩ = some (.int .i64 a0_2) /\ w'.cell? ⟨gb261, 3, none⟩ = some (.int .i64 a0_3) /\ w'.cell? ⟨gb261, 4, none⟩ = some (.int .i64 a0_4) /\ w'.cell? ⟨gb261, 5, none⟩ = some (.string a0_5) /\ w'.cell? ⟨gb261, 6, none⟩ = some (.string a0_6)) /\ (Kd.R (Kd.int .i64) 3 w' w.heap.size (fun k_ => (w.heap.size <= k_)) s_ y262) /\ (w'.heap[gb261]? = some (.cells #[.int .i64 a0_0, .int .i64 a0_1, .int .i64 a0_2, .int .i64 a0_3, .int .i64 a0_4, .string a0_5, .string a0_6] 43 (0, 0))) /\ (Below w.heap.size w w')) ?_ ?_
 rotate_left
 ·intro hCont
  refine two_ (i := 6) (j := 9) (Ni := some 9) (Nj := some 12) #[true, true, true, true, true, true, true, true, true, false, true, true, false, false, false] #[true, true, true, true, true, true, false, true, true, true, true, true, false, false, false] rfl rfl rfl rfl (two_of HT_.out (by kernel_rfl)) (by decide) (by decide) (fun K hK => ?_) (fun K hK => ?_)
  ·skip
   refine Kd.R_lit_step (Kd.int .i64) _ 3 ?hg (N := 9) ?hd (xs := ([a0_1, a0_2, a0_3] : List Int)) (inner := [.int .i64 a0_1, .int .i64 a0_2, .int .i64 a0_3]) (ok := fun _ => True) (okp := fun _ => True) ?hr ?hp (fun _ hk => hk) trivial (Below.refl _ _) (Nat.le_refl _) (by simp) ?_; (case hd => rfl); (case hg => rfl); (case hr => exact vz); (case hp => exact (Reps.one (show Kd.M (Kd.int .i64) _ _ _ a0_1 [.int .i64 a0_1] from rfl) (Reps.one (show Kd.M (Kd.int .i64) _ _ _ a0_2 [.int .i64 a0_2] from rfl) (Reps.one (show Kd.M (Kd.int .i64) _ _ _ a0_3 [.int .i64 a0_3] from rfl) (Reps.none _ _)))))
   intro v263 w9 ho10 hb hg_ hnew_
   clear hg_ hnew_
   (first | rw [<- Ny262.out] at ho10 | (simp only [Int.reduceToNat] at ho10; rw [<- Ny262.out] at ho10))
   have n0_ := Aside0.mk (Kd.R_lower (Kd.R_newM (M := fun k_ => (w.heap.size <= k_)) ho10 (below_size (bz1 HB.out GE261.out)) (fun k_ h_ => h_)) (below_size (bz1 HB.out GE261.out)))
   have n1_ := Aside0.mk (blk_below (kz BK261.out) hb)
   have n2_ := Aside0.mk (below_step (bz1 HB.out GE261.out) hb)
   clear BK261
   clear HB
   have HO264 := n0_
   have BK261 := n1_
   have HB := n2_
   clear n0_ n1_ n2_
   clear hb ho10
   refine hK.out _ _ ⟨(blk_cell BK261.out 0).trans rfl, (blk_cell BK261.out 1).trans rfl, (blk_cell BK261.out 2).trans rfl, (blk_cell BK261.out 3).trans rfl, (blk_cell BK261.out 4).trans rfl, (blk_cell BK261.out 5).trans rfl, (blk_cell BK261.out 6).trans rfl⟩ (fun hHeld => ?_)
   clear hK K
   refine norm_ (a' := ?_) ?_ ?_
   rotate_left
   ·show Act.put _ (some 9) _ = _
    simp only [Act.put, sz1, sz2, sz3, i64_w, i32_w]
    rfl
   refine one_ (i := 9) (N := some 12) #[tt, tt, tt, tt, tt, tt, tt, tt, tt, tt, tt, tt, ff, ff, ff] rfl rfl (one_of HT_.out (by kernel_rfl)) (by decide) (fun K hK => ?_)
   refine goes_ Tryd.func82 (by kernel_rfl) rfl #[.int .i64 a0_0] (by rfl) rfl rfl lz ?_
   with_reducible refine (impl_Arity.calls k a0_0 t265 _ A2.out).mono ?_
   rintro e w' ⟨rfl, ⟨nd, rfl⟩⟩
   refine ⟨_, rfl, ?_⟩
   refine hK.out _ _ ⟨(blk_cell BK261.out 0).trans rfl, (blk_cell BK261.out 1).trans rfl, (blk_cell BK261.out 2).trans rfl, (blk_cell BK261.out 3).trans rfl, (blk_cell BK261.out 4).trans rfl, (blk_cell BK261.out 5).trans rfl, (blk_cell BK261.out 6).trans rfl⟩ (fun hHeld => ?_)
   clear hK K
   refine norm_ (a' := ?_) ?_ ?_
   rotate_left
   ·show Act.put _ (some 12) _ = _
    simp only [Act.put, sz1, sz2, sz3, i64_w, i32_w]
    rfl
   refine one_ (i := 12) (N := some 15) #[tt, tt, tt, tt, tt, tt, tt, tt, tt, tt, tt, tt, tt, ff, ff] rfl rfl (one_of HT_.out (by kernel_rfl)) (by decide) (fun K hK => ?_)
   refine goes_ Tryd.func82 (by kernel_rfl) rfl #[.int .i64 a0_0] (by rfl) rfl rfl lz ?_
   with_reducible refine (impl_Arity.calls k a0_0 t266 _ A3.out).mono ?_
   rintro e w' ⟨rfl, ⟨nd, rfl⟩⟩
   refine ⟨_, rfl, ?_⟩
   refine hK.out _ _ ⟨(blk_cell BK261.out 0).trans rfl, (blk_cell BK261.out 1).trans rfl, (blk_cell BK261.out 2).trans rfl, (blk_cell BK261.out 3).trans rfl, (blk_cell BK261.out 4).trans rfl, (blk_cell BK261.out 5).trans rfl, (blk_cell BK261.out 6).trans rfl⟩ (fun hHeld => ?_)
   clear hK K
   refine norm_ (a' := ?_) ?_ ?_
   rotate_left
   ·show Act.put _ (some 15) _ = _
    simp only [Act.put, sz1, sz2, sz3, i64_w, i32_w]
    rfl
   exact norm_ (by simp only [putAll, Act.put, List.setIfInBounds_toArray, List.set_cons_zero, List.set_cons_succ]) (hCont (v263) _ ⟨hHeld, (by refine rq ?_; exact Kd.R_mono HO264.out (fun _ hk => hk.1)), (kz BK261.out), (bz1 HB.out GE261.out)⟩)
  ·skip
   refine goes_ Tryd.func82 (by kernel_rfl) rfl #[.int .i64 a0_0] (by rfl) rfl rfl lz ?_
   with_reducible refine (impl_Arity.calls k a0_0 t265 _ A2.out).mono ?_
   rintro e w' ⟨rfl, ⟨nd, rfl⟩⟩
   refine ⟨_, rfl, ?_⟩
   refine hK.out _ _ ⟨(blk_cell BK261.out 0).trans rfl, (blk_cell BK261.out 1).trans rfl, (blk_cell BK261.out 2).trans rfl, (blk_cell BK261.out 3).trans rfl, (blk_cell BK261.out 4).trans rfl, (blk_cell BK261.out 5).trans rfl, (blk_cell BK261.out 6).trans rfl⟩ (fun hHeld => ?_)
   clear hK K
   refine norm_ (a' := ?_) ?_ ?_
   rotate_left
   ·show Act.put _ (some 12) _ = _
    simp only [Act.put, sz1, sz2, sz3, i64_w, i32_w]
    rfl
   refine two_ (i := 6) (j := 12) (Ni := some 9) (Nj := some 15) #[true, true, true, true, true, true, true, true, true, true, true, true, false, false, false] #[true, true, true, true, true, true, false, true, true, true, true, true, true, false, false] rfl rfl rfl rfl (two_of HT_.out (by kernel_rfl)) (by decide) (by decide) (fun K hK => ?_) (fun K hK => ?_)
   ·skip
    refine Kd.R_lit_step (Kd.int .i64) _ 3 ?hg (N := 9) ?hd (xs := ([a0_1, a0_2, a0_3] : List Int)) (inner := [.int .i64 a0_1, .int .i64 a0_2, .int .i64 a0_3]) (ok := fun _ => True) (okp := fun _ => True) ?hr ?hp (fun _ hk => hk) trivial (Below.refl _ _) (Nat.le_refl _) (by simp) ?_; (case hd => rfl); (case hg => rfl); (case hr => exact vz); (case hp => exact (Reps.one (show Kd.M (Kd.int .i64) _ _ _ a0_1 [.int .i64 a0_1] from rfl) (Reps.one (show Kd.M (Kd.int .i64) _ _ _ a0_2 [.int .i64 a0_2] from rfl) (Reps.one (show Kd.M (Kd.int .i64) _ _ _ a0_3 [.int .i64 a0_3] from rfl) (Reps.none _ _)))))
    intro v263 w9 ho10 hb hg_ hnew_
    clear hg_ hnew_
    (first | rw [<- Ny262.out] at ho10 | (simp only [Int.reduceToNat] at ho10; rw [<- Ny262.out] at ho10))
    have n0_ := Aside0.mk (Kd.R_lower (Kd.R_newM (M := fun k_ => (w.heap.size <= k_)) ho10 (below_size (bz1 HB.out GE261.out)) (fun k_ h_ => h_)) (below_size (bz1 HB.out GE261.out)))
    have n1_ := Aside0.mk (blk_below (kz BK261.out) hb)
    have n2_ := Aside0.mk (below_step (bz1 HB.out GE261.out) hb)
    clear BK261
    clear HB
    have HO264 := n0_
    have BK261 := n1_
    have HB := n2_
    clear n0_ n1_ n2_
    clear hb ho10
    refine hK.out _ _ ⟨(blk_cell BK261.out 0).trans rfl, (blk_cell BK261.out 1).trans rfl, (blk_cell BK261.out 2).trans rfl, (blk_cell BK261.out 3).trans rfl, (blk_cell BK261.out 4).trans rfl, (blk_cell BK261.out 5).trans rfl, (blk_cell BK261.out 6).trans rfl⟩ (fun hHeld => ?_)
    clear hK K
    refine norm_ (a' := ?_) ?_ ?_
    rotate_left
    ·show Act.put _ (some 9) _ = _
     simp only [Act.put, sz1, sz2, sz3, i64_w, i32_w]
     rfl
    refine one_ (i := 12) (N := some 15) #[tt, tt, tt, tt, tt, tt, tt, tt, tt, tt, tt, tt, tt, ff, ff] rfl rfl (one_of HT_.out (by kernel_rfl)) (by decide) (fun K hK => ?_)
    refine goes_ Tryd.func82 (by kernel_rfl) rfl #[.int .i64 a0_0] (by rfl) rfl rfl lz ?_
    with_reducible refine (impl_Arity.calls k a0_0 t266 _ A3.out).mono ?_
    rintro e w' ⟨rfl, ⟨nd, rfl⟩⟩
    refine ⟨_, rfl, ?_⟩
    refine hK.out _ _ ⟨(blk_cell BK261.out 0).trans rfl, (blk_cell BK261.out 1).trans rfl, (blk_cell BK261.out 2).trans rfl, (blk_cell BK261.out 3).trans rfl, (blk_cell BK261.out 4).trans rfl, (blk_cell BK261.out 5).trans rfl, (blk_cell BK261.out 6).trans rfl⟩ (fun hHeld => ?_)
    clear hK K
    refine norm_ (a' := ?_) ?_ ?_
    rotate_left
    ·show Act.put _ (some 15) _ = _
     simp only [Act.put, sz1, sz2, sz3, i64_w, i32_w]
     rfl
    exact norm_ (by simp only [putAll, Act.put, List.setIfInBounds_toArray, List.set_cons_zero, List.set_cons_succ]) (hCont (v263) _ ⟨hHeld, (by refine rq ?_; exact Kd.R_mono HO264.out (fun _ hk => hk.1)), (kz BK261.out), (bz1 HB.out GE261.out)⟩)
   ·skip
    refine goes_ Tryd.func82 (by kernel_rfl) rfl #[.int .i64 a0_0] (by rfl) rfl rfl lz ?_
    with_reducible refine (impl_Arity.calls k a0_0 t266 _ A3.out).mono ?_
    rintro e w' ⟨rfl, ⟨nd, rfl⟩⟩
    refine ⟨_, rfl, ?_⟩
    refine hK.out _ _ ⟨(blk_cell BK261.out 0).trans rfl, (blk_cell BK261.out 1).trans rfl, (blk_cell BK261.out 2).trans rfl, (blk_cell BK261.out 3).trans rfl, (blk_cell BK261.out 4).trans rfl, (blk_cell BK261.out 5).trans rfl, (blk_cell BK261.out 6).trans rfl⟩ (fun hHeld => ?_)
    clear hK K
    refine norm_ (a' := ?_) ?_ ?_
    rotate_left
    ·show Act.put _ (some 15) _ = _
     simp only [Act.put, sz1, sz2, sz3, i64_w, i32_w]
     rfl
    refine one_ (i := 6) (N := some 9) #[tt, tt, tt, tt, tt, tt, tt, tt, tt, tt, tt, tt, tt, ff, ff] rfl rfl (one_of HT_.out (by kernel_rfl)) (by decide) (fun K hK => ?_)
    refine Kd.R_lit_step (Kd.int .i64) _ 3 ?hg (N := 9) ?hd (xs := ([a0_1, a0_2, a0_3] : List Int)) (inner := [.int .i64 a0_1, .int .i64 a0_2, .int .i64 a0_3]) (ok := fun _ => True) (okp := fun _ => True) ?hr ?hp (fun _ hk => hk) trivial (Below.refl _ _) (Nat.le_refl _) (by simp) ?_; (case hd => rfl); (case hg => rfl); (case hr => exact vz); (case hp => exact (Reps.one (show Kd.M (Kd.int .i64) _ _ _ a0_1 [.int .i64 a0_1] from rfl) (Reps.one (show Kd.M (Kd.int .i64) _ _ _ a0_2 [.int .i64 a0_2] from rfl) (Reps.one (show Kd.M (Kd.int .i64) _ _ _ a0_3 [.int .i64 a0_3] from rfl) (Reps.none _ _)))))
    intro v263 w9 ho10 hb hg_ hnew_
    clear hg_ hnew_
    (first | rw [<- Ny262.out] at ho10 | (simp only [Int.reduceToNat] at ho10; rw [<- Ny262.out] at ho10))
    have n0_ := Aside0.mk (Kd.R_lower (Kd.R_newM (M := fun k_ => (w.heap.size <= k_)) ho10 (below_size (bz1 HB.out GE261.out)) (fun k_ h_ => h_)) (below_size (bz1 HB.out GE261.out)))
    have n1_ := Aside0.mk (blk_below (kz BK261.out) hb)
    have n2_ := Aside0.mk (below_step (bz1 HB.out GE261.out) hb)
    clear BK261
    clear HB
    have HO264 := n0_
    have BK261 := n1_
    have HB := n2_
    clear n0_ n1_ n2_
    clear hb ho10
    refine hK.out _ _ ⟨(blk_cell BK261.out 0).trans rfl, (blk_cell BK261.out 1).trans rfl, (blk_cell BK261.out 2).trans rfl, (blk_cell BK261.out 3).trans rfl, (blk_cell BK261.out 4).trans rfl, (blk_cell BK261.out 5).trans rfl, (blk_cell BK261.out 6).trans rfl⟩ (fun hHeld => ?_)
    clear hK K
    refine norm_ (a' := ?_) ?_ ?_
    rotate_left
    ·show Act.put _ (some 9) _ = _
     simp only [Act.put, sz1, sz2, sz3, i64_w, i32_w]
     rfl
    exact norm_ (by simp only [putAll, Act.put, List.setIfInBounds_toArray, List.set_cons_zero, List.set_cons_succ]) (hCont (v263) _ ⟨hHeld, (by refine rq ?_; exact Kd.R_mono HO264.out (fun _ hk => hk.1)), (kz BK261.out), (bz1 HB.out GE261.out)⟩)
 rintro v263 w11 ⟨hS_, h0_, h1_, h2_⟩
 have n0_ : Aside0 (Kd.R (Kd.int .i64) 3 w11 w.heap.size (fun k_ => (w.heap.size <= k_)) v263 y262) := ⟨h0_⟩
 have n1_ : Aside0 (w11.heap[gb261]? = some (.cells #[.int .i64 a0_0, .int .i64 a0_1, .int .i64 a0_2, .int .i64 a0_3, .int .i64 a0_4, .string a0_5, .string a0_6] 43 (0, 0))) := ⟨h1_⟩
 have n2_ : Aside0 (Below w.heap.size w w11) := ⟨h2_⟩
 clear BK261
 clear HB
 clear h0_ h1_ h2_
 have HO264 := n0_
 have BK261 := n1_
 have HB := n2_
 clear n0_ n1_ n2_
 have hHeld : w11.cell? ⟨gb261, 0, none⟩ = some (.int .i64 a0_0) /\ w11.cell? ⟨gb261, 1, none⟩ = some (.int .i64 a0_1) /\ w11.cell? ⟨gb261, 2, none⟩ = some (.int .i64 a0_2) /\ w11.cell? ⟨gb261, 3, none⟩ = some (.int .i64 a0_3) /\ w11.cell? ⟨gb261, 4, none⟩ = some (.int .i64 a0_4) /\ w11.cell? ⟨gb261, 5, none⟩ = some (.string a0_5) /\ w11.cell? ⟨gb261, 6, none⟩ = some (.string a0_6) := hS_
 obtain ⟨Ao13, co13, eo13⟩ := Kd.R_slice HO264.out
 (first | subst eo13 | (injection eo13 with f1_ f2_ f3_; have f4_ := f1_.symm; have f5_ := f3_.symm; clear f1_ f2_ f3_; subst f4_; subst f5_))
 have q12 : (t265 : Int) <= ((y262.length : Int) : Int) := Int.le_trans (b := (t266 : Int)) (of_decide_eq_true az) (of_decide_eq_true az)
 obtain ⟨i012, hi012, _, hsz12, _⟩ := info_parts info3
 have hroom12 : y262.length <= co13 := (Kd.R_reads' HO264.out).2.1
 have hC12 : Kd.F (Kd.int .i64) _ _ Ao13 y262.length y262 := (Kd.V_at (base := w.heap.size) (Kd.R_V (Kd.R_types (HO264.out) BK261.out (by decide)))).2.2
 have qm12 : (t265 : Int) <= (t266 : Int) := oz
 have qn12 : (t266 : Int) <= ((y262.length : Int) : Int) := oz
 have hcut12 := cut_to3 (P := Tryd.prog) 47 3 .i64 .i64 Tryd.underlying47 hi012 Ao13 y262.length co13 t265 t266 (of_decide_eq_true az) qm12 qn12 hroom12
 have hr12 := Kd.F_take (m := (t265 : Int).toNat) hC12 (by omega)
 have hy12 : y267.length = (t265 : Int).toNat := (by rw [Ny267.out, List.length_take]; omega)
 rw [<- Ny267.out] at hr12
 rw [<- hy12] at hcut12
 have HO270 := Aside0.mk (show Kd.V (Kd.int .i64) 3 _ w.heap.size _ (.slice Ao13 y267.length (t266 : Int).toNat) y267 from Kd.V_mk (by omega) hr12)
 have HC270 := Aside0.mk (show y267.length <= (t266 : Int).toNat from by omega)
 clear hr12 hC12 hroom12 hi012 hsz12 qm12 qn12
 have KY12 := Aside0.mk hy12
 clear hy12
 replace q12 := eq_true q12
 refine norm_ (a' := ?_) ?_ ?_
 rotate_left
 ·simp only [putAll, Act.put, List.setIfInBounds_toArray, List.set_cons_zero, List.set_cons_succ]
  rfl
 refine pure_ (i := 13) (N := some 16) (v := ?_) (a' := ?_) #[tt, tt, tt, tt, tt, tt, tt, tt, tt, tt, tt, tt, tt, tt, ff] rfl rfl (any_of HT_.out (by kernel_rfl)) (fun _ _ _ h => h) (Or.inl ⟨by rfl, ?_⟩) ?_ ?_
 rotate_left
 ·intro w'
  go_simp
  with_reducible rfl
 rotate_left
 ·simp only [Act.put, sz1, sz2, sz3, i64_w, i32_w]
  rfl
 refine pure_ (i := 14) (N := some 2) (v := ?_) (a' := ?_) #[tt, tt, tt, tt, tt, tt, tt, tt, tt, tt, tt, tt, tt, tt, tt] rfl rfl (any_of HT_.out (by kernel_rfl)) (fun _ _ _ h => h) (Or.inl ⟨by rfl, ?_⟩) ?_ ?_
 rotate_left
 ·intro w'
  go_simp
  with_reducible rfl
 rotate_left
 ·simp only [Act.put, sz1, sz2, sz3, i64_w, i32_w]
  rfl
 refine done_ (done_of HT_.out (by kernel_rfl)) ?_
 try go_wp2
 go_ret
 exact ⟨_, gz, by (with_reducible repeat (first | apply Kd.V_alloc | apply Kd.V_drewN | apply Kd.V_drew)); exact Kd.V_mono HO270.out (fun _ hk => hk.1), (bz1 HB.out GE261.out)⟩
mutual
def impl_NodesOk.l0 : Nat -> List (S43) -> List Int -> List (S43) -> Int -> Int -> Option (Bool)
 | 0, _, _, _, _, _ => none
 | k + 1, x0, x3, x16, x17, x18 => if x18 < x17 then (if 0 <= x18 then (if x18 < (x16.length : Int) then ((impl_fieldsOk.f k ((rd_T43 x16 x18).f0) ((rd_T43 x16 x18).f1) ((rd_T43 x16 x18).f2) ((rd_T43 x16 x18).f3) ((rd_T43 x16 x18).f4) ((rd_T43 x16 x18).f5) ((rd_T43 x16 x18).f6)).bind fun t278 => (if t278 = true then ((impl_Kids.f k ((rd_T43 x16 x18).f0) ((rd_T43 x16 x18).f1) ((rd_T43 x16 x18).f2) ((rd_T43 x16 x18).f3) ((rd_T43 x16 x18).f4) ((rd_T43 x16 x18).f5) ((rd_T43 x16 x18).f6)).bind fun t279 => (impl_NodesOk.l1 k x0 x3 x18 t279 x18 (wrap64 ((t279.length : Int) - 1)) x16 x17 x18)) else (some false))) else (none)) else (none)) else (if 0 <= (wrap64 ((x0.length : Int) - 1)) then (if (wrap64 ((x0.length : Int) - 1)) < (x3.length : Int) then (some ((rd x3 (wrap64 ((x0.length : Int) - 1))) == 0)) else (none)) else (none))
def impl_NodesOk.l1 : Nat -> List (S43) -> List Int -> Int -> List Int -> Int -> Int -> List (S43) -> Int -> Int -> Option (Bool)
 | 0, _, _, _, _, _, _, _, _, _ => none
 | k + 1, x0, x3, x4, x6, x7, x8, x16, x17, x18 => if x8 ≥ 0 then (if x7 = 0 then (some false) else (if 0 <= x8 then (if x8 < (x6.length : Int) then (if (rd x6 x8) = (wrap64 (x7 - 1)) then (if 0 <= (wrap64 (x7 - 1)) then (if (wrap64 (x7 - 1)) < (x3.length : Int) then (impl_NodesOk.l1 k x0 x3 x4 x6 (rd x3 (wrap64 (x7 - 1))) (wrap64 (x8 - 1)) x16 x17 x18) else (none)) else (none)) else (some false)) else (none)) else (none))) else (if 0 <= x4 then (if x4 < (x3.length : Int) then (impl_NodesOk.l0 k x0 (x3.set (x4 : Int).toNat x7) x16 x17 (wrap64 (x18 + 1))) else (none)) else (none))
end
def impl_NodesOk.f (k : Nat) (l0 : List (S43)) : Option (Bool) := (impl_in.f (l0.length : Int) 1 150).bind fun t271 => (if t271 = true then (if 0 <= (l0.length : Int) then (if ((l0.length : Int) : Int).toNat <= 35184372088832 then (impl_NodesOk.l0 k l0 (List.replicate ((l0.length : Int) : Int).toNat 0) l0 (l0.length : Int) 0) else (none)) else (none)) else (some false))
theorem impl_NodesOk.mono_l : ∀ k, (∀ y0 y1 y2 y3 y4, LeO (impl_NodesOk.l0 k y0 y1 y2 y3 y4) (impl_NodesOk.l0 (k + 1) y0 y1 y2 y3 y4)) /\ (∀ y0 y1 y2 y3 y4 y5 y6 y7 y8, LeO (impl_NodesOk.l1 k y0 y1 y2 y3 y4 y5 y6 y7 y8) (impl_NodesOk.l1 (k + 1) y0 y1 y2 y3 y4 y5 y6 y7 y8))
 | 0 => ⟨fun _ _ _ _ _ r h => by simp [impl_NodesOk.l0] at h, fun _ _ _ _ _ _ _ _ _ r h => by simp [impl_NodesOk.l1] at h⟩
 | k + 1 => by
  obtain ⟨ih0, ih1⟩ := impl_NodesOk.mono_l k
  refine ⟨?_, ?_⟩
  ·intro y0 y1 y2 y3 y4
   unfold impl_NodesOk.l0
   with_reducible repeat' first | exact ih0 _ _ _ _ _ | exact ih1 _ _ _ _ _ _ _ _ _ | exact impl_Kids.mono _ _ _ _ _ _ _ _ | exact impl_fieldsOk.mono _ _ _ _ _ _ _ _ | exact lrz _ | exact lnz _ | refine liz ?_ ?_ | refine lbz ?_ fun _ => ?_
  ·intro y0 y1 y2 y3 y4 y5 y6 y7 y8
   unfold impl_NodesOk.l1
   with_reducible repeat' first | exact ih0 _ _ _ _ _ | exact ih1 _ _ _ _ _ _ _ _ _ | exact impl_Kids.mono _ _ _ _ _ _ _ _ | exact impl_fieldsOk.mono _ _ _ _ _ _ _ _ | exact lrz _ | exact lnz _ | refine liz ?_ ?_ | refine lbz ?_ fun _ => ?_
theorem impl_NodesOk.mono : ∀ a0 k, LeO (impl_NodesOk.f k a0) (impl_NodesOk.f (k + 1) a0) := by
 intro a0 k
 obtain ⟨ih0, ih1⟩ := impl_NodesOk.mono_l k
 unfold impl_NodesOk.f
 with_reducible repeat' first | exact ih0 _ _ _ _ _ | exact ih1 _ _ _ _ _ _ _ _ _ | exact impl_Kids.mono _ _ _ _ _ _ _ _ | exact impl_fieldsOk.mono _ _ _ _ _ _ _ _ | exact lrz _ | exact lnz _ | refine liz ?_ ?_ | refine lbz ?_ fun _ => ?_
set_option maxHeartbeats 8000000 in
set_option maxRecDepth 100000 in
theorem impl_NodesOk.calls (k : Nat) (A0 : Option Addr) (c0 : Nat) (l0 : List (S43)) (r : Bool) (w : World) (hr0 : Kd.C k43 w A0 l0.length l0) (hc0 : l0.length <= c0) (h : impl_NodesOk.f k l0 = some r) :
  Calls Tryd.prog 36 #[.slice A0 l0.length c0] w fun e w' => e = .returned (.bool r) /\ Below w.heap.size w w' := by
 have hu43 := Tryd.underlying43
 have HR0 := Aside0.mk hr0
 have HC0 := Aside0.mk hc0
 clear hr0 hc0
 have HB := Aside0.mk (Below.refl w.heap.size w)
 have H : ((impl_in.f (l0.length : Int) 1 150).bind fun t271 => (if t271 = true then (if 0 <= (l0.length : Int) then (if ((l0.length : Int) : Int).toNat <= 35184372088832 then (impl_NodesOk.l0 k l0 (List.replicate ((l0.length : Int) : Int).toNat 0) l0 (l0.length : Int) 0) else (none)) else (none)) else (some false))) = some r := h
 clear h
 replace H := bi H
 obtain ⟨t271, A20, H⟩ := H
 try dsimp only at H
 have A2 := Aside0.mk A20
 clear A20
 by_cases c3 : t271 = true
 ·subst c3
  have H1 := hp H
  clear H
  have H := H1
  clear H1
  replace H := iz H
  obtain ⟨c4, H⟩ := H
  have c4b0 := eq_true c4
  have c4b1 : decide (0 <= (l0.length : Int)) = true := decide_eq_true c4
  clear c4
  replace H := iz H
  obtain ⟨c5, H⟩ := H
  have c5b0 := eq_true c5
  have c5b1 : decide (((l0.length : Int) : Int).toNat <= 35184372088832) = true := decide_eq_true c5
  clear c5
  obtain ⟨y272, hy272⟩ : ∃ y_ : List Int, y_ = (List.replicate ((l0.length : Int) : Int).toNat 0) := ⟨_, rfl⟩
  replace H : (impl_NodesOk.l0 k l0 y272 l0 (l0.length : Int) 0) = some r := yz hy272 H
  have Ny272 := Aside0.mk hy272
  clear hy272
  have H' := Aside0.mk H
  clear H
  go_enter Tryd.func36, Tryd.ntmps36
  go_wp2_with (first | ((with_reducible refine gate_callee (f := 44) rfl ?_); refine goesL_ (some 11) rfl rfl Tryd.func44 (by kernel_rfl) rfl #[.int .i64 (l0.length : Int), .int .i64 1, .int .i64 150] rfl lz ?_; (with_reducible refine (impl_in.calls (l0.length : Int) 1 150 true _ A2.out).mono ?_); rintro e w' ⟨rfl, ⟨nd, rfl⟩⟩; refine ⟨_, rfl, ?_⟩) | ((with_reducible refine gate_dst (N := 15) rfl ?_); refine Kd.R_make (Kd.int .i64) _ 3 rfl (N := 15) rfl 47 _ _ rfl (l0.length : Int) rfl rfl Tryd.underlying47 (.int .i64 0) 8 info3 rfl (by decide) (by omega) 0 (ok := fun _ => True) (okp := fun _ => True) rfl (fun _ hk => hk) trivial (of_decide_eq_true az) (Nat.le_trans (Nat.mul_le_mul_right _ (of_decide_eq_true az : (l0.length : Int).toNat <= 35184372088832)) (by omega)) (Below.refl _ _) (Nat.le_refl _) ?_; intro v273 w6 ho7 hb hg_ hnew_; clear hg_ hnew_; (first | rw [<- Ny272.out] at ho7 | (simp only [Int.reduceToNat] at ho7; rw [<- Ny272.out] at ho7)); have HO274 := Aside0.mk (Kd.R_lower ho7 (below_size (bz0 HB.out))); replace HB := Aside0.mk (below_step (bz0 HB.out) hb); clear hb ho7))
  go_loopg [18] k (fun kq v18 w' => ∃ (x3_1 : List Int) (x18_1 : Int), v18 = .int .i64 x18_1 /\ Aside0 (impl_NodesOk.l0 kq l0 x3_1 l0 (l0.length : Int) x18_1 = some r) /\ Aside0 (kq <= k) /\ Aside0 (Kd.R (Kd.int .i64) 3 w' w.heap.size (fun _ => True) v273 x3_1) /\ Aside0 (Below w.heap.size w w'))
  case atStart => exact ⟨(y272), (0), ez, H', ⟨Nat.le_refl _⟩, ⟨by refine rq ?_; exact HO274.out⟩, ⟨(bz0 HB.out)⟩⟩
  case round =>
   clear H'
   try clear p2
   try clear c3
   try clear c4
   try clear c4b0
   try clear c4b1
   try clear c5
   try clear c5b0
   try clear c5b1
   obtain ⟨x3_1, x18_1, rfl, HA, HK1, HO_3, HB⟩ := hrel
   cases gk with
   | zero => exact absurd HA.out (by simp [impl_NodesOk.l0])
   | succ k1 =>
    have H := HA.out
    clear HA
    simp only [impl_NodesOk.l0] at H
    by_cases c8 : x18_1 < (l0.length : Int)
    ·rw [if_pos c8] at H
     have c8b0 := decide_eq_true c8
     clear c8
     replace H := iz H
     obtain ⟨c9, H⟩ := H
     have c9b0 := decide_eq_true c9
     clear c9
     replace H := iz H
     obtain ⟨c10, H⟩ := H
     have c10b0 := decide_eq_true c10
     clear c10
     replace H := bi H
     obtain ⟨t278, A110, H⟩ := H
     try dsimp only at H
     have A11 := Aside0.mk A110
     clear A110
     by_cases c12 : t278 = true
     ·subst c12
      have H1 := hp H
      clear H
      have H := H1
      clear H1
      replace H := bi H
      obtain ⟨t279, A130, H⟩ := H
      try dsimp only at H
      have A13 := Aside0.mk A130
      clear A130
      have H' := Aside0.mk H
      clear H
      have p276 : 0 <= (x18_1 : Int) := oz
      have q276 : x18_1 < (l0.length : Int) := oz
      obtain ⟨ad276, e276, hx276_0, hx276_1, hx276_2, hx276_3, hx276_4, hx276_5, hx276_6⟩ := at_T43 (Kd.C_below HR0.out HB.out) x18_1 p276 q276
      cases e276
      replace p276 := eq_true p276
      replace q276 := eq_true q276
      go_wp2_with (first | ((with_reducible refine gate_dst (N := 5) rfl ?_); refine box_event ?hg (N := 5) ?hd (cs := #[.int .i64 0, .int .i64 0, .int .i64 0, .int .i64 0, .int .i64 0, .string (⟨#[]⟩ : ByteArray), .string (⟨#[]⟩ : ByteArray)]) (t := 43) ?hr ?_; (case hd => rfl); (case hg => rfl); (case hr => exact vz); intro gb277 hg w14 hbox hb; replace HO_3 := qz HO_3 hb; have BK277 := Aside0.mk (hbox); have GW277 := Aside0.mk ((by rw [hg]; exact (below_size (bz0 HB.out)) : w.heap.size <= gb277)); have GE277 := Aside0.mk ((by rw [hg]; exact (below_size (bz0 HB.out)) : w.heap.size <= gb277)); replace HB := Aside0.mk (below_step (bz0 HB.out) hb); clear hb hbox hg; obtain ⟨hcz15_0, hcz15_1, hcz15_2, hcz15_3, hcz15_4, hcz15_5, hcz15_6⟩ := cz7 BK277.out; obtain ⟨hfz15_0, hfz15_1, hfz15_2, hfz15_3, hfz15_4, hfz15_5, hfz15_6⟩ := fz7 BK277.out) | ((with_reducible refine gate_callee (f := 68) rfl ?_); refine goesL_ (some 24) rfl rfl Tryd.func68 (by kernel_rfl) rfl #[.agg #[.int .i64 ((rd_T43 l0 x18_1).f0), .int .i64 ((rd_T43 l0 x18_1).f1), .int .i64 ((rd_T43 l0 x18_1).f2), .int .i64 ((rd_T43 l0 x18_1).f3), .int .i64 ((rd_T43 l0 x18_1).f4), .string ((rd_T43 l0 x18_1).f5), .string ((rd_T43 l0 x18_1).f6)]] rfl lz ?_; (with_reducible refine (impl_fieldsOk.calls k1 ((rd_T43 l0 x18_1).f0) ((rd_T43 l0 x18_1).f1) ((rd_T43 l0 x18_1).f2) ((rd_T43 l0 x18_1).f3) ((rd_T43 l0 x18_1).f4) ((rd_T43 l0 x18_1).f5) ((rd_T43 l0 x18_1).f6) true _ A11.out).mono ?_); rintro e w16 ⟨rfl, hb⟩; refine ⟨_, rfl, ?_⟩; replace HO_3 := Aside0.mk (Kd.R_below (by refine rq ?_; exact (Kd.R_mono (Kd.R_far (p := ⟨gb277, 6, none⟩) (Kd.R_far (p := ⟨gb277, 5, none⟩) (Kd.R_far (p := ⟨gb277, 4, none⟩) (Kd.R_far (p := ⟨gb277, 3, none⟩) (Kd.R_far (p := ⟨gb277, 2, none⟩) (Kd.R_far (p := ⟨gb277, 1, none⟩) (Kd.R_far (p := ⟨gb277, 0, none⟩) (Kd.R_types HO_3.out BK277.out (by decide)) (fun _ hk => hk.2) (.int .i64 ((rd_T43 l0 x18_1).f0))) (fun _ hk => hk.2) (.int .i64 ((rd_T43 l0 x18_1).f1))) (fun _ hk => hk.2) (.int .i64 ((rd_T43 l0 x18_1).f2))) (fun _ hk => hk.2) (.int .i64 ((rd_T43 l0 x18_1).f3))) (fun _ hk => hk.2) (.int .i64 ((rd_T43 l0 x18_1).f4))) (fun _ hk => hk.2) (.string ((rd_T43 l0 x18_1).f5))) (fun _ hk => hk.2) (.string ((rd_T43 l0 x18_1).f6))) (fun _ h_ => h_.1))) hb); replace BK277 := Aside0.mk (blk_below (g := gb277) (o := .cells #[.int .i64 ((rd_T43 l0 x18_1).f0), .int .i64 ((rd_T43 l0 x18_1).f1), .int .i64 ((rd_T43 l0 x18_1).f2), .int .i64 ((rd_T43 l0 x18_1).f3), .int .i64 ((rd_T43 l0 x18_1).f4), .string ((rd_T43 l0 x18_1).f5), .string ((rd_T43 l0 x18_1).f6)] 43 (0, 0)) (by refine kq ?_; refine blk_put (cs := #[.int .i64 ((rd_T43 l0 x18_1).f0), .int .i64 ((rd_T43 l0 x18_1).f1), .int .i64 ((rd_T43 l0 x18_1).f2), .int .i64 ((rd_T43 l0 x18_1).f3), .int .i64 ((rd_T43 l0 x18_1).f4), .string ((rd_T43 l0 x18_1).f5), .string (⟨#[]⟩ : ByteArray)]) ?_ 6 _ rfl; refine kq ?_; refine blk_put (cs := #[.int .i64 ((rd_T43 l0 x18_1).f0), .int .i64 ((rd_T43 l0 x18_1).f1), .int .i64 ((rd_T43 l0 x18_1).f2), .int .i64 ((rd_T43 l0 x18_1).f3), .int .i64 ((rd_T43 l0 x18_1).f4), .string (⟨#[]⟩ : ByteArray), .string (⟨#[]⟩ : ByteArray)]) ?_ 5 _ rfl; refine kq ?_; refine blk_put (cs := #[.int .i64 ((rd_T43 l0 x18_1).f0), .int .i64 ((rd_T43 l0 x18_1).f1), .int .i64 ((rd_T43 l0 x18_1).f2), .int .i64 ((rd_T43 l0 x18_1).f3), .int .i64 0, .string (⟨#[]⟩ : ByteArray), .string (⟨#[]⟩ : ByteArray)]) ?_ 4 _ rfl; refine kq ?_; refine blk_put (cs := #[.int .i64 ((rd_T43 l0 x18_1).f0), .int .i64 ((rd_T43 l0 x18_1).f1), .int .i64 ((rd_T43 l0 x18_1).f2), .int .i64 0, .int .i64 0, .string (⟨#[]⟩ : ByteArray), .string (⟨#[]⟩ : ByteArray)]) ?_ 3 _ rfl; refine kq ?_; refine blk_put (cs := #[.int .i64 ((rd_T43 l0 x18_1).f0), .int .i64 ((rd_T43 l0 x18_1).f1), .int .i64 0, .int .i64 0, .int .i64 0, .string (⟨#[]⟩ : ByteArray), .string (⟨#[]⟩ : ByteArray)]) ?_ 2 _ rfl; refine kq ?_; refine blk_put (cs := #[.int .i64 ((rd_T43 l0 x18_1).f0), .int .i64 0, .int .i64 0, .int .i64 0, .int .i64 0, .string (⟨#[]⟩ : ByteArray), .string (⟨#[]⟩ : ByteArray)]) ?_ 1 _ rfl; refine kq ?_; refine blk_put (cs := #[.int .i64 0, .int .i64 0, .int .i64 0, .int .i64 0, .int .i64 0, .string (⟨#[]⟩ : ByteArray), .string (⟨#[]⟩ : ByteArray)]) ?_ 0 _ rfl; refine kq ?_; exact BK277.out) hb); replace HB := Aside0.mk (below_step (bz1 HB.out GE277.out) hb); (try clear hb); (try clear hk); obtain ⟨hcz17_0, hcz17_1, hcz17_2, hcz17_3, hcz17_4, hcz17_5, hcz17_6⟩ := cz7 BK277.out; obtain ⟨hfz17_0, hfz17_1, hfz17_2, hfz17_3, hfz17_4, hfz17_5, hfz17_6⟩ := fz7 BK277.out) | ((with_reducible refine gate_callee (f := 69) rfl ?_); refine goesL_ (some 27) rfl rfl Tryd.func69 (by kernel_rfl) rfl #[.agg #[.int .i64 ((rd_T43 l0 x18_1).f0), .int .i64 ((rd_T43 l0 x18_1).f1), .int .i64 ((rd_T43 l0 x18_1).f2), .int .i64 ((rd_T43 l0 x18_1).f3), .int .i64 ((rd_T43 l0 x18_1).f4), .string ((rd_T43 l0 x18_1).f5), .string ((rd_T43 l0 x18_1).f6)]] rfl lz ?_; (with_reducible refine (impl_Kids.calls k1 ((rd_T43 l0 x18_1).f0) ((rd_T43 l0 x18_1).f1) ((rd_T43 l0 x18_1).f2) ((rd_T43 l0 x18_1).f3) ((rd_T43 l0 x18_1).f4) ((rd_T43 l0 x18_1).f5) ((rd_T43 l0 x18_1).f6) t279 _ A13.out).mono ?_); rintro e w18 ⟨v280, rfl, ho0, hb⟩; refine ⟨_, rfl, ?_⟩; have HO281 := Aside0.mk (Kd.V_lower (Kd.V_mono (ok' := fun k_ => some k_ ≠ (v273 : Value).ownBlock /\ k_ ≠ gb277) ho0 (fun k_ hk_ => ⟨(Kd.fresh' (Kd.R_lt (rz HO_3.out)) k_ hk_), (Kd.freshB (g := gb277) (o := .cells #[.int .i64 ((rd_T43 l0 x18_1).f0), .int .i64 ((rd_T43 l0 x18_1).f1), .int .i64 ((rd_T43 l0 x18_1).f2), .int .i64 ((rd_T43 l0 x18_1).f3), .int .i64 ((rd_T43 l0 x18_1).f4), .string ((rd_T43 l0 x18_1).f5), .string ((rd_T43 l0 x18_1).f6)] 43 (0, 0)) (kz BK277.out) k_ hk_)⟩)) (below_size (bz1 HB.out GE277.out))); replace HO_3 := qz HO_3 hb; replace BK277 := Aside0.mk (blk_below (kz BK277.out) hb); replace HB := Aside0.mk (below_step (bz1 HB.out GE277.out) hb); (try clear hb); (try clear hk); (try clear ho0); obtain ⟨Ao19, co19, eo19⟩ := Kd.V_slice HO281.out; subst eo19))
      (try simp only [Act.put, sz1, sz2, sz3])
      go_loopg [7, 8] k1 (fun kq v7 v8 w' => ∃ (x7_2 : Int) (x8_2 : Int), v7 = .int .i64 x7_2 /\ v8 = .int .i64 x8_2 /\ Aside0 (impl_NodesOk.l1 kq l0 x3_1 x18_1 t279 x7_2 x8_2 l0 (l0.length : Int) x18_1 = some r) /\ Aside0 (kq <= k1) /\ Aside0 (Kd.R (Kd.int .i64) 3 w' w.heap.size (fun _ => True) v273 x3_1) /\ Aside0 (Kd.V (Kd.int .i64) 3 w' w.heap.size (fun k_ => some k_ ≠ (v273 : Value).ownBlock /\ k_ ≠ gb277) (.slice Ao19 t279.length co19) t279) /\ Aside0 (w'.heap[gb277]? = some (.cells #[.int .i64 ((rd_T43 l0 x18_1).f0), .int .i64 ((rd_T43 l0 x18_1).f1), .int .i64 ((rd_T43 l0 x18_1).f2), .int .i64 ((rd_T43 l0 x18_1).f3), .int .i64 ((rd_T43 l0 x18_1).f4), .string ((rd_T43 l0 x18_1).f5), .string ((rd_T43 l0 x18_1).f6)] 43 (0, 0))) /\ Aside0 (Below w.heap.size w w'))
      case atStart => exact ⟨(x18_1), (wrap64 ((t279.length : Int) - 1)), ez, ez, H', ⟨Nat.le_refl _⟩, ⟨by refine rq ?_; exact HO_3.out⟩, ⟨by (with_reducible repeat (first | apply Kd.V_alloc | apply Kd.V_drewN | apply Kd.V_drew)); exact HO281.out⟩, ⟨by refine kq ?_; exact BK277.out⟩, ⟨(bz1 HB.out GE277.out)⟩⟩
      case round =>
       clear H'
       try clear c1
       try clear p2
       try clear q2
       try clear hx2
       try clear c3
       try clear c4
       try clear c4b0
       try clear c4b1
       try clear c5
       try clear c5b0
       try clear c5b1
       try clear c6
       try clear p6
       try clear c8
       try clear c8b0
       try clear c9
       try clear c9b0
       try clear c10
       try clear c10b0
       try clear c12
       try clear hcz15_0 hcz15_1 hcz15_2 hcz15_3 hcz15_4 hcz15_5 hcz15_6
       try clear hcz17_0 hcz17_1 hcz17_2 hcz17_3 hcz17_4 hcz17_5 hcz17_6
       try clear hfz15_0 hfz15_1 hfz15_2 hfz15_3 hfz15_4 hfz15_5 hfz15_6
       try clear hfz17_0 hfz17_1 hfz17_2 hfz17_3 hfz17_4 hfz17_5 hfz17_6
       try clear hx276_0
       try clear hx276_1
       try clear hx276_2
       try clear hx276_3
       try clear hx276_4
       try clear hx276_5
       try clear hx276_6
       try clear p2
       try clear p276
       try clear q276
       obtain ⟨x7_2, x8_2, rfl, rfl, HA, HK2, HO_3, HO_6, BK277, HB⟩ := hrel
       cases gk with
       | zero => exact absurd HA.out (by simp [impl_NodesOk.l1])
       | succ k2 =>
        have H := HA.out
        clear HA
        simp only [impl_NodesOk.l1] at H
        by_cases c20 : x8_2 ≥ 0
        ·rw [if_pos c20] at H
         have c20b0 : decide (0 <= x8_2) = true := decide_eq_true c20
         clear c20
         by_cases c21 : x7_2 = 0
         ·rw [if_pos c21] at H
          have c21b0 : (x7_2 == 0) = true := beq_iff_eq.mpr c21
          have c21b1 : (x7_2 != 0) = false := bne_eq_false_iff_eq.mpr c21
          clear c21
          obtain rfl := Option.some.inj H
          go_wp2
          go_ret
          exact ⟨gz, (bz1 HB.out GE277.out)⟩
         ·rw [if_neg c21] at H
          have c21b0 : (x7_2 == 0) = false := beq_eq_false_iff_ne.mpr c21
          have c21b1 : (x7_2 != 0) = true := bne_iff_ne.mpr c21
          replace H := iz H
          obtain ⟨c22, H⟩ := H
          have c22b0 := decide_eq_true c22
          clear c22
          replace H := iz H
          obtain ⟨c23, H⟩ := H
          have c23b0 := decide_eq_true c23
          clear c23
          by_cases c24 : (rd t279 x8_2) = (wrap64 (x7_2 - 1))
          ·rw [if_pos c24] at H
           have c24b0 : ((rd t279 x8_2) == (wrap64 (x7_2 - 1))) = true := beq_iff_eq.mpr c24
           have c24b1 : ((rd t279 x8_2) != (wrap64 (x7_2 - 1))) = false := bne_eq_false_iff_eq.mpr c24
           clear c24
           obtain ⟨ji25, hji25⟩ : ∃ j_ : Int, (wrap64 (x7_2 - 1)) = j_ := ⟨_, rfl⟩
           replace H : (if 0 <= (ji25) then (if (ji25) < (x3_1.length : Int) then (impl_NodesOk.l1 k2 l0 x3_1 x18_1 t279 (rd x3_1 (ji25)) (wrap64 (x8_2 - 1)) l0 (l0.length : Int) x18_1) else (none)) else (none)) = some r := by first | (rw [hji25] at H; exact H) | (simp only [hji25] at H ⊢; exact H)
           (try rw [hji25] at c24b0)
           (try rw [hji25] at c24b1)
           have hji25w : (IntKind.i64.wrap (x7_2 - 1)) = ji25 := (i64_w _).trans hji25
           replace H := iz H
           obtain ⟨c26, H⟩ := H
           have c26b0 := decide_eq_true c26
           clear c26
           replace H := iz H
           obtain ⟨c27, H⟩ := H
           have c27b0 := decide_eq_true c27
           clear c27
           have H' := Aside0.mk H
           clear H
           have p282 : 0 <= (x8_2 : Int) := oz
           have q282 : x8_2 < (t279.length : Int) := oz
           obtain ⟨ad282, e282, hx282_0⟩ := Kd.at_int (Kd.V_reads' HO_6.out).2.2 x8_2 p282 q282
           cases e282
           replace p282 := eq_true p282
           replace q282 := eq_true q282
           obtain ⟨Ao28, co28, eo28⟩ := Kd.R_slice HO_3.out
           subst eo28
           have p283 : 0 <= ((ji25) : Int) := oz
           have q283 : (ji25) < (x3_1.length : Int) := oz
           obtain ⟨ad283, e283, hx283_0⟩ := Kd.at_int (Kd.R_reads' HO_3.out).2.2 (ji25) p283 q283
           cases e283
           replace p283 := eq_true p283
           replace q283 := eq_true q283
           go_wp2
           go_roundg k2
           case measure => have := HK1.out; have := HK2.out; omega
           case rel => exact ⟨(rd x3_1 (ji25)), (wrap64 (x8_2 - 1)), (by first | rfl | (simp; done) | (simp only [<- hji25] <;> (first | rfl | simp)) | (simp [*]; done)), ez, H', ⟨by have := HK1.out; have := HK2.out; omega⟩, ⟨by refine rq ?_; exact HO_3.out⟩, ⟨by (with_reducible repeat (first | apply Kd.V_alloc | apply Kd.V_drewN | apply Kd.V_drew)); exact HO_6.out⟩, ⟨by refine kq ?_; exact BK277.out⟩, ⟨(bz1 HB.out GE277.out)⟩⟩
          ·rw [if_neg c24] at H
           have c24b0 : ((rd t279 x8_2) == (wrap64 (x7_2 - 1))) = false := beq_eq_false_iff_ne.mpr c24
           have c24b1 : ((rd t279 x8_2) != (wrap64 (x7_2 - 1))) = true := bne_iff_ne.mpr c24
           obtain rfl := Option.some.inj H
           have p282 : 0 <= (x8_2 : Int) := oz
           have q282 : x8_2 < (t279.length : Int) := oz
           obtain ⟨ad282, e282, hx282_0⟩ := Kd.at_int (Kd.V_reads' HO_6.out).2.2 x8_2 p282 q282
           cases e282
           replace p282 := eq_true p282
           replace q282 := eq_true q282
           go_wp2
           go_ret
           exact ⟨gz, (bz1 HB.out GE277.out)⟩
        ·rw [if_neg c20] at H
         have c20b0 : decide (0 <= x8_2) = false := decide_eq_false c20
         clear c20
         replace H := iz H
         obtain ⟨c29, H⟩ := H
         have c29b0 := decide_eq_true c29
         clear c29
         replace H := iz H
         obtain ⟨c30, H⟩ := H
         have c30b0 := decide_eq_true c30
         clear c30
         obtain ⟨y284, hy284⟩ : ∃ y_ : List Int, y_ = (x3_1.set (x18_1 : Int).toNat x7_2) := ⟨_, rfl⟩
         replace H : (impl_NodesOk.l0 k2 l0 y284 l0 (l0.length : Int) (wrap64 (x18_1 + 1))) = some r := yz hy284 H
         have Ny284 := Aside0.mk hy284
         clear hy284
         have H' := Aside0.mk H
         clear H
         have p31 : 0 <= (x18_1 : Int) := oz
         have q31 : (x18_1 : Int) < ((x3_1.length : Int) : Int) := oz
         obtain ⟨go31, co31, eo31, gb31, gl31, cl31, HG31⟩ := Kd.R_form HO_3.out (by omega)
         (first | cases eo31 | (injection eo31 with ea_ en_ ec_; (first | subst ea_ | (injection ea_ with ea_; subst ea_)); subst ec_; clear en_))
         have GB31 := Aside0.mk gb31
         have GG31 := Aside0.mk HG31
         clear gb31 gl31 HG31
         obtain ⟨hx31_0, hf31_0⟩ := Kd.R_celln 0 HO_3.out (x18_1 : Int) p31 q31
         replace p31 := eq_true p31
         replace q31 := eq_true q31
         have HP32 := Kd.R_putg HO_3.out (x18_1 : Int) x7_2
         go_wp2_with (first | ((with_reducible refine gate_store (t := 3) (p := 55) rfl ?_); refine store_event (t := 3) (p := 55) (v := ?vo_w33) (w1 := (wr.setCell ⟨go31, (x18_1 : Int).toNat, none⟩ (.int .i64 x7_2))) ?hg ?ho ?hn ?hr ?_; (case ho => rfl); (case hg => rfl); (case hn => rfl); (case hr => exact vz); intro w33 hw; have hg : wr.grownBy w33 (some go31) := (by rw [hw]; exact HP32.2); have hp_ : Kd.R (Kd.int .i64) 3 w33 w.heap.size (fun _ => True) (.slice (some ⟨go31, 0, none⟩) x3_1.length co31) y284 := (by rw [hw, Ny284.out]; exact HP32.1); clear HP32; replace HO_6 := Aside0.mk (Kd.V_afterv (v := (.slice (some ⟨go31, 0, none⟩) x3_1.length co31)) (v1 := (.slice (some ⟨go31, 0, none⟩) x3_1.length co31)) (ok := (fun k_ => k_ ≠ gb277)) (by (with_reducible repeat (first | apply Kd.V_alloc | apply Kd.V_drewN | apply Kd.V_drew)); exact Kd.V_mono HO_6.out (fun _ hk => ⟨hk.2, hk.1⟩)) hg (.inl rfl)); replace BK277 := Aside0.mk (blk_grown (g := gb277) (o := .cells #[.int .i64 ((rd_T43 l0 x18_1).f0), .int .i64 ((rd_T43 l0 x18_1).f1), .int .i64 ((rd_T43 l0 x18_1).f2), .int .i64 ((rd_T43 l0 x18_1).f3), .int .i64 ((rd_T43 l0 x18_1).f4), .string ((rd_T43 l0 x18_1).f5), .string ((rd_T43 l0 x18_1).f6)] 43 (0, 0)) (kz BK277.out) hg (Kd.R_ne HO_3.out BK277.out (by decide))); replace HO_3 := Aside0.mk (hp_); replace HB := Aside0.mk ((by rw [hw]; exact below_set (HB.out) GB31.out : Below w.heap.size w w33)); clear hg hw hp_))
         go_roundg k2
         case measure => have := HK1.out; have := HK2.out; omega
         case rel => exact ⟨(y284), (wrap64 (x18_1 + 1)), ez, H', ⟨by have := HK1.out; have := HK2.out; omega⟩, ⟨by refine rq ?_; exact HO_3.out⟩, ⟨(bz1 HB.out GE277.out)⟩⟩
     ·replace c12 := Bool.eq_false_iff.mpr c12
      subst c12
      have H1 := hq H
      clear H
      have H := H1
      clear H1
      obtain rfl := Option.some.inj H
      have p276 : 0 <= (x18_1 : Int) := oz
      have q276 : x18_1 < (l0.length : Int) := oz
      obtain ⟨ad276, e276, hx276_0, hx276_1, hx276_2, hx276_3, hx276_4, hx276_5, hx276_6⟩ := at_T43 (Kd.C_below HR0.out HB.out) x18_1 p276 q276
      cases e276
      replace p276 := eq_true p276
      replace q276 := eq_true q276
      go_wp2_with (first | ((with_reducible refine gate_dst (N := 5) rfl ?_); refine box_event ?hg (N := 5) ?hd (cs := #[.int .i64 0, .int .i64 0, .int .i64 0, .int .i64 0, .int .i64 0, .string (⟨#[]⟩ : ByteArray), .string (⟨#[]⟩ : ByteArray)]) (t := 43) ?hr ?_; (case hd => rfl); (case hg => rfl); (case hr => exact vz); intro gb277 hg w34 hbox hb; replace HO_3 := qz HO_3 hb; have BK277 := Aside0.mk (hbox); have GW277 := Aside0.mk ((by rw [hg]; exact (below_size (bz0 HB.out)) : w.heap.size <= gb277)); have GE277 := Aside0.mk ((by rw [hg]; exact (below_size (bz0 HB.out)) : w.heap.size <= gb277)); replace HB := Aside0.mk (below_step (bz0 HB.out) hb); clear hb hbox hg; obtain ⟨hcz35_0, hcz35_1, hcz35_2, hcz35_3, hcz35_4, hcz35_5, hcz35_6⟩ := cz7 BK277.out; obtain ⟨hfz35_0, hfz35_1, hfz35_2, hfz35_3, hfz35_4, hfz35_5, hfz35_6⟩ := fz7 BK277.out) | ((with_reducible refine gate_callee (f := 68) rfl ?_); refine goesL_ (some 24) rfl rfl Tryd.func68 (by kernel_rfl) rfl #[.agg #[.int .i64 ((rd_T43 l0 x18_1).f0), .int .i64 ((rd_T43 l0 x18_1).f1), .int .i64 ((rd_T43 l0 x18_1).f2), .int .i64 ((rd_T43 l0 x18_1).f3), .int .i64 ((rd_T43 l0 x18_1).f4), .string ((rd_T43 l0 x18_1).f5), .string ((rd_T43 l0 x18_1).f6)]] rfl lz ?_; (with_reducible refine (impl_fieldsOk.calls k1 ((rd_T43 l0 x18_1).f0) ((rd_T43 l0 x18_1).f1) ((rd_T43 l0 x18_1).f2) ((rd_T43 l0 x18_1).f3) ((rd_T43 l0 x18_1).f4) ((rd_T43 l0 x18_1).f5) ((rd_T43 l0 x18_1).f6) false _ A11.out).mono ?_); rintro e w36 ⟨rfl, hb⟩; refine ⟨_, rfl, ?_⟩; replace HO_3 := Aside0.mk (Kd.R_below (by refine rq ?_; exact (Kd.R_mono (Kd.R_far (p := ⟨gb277, 6, none⟩) (Kd.R_far (p := ⟨gb277, 5, none⟩) (Kd.R_far (p := ⟨gb277, 4, none⟩) (Kd.R_far (p := ⟨gb277, 3, none⟩) (Kd.R_far (p := ⟨gb277, 2, none⟩) (Kd.R_far (p := ⟨gb277, 1, none⟩) (Kd.R_far (p := ⟨gb277, 0, none⟩) (Kd.R_types HO_3.out BK277.out (by decide)) (fun _ hk => hk.2) (.int .i64 ((rd_T43 l0 x18_1).f0))) (fun _ hk => hk.2) (.int .i64 ((rd_T43 l0 x18_1).f1))) (fun _ hk => hk.2) (.int .i64 ((rd_T43 l0 x18_1).f2))) (fun _ hk => hk.2) (.int .i64 ((rd_T43 l0 x18_1).f3))) (fun _ hk => hk.2) (.int .i64 ((rd_T43 l0 x18_1).f4))) (fun _ hk => hk.2) (.string ((rd_T43 l0 x18_1).f5))) (fun _ hk => hk.2) (.string ((rd_T43 l0 x18_1).f6))) (fun _ h_ => h_.1))) hb); replace BK277 := Aside0.mk (blk_below (g := gb277) (o := .cells #[.int .i64 ((rd_T43 l0 x18_1).f0), .int .i64 ((rd_T43 l0 x18_1).f1), .int .i64 ((rd_T43 l0 x18_1).f2), .int .i64 ((rd_T43 l0 x18_1).f3), .int .i64 ((rd_T43 l0 x18_1).f4), .string ((rd_T43 l0 x18_1).f5), .string ((rd_T43 l0 x18_1).f6)] 43 (0, 0)) (by refine kq ?_; refine blk_put (cs := #[.int .i64 ((rd_T43 l0 x18_1).f0), .int .i64 ((rd_T43 l0 x18_1).f1), .int .i64 ((rd_T43 l0 x18_1).f2), .int .i64 ((rd_T43 l0 x18_1).f3), .int .i64 ((rd_T43 l0 x18_1).f4), .string ((rd_T43 l0 x18_1).f5), .string (⟨#[]⟩ : ByteArray)]) ?_ 6 _ rfl; refine kq ?_; refine blk_put (cs := #[.int .i64 ((rd_T43 l0 x18_1).f0), .int .i64 ((rd_T43 l0 x18_1).f1), .int .i64 ((rd_T43 l0 x18_1).f2), .int .i64 ((rd_T43 l0 x18_1).f3), .int .i64 ((rd_T43 l0 x18_1).f4), .string (⟨#[]⟩ : ByteArray), .string (⟨#[]⟩ : ByteArray)]) ?_ 5 _ rfl; refine kq ?_; refine blk_put (cs := #[.int .i64 ((rd_T43 l0 x18_1).f0), .int .i64 ((rd_T43 l0 x18_1).f1), .int .i64 ((rd_T43 l0 x18_1).f2), .int .i64 ((rd_T43 l0 x18_1).f3), .int .i64 0, .string (⟨#[]⟩ : ByteArray), .string (⟨#[]⟩ : ByteArray)]) ?_ 4 _ rfl; refine kq ?_; refine blk_put (cs := #[.int .i64 ((rd_T43 l0 x18_1).f0), .int .i64 ((rd_T43 l0 x18_1).f1), .int .i64 ((rd_T43 l0 x18_1).f2), .int .i64 0, .int .i64 0, .string (⟨#[]⟩ : ByteArray), .string (⟨#[]⟩ : ByteArray)]) ?_ 3 _ rfl; refine kq ?_; refine blk_put (cs := #[.int .i64 ((rd_T43 l0 x18_1).f0), .int .i64 ((rd_T43 l0 x18_1).f1), .int .i64 0, .int .i64 0, .int .i64 0, .string (⟨#[]⟩ : ByteArray), .string (⟨#[]⟩ : ByteArray)]) ?_ 2 _ rfl; refine kq ?_; refine blk_put (cs := #[.int .i64 ((rd_T43 l0 x18_1).f0), .int .i64 0, .int .i64 0, .int .i64 0, .int .i64 0, .string (⟨#[]⟩ : ByteArray), .string (⟨#[]⟩ : ByteArray)]) ?_ 1 _ rfl; refine kq ?_; refine blk_put (cs := #[.int .i64 0, .int .i64 0, .int .i64 0, .int .i64 0, .int .i64 0, .string (⟨#[]⟩ : ByteArray), .string (⟨#[]⟩ : ByteArray)]) ?_ 0 _ rfl; refine kq ?_; exact BK277.out) hb); replace HB := Aside0.mk (below_step (bz1 HB.out GE277.out) hb); (try clear hb); (try clear hk); (try clear hi)))
      go_ret
      exact ⟨gz, (bz1 HB.out GE277.out)⟩
    ·rw [if_neg c8] at H
     have c8b0 := decide_eq_false c8
     clear c8
     obtain ⟨ji37, hji37⟩ : ∃ j_ : Int, (wrap64 ((l0.length : Int) - 1)) = j_ := ⟨_, rfl⟩
     replace H : (if 0 <= (ji37) then (if (ji37) < (x3_1.length : Int) then (some ((rd x3_1 (ji37)) == 0)) else (none)) else (none)) = some r := by first | (rw [hji37] at H; exact H) | (simp only [hji37] at H ⊢; exact H)
     have hji37w : (IntKind.i64.wrap ((l0.length : Int) - 1)) = ji37 := (i64_w _).trans hji37
     replace H := iz H
     obtain ⟨c38, H⟩ := H
     have c38b0 := decide_eq_true c38
     clear c38
     replace H := iz H
     obtain ⟨c39, H⟩ := H
     have c39b0 := decide_eq_true c39
     clear c39
     obtain rfl := Option.some.inj H
     obtain ⟨Ao40, co40, eo40⟩ := Kd.R_slice HO_3.out
     subst eo40
     have p275 : 0 <= ((ji37) : Int) := oz
     have q275 : (ji37) < (x3_1.length : Int) := oz
     obtain ⟨ad275, e275, hx275_0⟩ := Kd.at_int (Kd.R_reads' HO_3.out).2.2 (ji37) p275 q275
     cases e275
     replace p275 := eq_true p275
     replace q275 := eq_true q275
     go_wp2
     go_ret
     exact ⟨by first | rfl | (simp [errW_none, errW_some] <;> rfl) | (simp only [<- hji37]; first | rfl | (simp [errW_none, errW_some] <;> rfl)) | (simp [*, errW_none, errW_some] <;> rfl), (bz0 HB.out)⟩
 ·replace c3 := Bool.eq_false_iff.mpr c3
  subst c3
  have H1 := hq H
  clear H
  have H := H1
  clear H1
  obtain rfl := Option.some.inj H
  go_enter Tryd.func36, Tryd.ntmps36
  go_wp2_with (first | ((with_reducible refine gate_callee (f := 44) rfl ?_); refine goesL_ (some 11) rfl rfl Tryd.func44 (by kernel_rfl) rfl #[.int .i64 (l0.length : Int), .int .i64 1, .int .i64 150] rfl lz ?_; (with_reducible refine (impl_in.calls (l0.length : Int) 1 150 false _ A2.out).mono ?_); rintro e w' ⟨rfl, ⟨nd, rfl⟩⟩; refine ⟨_, rfl, ?_⟩))
  go_ret
  exact ⟨gz, (bz0 HB.out)⟩
def strconv_Itoa_83.f (a0 : Int) : Option (ByteArray) := if -9223372036854775808 <= a0 then (if a0 <= 9223372036854775807 then (some (⟨(Lib.itoa a0).toArray⟩ : ByteArray)) else (none)) else (none)
theorem strconv_Itoa_83.calls (a0 : Int) (r : ByteArray) (w : World) (h : strconv_Itoa_83.f a0 = some r) (hT_ : PW w) :
  Calls Tryd.prog 83 #[.int .i64 a0] w fun e w' => e = .returned (.string r) /\ Below w.heap.size w w' := by
 unfold strconv_Itoa_83.f at h
 split at h
 ·split at h
  ·rename_i h0 h1
   obtain rfl := Option.some.inj h
   exact (Tryd.strconv_Itoa a0 h0 h1 w hT_).mono fun e w' ⟨h1, n, os, h2⟩ => ⟨h1, by rw [h2]; exact below_grow _ _ _⟩
  ·cases h
 ·cases h
def impl_Dec.f (a0 : Int) : Option (ByteArray) := (strconv_Itoa_83.f a0).bind fun t285 => (some t285)
set_option maxHeartbeats 8000000 in
set_option maxRecDepth 100000 in
theorem impl_Dec.calls (a0 : Int) (r : ByteArray) (w : World) (h : impl_Dec.f a0 = some r) (hT_ : PW w) :
  Calls Tryd.prog 70 #[.int .i64 a0] w fun e w' => e = .returned (.string r) /\ Below w.heap.size w w' := by
 have HB := Aside0.mk (Below.refl w.heap.size w)
 have H : ((strconv_Itoa_83.f a0).bind fun t285 => (some t285)) = some r := h
 clear h
 replace H := bi H
 obtain ⟨t285, A20, H⟩ := H
 try dsimp only at H
 have A2 := Aside0.mk A20
 clear A20
 obtain rfl := Option.some.inj H
 go_enter Tryd.func70, Tryd.ntmps70
 go_wp2_with (first | ((with_reducible refine gate_callee (f := 83) rfl ?_); refine goesL_ (some 4) rfl rfl Tryd.func83 (by kernel_rfl) rfl #[.int .i64 a0] rfl lz ?_; (with_reducible refine (strconv_Itoa_83.calls a0 t285 _ A2.out ?hT_).mono ?_); (case hT_ => exact PW.below hT_ (bz0 HB.out)); rintro e w3 ⟨rfl, hb⟩; refine ⟨_, rfl, ?_⟩; replace HB := Aside0.mk (below_step (bz0 HB.out) hb); (try clear hb); (try clear hi)))
 go_ret
 exact ⟨gz, (bz0 HB.out)⟩
def impl_keyPlace.f (a0 : Int) : Option (Int) := if a0 <= 2 then (some 0) else (some (wrap64 ((wrap64 (a0 - 2)) + 1)))
set_option maxHeartbeats 8000000 in
set_option maxRecDepth 100000 in
theorem impl_keyPlace.calls (a0 : Int) (r : Int) (w : World) (h : impl_keyPlace.f a0 = some r) :
  Calls Tryd.prog 85 #[.int .i64 a0] w fun e w' => e = .returned (.int .i64 r) /\ Drawn0 w w' := by
 have H : (if a0 <= 2 then (some 0) else (some (wrap64 ((wrap64 (a0 - 2)) + 1)))) = some r := h
 clear h
 by_cases c2 : a0 <= 2
 ·rw [if_pos c2] at H
  have c2b0 := decide_eq_true c2
  clear c2
  obtain rfl := Option.some.inj H
  go_enter Tryd.func85, Tryd.ntmps85
  go_wp2
  go_ret
  exact ⟨e2z, dz⟩
 ·rw [if_neg c2] at H
  have c2b0 := decide_eq_false c2
  clear c2
  obtain rfl := Option.some.inj H
  go_enter Tryd.func85, Tryd.ntmps85
  go_wp2
  go_ret
  exact ⟨e2z, dz⟩
end Go.Proofs.YtmilegjmiiccdaaDoor.PFnExactPrint
