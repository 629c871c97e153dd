/- PFnExactPartx6, of the words and walks that the law FnExactPart needs; made by this session's program out of printed texts. -/

import Derived.Test.YthmkeimngfboiaaDoorVEPartPx0
import Derived.Test.YthmkeimngfboiaaDoorVEPartPx2
import Derived.Test.YthmkeimngfboiaaDoorVEPartPx5
namespace Go.Proofs.YthmkeimngfboiaaDoor.PFnExactPart
open Go.RowKit Go.Proofs.YthmkeimngfboiaaDoorW.PrintWords Go.Proofs.YthmkeimngfboiaaDoorW.PrintLast Go.Proofs.YthmkeimngfboiaaDoorW.PrintMore
attribute [local go_sem] max2_int min2_int max_two min_two max_three min_three max_four min_four
set_option linter.unusedVariables false
set_option linter.unusedSimpArgs false
mutual
def spec_l3Shift.l0 : Nat → List (S54) → Int → List (S54) → Int → Option ((List (S54)))
 | 0, _, _, _, _ => none
 | k + 1, x0, x1, x5, x6 => if x6 < (x0.length : Int) then (if 0 ≤ x6 then ((spec_Arity.f k ((rd_T54 x0 x6).f0)).bind fun t207 => (if t207 > 0 then (spec_l3Shift.j1 k x0 x1 x5 x6 t207 ((rd_T54 x0 x6).f0) (wrap64 (((rd_T54 x0 x6).f1) + x1)) ((rd_T54 x0 x6).f2) ((rd_T54 x0 x6).f3) ((rd_T54 x0 x6).f4) ((rd_T54 x0 x6).f5) ((rd_T54 x0 x6).f6)) else (spec_l3Shift.j1 k x0 x1 x5 x6 t207 ((rd_T54 x0 x6).f0) ((rd_T54 x0 x6).f1) ((rd_T54 x0 x6).f2) ((rd_T54 x0 x6).f3) ((rd_T54 x0 x6).f4) ((rd_T54 x0 x6).f5) ((rd_T54 x0 x6).f6)))) else (none)) else (some x5)
def spec_l3Shift.j1 : Nat → List (S54) → Int → List (S54) → Int → Int → Int → Int → Int → Int → Int → ByteArray → ByteArray → Option ((List (S54)))
 | 0, _, _, _, _, _, _, _, _, _, _, _, _ => none
 | k + 1, x0, x1, x5, x6, x8, x207000, x207001, x207002, x207003, x207004, x207005, x207006 => if x8 > 1 then (if x8 > 2 then (if x5.length < 1954687338268 then (spec_l3Shift.l0 k x0 x1 (x5 ++ [(⟨x207000, x207001, wrap64 (x207002 + x1), wrap64 (x207003 + x1), x207004, x207005, x207006⟩ : S54)]) (wrap64 (x6 + 1))) else (none)) else (if x5.length < 1954687338268 then (spec_l3Shift.l0 k x0 x1 (x5 ++ [(⟨x207000, x207001, wrap64 (x207002 + x1), x207003, x207004, x207005, x207006⟩ : S54)]) (wrap64 (x6 + 1))) else (none))) else (if x8 > 2 then (if x5.length < 1954687338268 then (spec_l3Shift.l0 k x0 x1 (x5 ++ [(⟨x207000, x207001, x207002, wrap64 (x207003 + x1), x207004, x207005, x207006⟩ : S54)]) (wrap64 (x6 + 1))) else (none)) else (if x5.length < 1954687338268 then (spec_l3Shift.l0 k x0 x1 (x5 ++ [(⟨x207000, x207001, x207002, x207003, x207004, x207005, x207006⟩ : S54)]) (wrap64 (x6 + 1))) else (none)))
end
def spec_l3Shift.f (k : Nat) (l0 : List (S54)) (a1 : Int) : Option ((List (S54))) := spec_l3Shift.l0 k l0 a1 (([] : List (S54))) 0
theorem spec_l3Shift.mono_l : ∀ k, (∀ y0 y1 y2 y3, LeO (spec_l3Shift.l0 k y0 y1 y2 y3) (spec_l3Shift.l0 (k + 1) y0 y1 y2 y3)) ∧ (∀ y0 y1 y2 y3 y4 y5 y6 y7 y8 y9 y10 y11, LeO (spec_l3Shift.j1 k y0 y1 y2 y3 y4 y5 y6 y7 y8 y9 y10 y11) (spec_l3Shift.j1 (k + 1) y0 y1 y2 y3 y4 y5 y6 y7 y8 y9 y10 y11))
 | 0 => ⟨fun _ _ _ _ r h => by simp [spec_l3Shift.l0] at h, fun _ _ _ _ _ _ _ _ _ _ _ _ r h => by simp [spec_l3Shift.j1] at h⟩
 | k + 1 => by
  obtain ⟨ih0, ih1⟩ := spec_l3Shift.mono_l k
  refine ⟨?_, ?_⟩
  ·intro y0 y1 y2 y3
   unfold spec_l3Shift.l0
   repeat' first
   | (with_reducible exact ih0 _ _ _ _)
   | (with_reducible exact ih1 _ _ _ _ _ _ _ _ _ _ _ _)
   | (with_reducible exact spec_Arity.mono _ _)
   | (with_reducible exact LeO.refl _)
   | (with_reducible exact LeO.none _)
   | (with_reducible refine LeO.ite ?_ ?_)
   | (with_reducible refine LeO.bind ?_ (fun _ => ?_))
   | exact ih0 _ _ _ _
   | exact ih1 _ _ _ _ _ _ _ _ _ _ _ _
   | exact spec_Arity.mono _ _
   | exact LeO.none _
   | refine LeO.ite ?_ ?_
   | refine LeO.bind ?_ (fun _ => ?_)
  ·intro y0 y1 y2 y3 y4 y5 y6 y7 y8 y9 y10 y11
   unfold spec_l3Shift.j1
   repeat' first
   | (with_reducible exact ih0 _ _ _ _)
   | (with_reducible exact ih1 _ _ _ _ _ _ _ _ _ _ _ _)
   | (with_reducible exact spec_Arity.mono _ _)
   | (with_reducible exact LeO.refl _)
   | (with_reducible exact LeO.none _)
   | (with_reducible refine LeO.ite ?_ ?_)
   | (with_reducible refine LeO.bind ?_ (fun _ => ?_))
   | exact ih0 _ _ _ _
   | exact ih1 _ _ _ _ _ _ _ _ _ _ _ _
   | exact spec_Arity.mono _ _
   | exact LeO.none _
   | refine LeO.ite ?_ ?_
   | refine LeO.bind ?_ (fun _ => ?_)
theorem spec_l3Shift.mono : ∀ a0 a1 k, LeO (spec_l3Shift.f k a0 a1) (spec_l3Shift.f (k + 1) a0 a1) := by
 intro a0 a1 k
 obtain ⟨ih0, ih1⟩ := spec_l3Shift.mono_l k
 unfold spec_l3Shift.f
 repeat' first
   | (with_reducible exact ih0 _ _ _ _)
   | (with_reducible exact ih1 _ _ _ _ _ _ _ _ _ _ _ _)
   | (with_reducible exact spec_Arity.mono _ _)
   | (with_reducible exact LeO.refl _)
   | (with_reducible exact LeO.none _)
   | (with_reducible refine LeO.ite ?_ ?_)
   | (with_reducible refine LeO.bind ?_ (fun _ => ?_))
   | exact ih0 _ _ _ _
   | exact ih1 _ _ _ _ _ _ _ _ _ _ _ _
   | exact spec_Arity.mono _ _
   | exact LeO.none _
   | refine LeO.ite ?_ ?_
   | refine LeO.bind ?_ (fun _ => ?_)
set_option maxHeartbeats 8000000 in
set_option maxRecDepth 100000 in
theorem spec_l3Shift.calls (k : Nat) (A0 : Option Addr) (c0 : Nat) (l0 : List (S54)) (a1 : Int) (r : List (S54)) (w : World) (hr0 : Kd.C k54 w A0 l0.length l0) (hc0 : l0.length ≤ c0) (h : spec_l3Shift.f k l0 a1 = some r) :
  Calls Tryd.prog 58 #[.slice A0 l0.length c0, .int .i64 a1] w fun e w' => ∃ v0_ : Value, e = .returned (v0_) ∧ Kd.R k54 54 w' w.heap.size (fun _ => True) v0_ r ∧ Below w.heap.size w w' := by
 have hu54 := Tryd.underlying54
 have HR0 := Aside0.mk hr0
 have HC0 := Aside0.mk hc0
 clear hr0 hc0
 have HB := Aside0.mk (Below.refl w.heap.size w)
 have H : (spec_l3Shift.l0 k l0 a1 (([] : List (S54))) 0) = some r := h
 clear h
 obtain ⟨y202, hy202⟩ : ∃ y_ : List (S54), y_ = (([] : List (S54))) := ⟨_, rfl⟩
 replace H : (spec_l3Shift.l0 k l0 a1 y202 0) = some r := by first | (rw [hy202]; with_reducible exact H) | (have H2_ := (Option.bind_some _ _).symm.trans H; rw [hy202]; with_reducible exact H2_) | (have H2_ := (Option.bind_some _ _).symm.trans H; with_reducible exact H2_) | with_reducible exact H | (rw [hy202]; exact H) | exact H
 have Ny202 := Aside0.mk hy202
 clear hy202
 have H' := Aside0.mk H
 clear H
 go_enter Tryd.func58, Tryd.ntmps58
 go_wp2_with (first | ((with_reducible refine gate_dst (N := 9) rfl ?_); refine Kd.R_lit k54 _ 54 ?hg (N := 9) ?hd (xs := ([] : List (S54))) (inner := []) (ok := fun _ => True) (okp := fun _ => True) ?hr ?hp (fun _ hk => hk) trivial (Below.refl _ _) (Nat.le_refl _) (by simp) ?_; (case hd => rfl); (case hg => rfl); (case hr => first | (go_simp; done) | (go_simp; rfl)); (case hp => exact (Reps.none _ _)); intro v203 w3 ho4 hb hg_ hnew_; clear hg_ hnew_; (first | rw [← Ny202.out] at ho4 | (simp only [Int.reduceToNat] at ho4; rw [← Ny202.out] at ho4)); have n0_ := Aside0.mk (Kd.R_lower ho4 (below_size (bz0 HB.out))); have n1_ := Aside0.mk (below_step (bz0 HB.out) hb); clear HB; have HO204 := n0_; have HB := n1_; clear n0_ n1_; clear hb ho4))
 (try simp only [Act.put, List.setIfInBounds_toArray, List.set_cons_zero, List.set_cons_succ])
 go_loopg [5, 6] k (fun kq v5 v6 w' => ∃ (x5_1 : List (S54)) (x6_1 : Int), v6 = .int .i64 x6_1 ∧ Aside0 (spec_l3Shift.l0 kq l0 a1 x5_1 x6_1 = some r) ∧ Aside0 (kq ≤ k) ∧ Aside0 (Kd.R k54 54 w' w.heap.size (fun _ => True) v5 x5_1) ∧ Aside0 (Below w.heap.size w w'))
 case atStart => exact ⟨(y202), (0), ez, H', ⟨Nat.le_refl _⟩, ⟨by (with_reducible repeat (first | apply Kd.R_alloc | apply Kd.R_drewN | apply Kd.R_drew)); exact HO204.out⟩, ⟨(bz0 HB.out)⟩⟩
 case round =>
  clear H'
  try clear p2
  obtain ⟨x5_1, x6_1, rfl, HA, HK1, HO_5, HB⟩ := hrel
  cases gk with
  | zero => exact absurd HA.out (by simp [spec_l3Shift.l0])
  | succ k1 =>
   have H := HA.out
   clear HA
   simp only [spec_l3Shift.l0] at H
   by_cases c5 : x6_1 < (l0.length : Int)
   ·rw [if_pos c5] at H
    have c5b0 : decide (x6_1 < (l0.length : Int)) = true := decide_eq_true c5
    clear c5
    by_cases c6 : 0 ≤ x6_1
    ·rw [if_pos c6] at H
     have c6b0 : decide (0 ≤ x6_1) = true := decide_eq_true c6
     clear c6
     replace H := Option.bind_eq_some_iff.mp H
     obtain ⟨t207, A70, H⟩ := H
     replace H : (if t207 > 0 then (spec_l3Shift.j1 k1 l0 a1 x5_1 x6_1 t207 ((rd_T54 l0 x6_1).f0) (wrap64 (((rd_T54 l0 x6_1).f1) + a1)) ((rd_T54 l0 x6_1).f2) ((rd_T54 l0 x6_1).f3) ((rd_T54 l0 x6_1).f4) ((rd_T54 l0 x6_1).f5) ((rd_T54 l0 x6_1).f6)) else (spec_l3Shift.j1 k1 l0 a1 x5_1 x6_1 t207 ((rd_T54 l0 x6_1).f0) ((rd_T54 l0 x6_1).f1) ((rd_T54 l0 x6_1).f2) ((rd_T54 l0 x6_1).f3) ((rd_T54 l0 x6_1).f4) ((rd_T54 l0 x6_1).f5) ((rd_T54 l0 x6_1).f6))) = some r := H
     have A7 := Aside0.mk A70
     clear A70
     have HC8 := Aside0.mk H
     clear H
     have p205 : 0 ≤ (x6_1 : Int) := of_decide_eq_true az
     have q205 : x6_1 < (l0.length : Int) := of_decide_eq_true az
     obtain ⟨ad205, e205, hx205_0, hx205_1, hx205_2, hx205_3, hx205_4, hx205_5, hx205_6⟩ := at_T54 HR0.out x6_1 p205 q205
     cases e205
     replace hx205_0 := hz HB.out hx205_0
     replace hx205_1 := hz HB.out hx205_1
     replace hx205_2 := hz HB.out hx205_2
     replace hx205_3 := hz HB.out hx205_3
     replace hx205_4 := hz HB.out hx205_4
     replace hx205_5 := hz HB.out hx205_5
     replace hx205_6 := hz HB.out hx205_6
     replace p205 := eq_true p205
     replace q205 := eq_true q205
     go_upto_if 24 with (first | ((with_reducible refine gate_dst (N := 7) rfl ?_); refine box_event ?hg (N := 7) ?hd (cs := #[.int .i64 0, .int .i64 0, .int .i64 0, .int .i64 0, .int .i64 0, .string (⟨#[]⟩ : ByteArray), .string (⟨#[]⟩ : ByteArray)]) (t := 54) ?hr ?_; (case hd => rfl); (case hg => rfl); (case hr => first | (go_simp; done) | (go_simp; rfl)); intro gb206 hg w9 hbox hb; have n0_ := Aside0.mk (Kd.R_below (Kd.R_elderB (rz HO_5.out) gb206 (Nat.le_of_eq hg.symm)) hb); have n1_ := Aside0.mk (below_step (bz0 HB.out) hb); have n2_ := Aside0.mk (hbox); have n3_ := Aside0.mk ((by rw [hg]; exact (below_size (bz0 HB.out)) : w.heap.size ≤ gb206)); have n4_ := Aside0.mk ((by rw [hg]; exact (below_size (bz0 HB.out)) : w.heap.size ≤ gb206)); clear HO_5; clear HB; have HO_5 := n0_; have HB := n1_; have BK206 := n2_; have GW206 := n3_; have GE206 := n4_; clear n0_ n1_ n2_ n3_ n4_; clear hb hbox hg; have hcz10_0 : w9.cell? ⟨gb206, 0, none⟩ = some (.int .i64 0) := (blk_cell BK206.out 0).trans rfl; have hcz10_1 : w9.cell? ⟨gb206, 1, none⟩ = some (.int .i64 0) := (blk_cell BK206.out 1).trans rfl; have hcz10_2 : w9.cell? ⟨gb206, 2, none⟩ = some (.int .i64 0) := (blk_cell BK206.out 2).trans rfl; have hcz10_3 : w9.cell? ⟨gb206, 3, none⟩ = some (.int .i64 0) := (blk_cell BK206.out 3).trans rfl; have hcz10_4 : w9.cell? ⟨gb206, 4, none⟩ = some (.int .i64 0) := (blk_cell BK206.out 4).trans rfl; have hcz10_5 : w9.cell? ⟨gb206, 5, none⟩ = some (.string (⟨#[]⟩ : ByteArray)) := (blk_cell BK206.out 5).trans rfl; have hcz10_6 : w9.cell? ⟨gb206, 6, none⟩ = some (.string (⟨#[]⟩ : ByteArray)) := (blk_cell BK206.out 6).trans rfl; have hfz10_0 := blk_frozen BK206.out 0; have hfz10_1 := blk_frozen BK206.out 1; have hfz10_2 := blk_frozen BK206.out 2; have hfz10_3 := blk_frozen BK206.out 3; have hfz10_4 := blk_frozen BK206.out 4; have hfz10_5 := blk_frozen BK206.out 5; have hfz10_6 := blk_frozen BK206.out 6) | ((with_reducible refine gate_callee (f := 63) rfl ?_); refine goesL_ (some 22) rfl rfl Tryd.func63 (by kernel_rfl) rfl #[.int .i64 ((rd_T54 l0 x6_1).f0)] rfl lz ?_; (with_reducible refine (spec_Arity.calls k1 ((rd_T54 l0 x6_1).f0) t207 _ A7.out).mono ?_); rintro e w' ⟨rfl, ⟨nd, rfl⟩⟩; refine ⟨_, rfl, ?_⟩))
     (try simp only [Act.put, List.setIfInBounds_toArray, List.set_cons_zero, List.set_cons_succ])
     go_cut [] (fun wc => ∃ (kq : Nat) (x207001_7 : Int), Aside0 (spec_l3Shift.j1 kq l0 a1 x5_1 x6_1 t207 ((rd_T54 l0 x6_1).f0) x207001_7 ((rd_T54 l0 x6_1).f2) ((rd_T54 l0 x6_1).f3) ((rd_T54 l0 x6_1).f4) ((rd_T54 l0 x6_1).f5) ((rd_T54 l0 x6_1).f6) = some r) ∧ Aside0 (kq ≤ k1) ∧ Aside0 (Kd.R k54 54 wc w.heap.size (fun k_ => k_ ≠ gb206) u5 x5_1) ∧ Aside0 (wc.heap[gb206]? = some (.cells #[.int .i64 ((rd_T54 l0 x6_1).f0), .int .i64 x207001_7, .int .i64 ((rd_T54 l0 x6_1).f2), .int .i64 ((rd_T54 l0 x6_1).f3), .int .i64 ((rd_T54 l0 x6_1).f4), .string ((rd_T54 l0 x6_1).f5), .string ((rd_T54 l0 x6_1).f6)] 54 (0, 0))) ∧ Aside0 (Below w.heap.size w wc))
     case first =>
      have H := HC8.out
      clear HC8
      by_cases c11 : t207 > 0
      ·rw [if_pos c11] at H
       have c11b0 : decide (0 < t207) = true := decide_eq_true c11
       clear c11
       (first | rw [c11b0] | (simp only [i64_w, i32_w]; rw [c11b0]) | skip)
       have H' := Aside0.mk H
       clear H
       have hcz12_0 : w9.cell? ⟨gb206, 0, none⟩ = some (.int .i64 0) := (blk_cell BK206.out 0).trans rfl
       have hcz12_1 : w9.cell? ⟨gb206, 1, none⟩ = some (.int .i64 0) := (blk_cell BK206.out 1).trans rfl
       have hcz12_2 : w9.cell? ⟨gb206, 2, none⟩ = some (.int .i64 0) := (blk_cell BK206.out 2).trans rfl
       have hcz12_3 : w9.cell? ⟨gb206, 3, none⟩ = some (.int .i64 0) := (blk_cell BK206.out 3).trans rfl
       have hcz12_4 : w9.cell? ⟨gb206, 4, none⟩ = some (.int .i64 0) := (blk_cell BK206.out 4).trans rfl
       have hcz12_5 : w9.cell? ⟨gb206, 5, none⟩ = some (.string (⟨#[]⟩ : ByteArray)) := (blk_cell BK206.out 5).trans rfl
       have hcz12_6 : w9.cell? ⟨gb206, 6, none⟩ = some (.string (⟨#[]⟩ : ByteArray)) := (blk_cell BK206.out 6).trans rfl
       have hfz12_0 := blk_frozen BK206.out 0
       have hfz12_1 := blk_frozen BK206.out 1
       have hfz12_2 := blk_frozen BK206.out 2
       have hfz12_3 := blk_frozen BK206.out 3
       have hfz12_4 := blk_frozen BK206.out 4
       have hfz12_5 := blk_frozen BK206.out 5
       have hfz12_6 := blk_frozen BK206.out 6
       go_wp2
       go_meet
       case rel => exact ⟨_, (wrap64 (((rd_T54 l0 x6_1).f1) + a1)), H', ⟨by have := HK1.out; first | omega | exact Nat.le_refl _⟩, ⟨by (with_reducible repeat (first | apply Kd.R_alloc | apply Kd.R_drewN | apply Kd.R_drew)); first | (with_reducible exact Kd.R_mono (Kd.R_far (p := ⟨gb206, 1, none⟩) (Kd.R_far (p := ⟨gb206, 6, none⟩) (Kd.R_far (p := ⟨gb206, 5, none⟩) (Kd.R_far (p := ⟨gb206, 4, none⟩) (Kd.R_far (p := ⟨gb206, 3, none⟩) (Kd.R_far (p := ⟨gb206, 2, none⟩) (Kd.R_far (p := ⟨gb206, 1, none⟩) (Kd.R_far (p := ⟨gb206, 0, none⟩) (Kd.R_mono HO_5.out (fun k_ hk => (⟨hk, hk.2⟩ : _ ∧ k_ ≠ gb206))) (fun _ hk => hk.2) (.int .i64 ((rd_T54 l0 x6_1).f0))) (fun _ hk => hk.2) (.int .i64 ((rd_T54 l0 x6_1).f1))) (fun _ hk => hk.2) (.int .i64 ((rd_T54 l0 x6_1).f2))) (fun _ hk => hk.2) (.int .i64 ((rd_T54 l0 x6_1).f3))) (fun _ hk => hk.2) (.int .i64 ((rd_T54 l0 x6_1).f4))) (fun _ hk => hk.2) (.string ((rd_T54 l0 x6_1).f5))) (fun _ hk => hk.2) (.string ((rd_T54 l0 x6_1).f6))) (fun _ hk => hk.2) (.int .i64 (wrap64 (((rd_T54 l0 x6_1).f1) + a1)))) (fun _ hk => hk.1.2)) | (with_reducible exact Kd.R_mono (Kd.R_far (p := ⟨gb206, 1, none⟩) (Kd.R_drewN (Kd.R_far (p := ⟨gb206, 6, none⟩) (Kd.R_far (p := ⟨gb206, 5, none⟩) (Kd.R_far (p := ⟨gb206, 4, none⟩) (Kd.R_far (p := ⟨gb206, 3, none⟩) (Kd.R_far (p := ⟨gb206, 2, none⟩) (Kd.R_far (p := ⟨gb206, 1, none⟩) (Kd.R_far (p := ⟨gb206, 0, none⟩) (Kd.R_mono HO_5.out (fun k_ hk => (⟨hk, hk.2⟩ : _ ∧ k_ ≠ gb206))) (fun _ hk => hk.2) (.int .i64 ((rd_T54 l0 x6_1).f0))) (fun _ hk => hk.2) (.int .i64 ((rd_T54 l0 x6_1).f1))) (fun _ hk => hk.2) (.int .i64 ((rd_T54 l0 x6_1).f2))) (fun _ hk => hk.2) (.int .i64 ((rd_T54 l0 x6_1).f3))) (fun _ hk => hk.2) (.int .i64 ((rd_T54 l0 x6_1).f4))) (fun _ hk => hk.2) (.string ((rd_T54 l0 x6_1).f5))) (fun _ hk => hk.2) (.string ((rd_T54 l0 x6_1).f6))) _) (fun _ hk => hk.2) (.int .i64 (wrap64 (((rd_T54 l0 x6_1).f1) + a1)))) (fun _ hk => hk.1.2)) | exact Kd.R_mono (Kd.R_far (p := ⟨gb206, 1, none⟩) (Kd.R_drewN (Kd.R_far (p := ⟨gb206, 6, none⟩) (Kd.R_far (p := ⟨gb206, 5, none⟩) (Kd.R_far (p := ⟨gb206, 4, none⟩) (Kd.R_far (p := ⟨gb206, 3, none⟩) (Kd.R_far (p := ⟨gb206, 2, none⟩) (Kd.R_far (p := ⟨gb206, 1, none⟩) (Kd.R_far (p := ⟨gb206, 0, none⟩) (Kd.R_mono HO_5.out (fun k_ hk => (⟨hk, hk.2⟩ : _ ∧ k_ ≠ gb206))) (fun _ hk => hk.2) (.int .i64 ((rd_T54 l0 x6_1).f0))) (fun _ hk => hk.2) (.int .i64 ((rd_T54 l0 x6_1).f1))) (fun _ hk => hk.2) (.int .i64 ((rd_T54 l0 x6_1).f2))) (fun _ hk => hk.2) (.int .i64 ((rd_T54 l0 x6_1).f3))) (fun _ hk => hk.2) (.int .i64 ((rd_T54 l0 x6_1).f4))) (fun _ hk => hk.2) (.string ((rd_T54 l0 x6_1).f5))) (fun _ hk => hk.2) (.string ((rd_T54 l0 x6_1).f6))) _) (fun _ hk => hk.2) (.int .i64 (wrap64 (((rd_T54 l0 x6_1).f1) + a1)))) (fun _ hk => hk.1.2)⟩, ⟨by (with_reducible repeat (first | refine blk_drewN ?_ _ | refine blk_drew ?_ | refine blk_alloc ?_ _)); refine blk_put (cs := #[.int .i64 ((rd_T54 l0 x6_1).f0), .int .i64 ((rd_T54 l0 x6_1).f1), .int .i64 ((rd_T54 l0 x6_1).f2), .int .i64 ((rd_T54 l0 x6_1).f3), .int .i64 ((rd_T54 l0 x6_1).f4), .string ((rd_T54 l0 x6_1).f5), .string ((rd_T54 l0 x6_1).f6)]) ?_ 1 _ rfl; (with_reducible repeat (first | refine blk_drewN ?_ _ | refine blk_drew ?_ | refine blk_alloc ?_ _)); refine blk_put (cs := #[.int .i64 ((rd_T54 l0 x6_1).f0), .int .i64 ((rd_T54 l0 x6_1).f1), .int .i64 ((rd_T54 l0 x6_1).f2), .int .i64 ((rd_T54 l0 x6_1).f3), .int .i64 ((rd_T54 l0 x6_1).f4), .string ((rd_T54 l0 x6_1).f5), .string (⟨#[]⟩ : ByteArray)]) ?_ 6 _ rfl; (with_reducible repeat (first | refine blk_drewN ?_ _ | refine blk_drew ?_ | refine blk_alloc ?_ _)); refine blk_put (cs := #[.int .i64 ((rd_T54 l0 x6_1).f0), .int .i64 ((rd_T54 l0 x6_1).f1), .int .i64 ((rd_T54 l0 x6_1).f2), .int .i64 ((rd_T54 l0 x6_1).f3), .int .i64 ((rd_T54 l0 x6_1).f4), .string (⟨#[]⟩ : ByteArray), .string (⟨#[]⟩ : ByteArray)]) ?_ 5 _ rfl; (with_reducible repeat (first | refine blk_drewN ?_ _ | refine blk_drew ?_ | refine blk_alloc ?_ _)); refine blk_put (cs := #[.int .i64 ((rd_T54 l0 x6_1).f0), .int .i64 ((rd_T54 l0 x6_1).f1), .int .i64 ((rd_T54 l0 x6_1).f2), .int .i64 ((rd_T54 l0 x6_1).f3), .int .i64 0, .string (⟨#[]⟩ : ByteArray), .string (⟨#[]⟩ : ByteArray)]) ?_ 4 _ rfl; (with_reducible repeat (first | refine blk_drewN ?_ _ | refine blk_drew ?_ | refine blk_alloc ?_ _)); refine blk_put (cs := #[.int .i64 ((rd_T54 l0 x6_1).f0), .int .i64 ((rd_T54 l0 x6_1).f1), .int .i64 ((rd_T54 l0 x6_1).f2), .int .i64 0, .int .i64 0, .string (⟨#[]⟩ : ByteArray), .string (⟨#[]⟩ : ByteArray)]) ?_ 3 _ rfl; (with_reducible repeat (first | refine blk_drewN ?_ _ | refine blk_drew ?_ | refine blk_alloc ?_ _)); refine blk_put (cs := #[.int .i64 ((rd_T54 l0 x6_1).f0), .int .i64 ((rd_T54 l0 x6_1).f1), .int .i64 0, .int .i64 0, .int .i64 0, .string (⟨#[]⟩ : ByteArray), .string (⟨#[]⟩ : ByteArray)]) ?_ 2 _ rfl; (with_reducible repeat (first | refine blk_drewN ?_ _ | refine blk_drew ?_ | refine blk_alloc ?_ _)); refine blk_put (cs := #[.int .i64 ((rd_T54 l0 x6_1).f0), .int .i64 0, .int .i64 0, .int .i64 0, .int .i64 0, .string (⟨#[]⟩ : ByteArray), .string (⟨#[]⟩ : ByteArray)]) ?_ 1 _ rfl; (with_reducible repeat (first | refine blk_drewN ?_ _ | refine blk_drew ?_ | refine blk_alloc ?_ _)); refine blk_put (cs := #[.int .i64 0, .int .i64 0, .int .i64 0, .int .i64 0, .int .i64 0, .string (⟨#[]⟩ : ByteArray), .string (⟨#[]⟩ : ByteArray)]) ?_ 0 _ rfl; (with_reducible repeat (first | refine blk_drewN ?_ _ | refine blk_drew ?_ | refine blk_alloc ?_ _)); exact BK206.out⟩, ⟨(bz1 HB.out GE206.out)⟩⟩
      ·rw [if_neg c11] at H
       have c11b0 : decide (0 < t207) = false := decide_eq_false c11
       clear c11
       (first | rw [c11b0] | (simp only [i64_w, i32_w]; rw [c11b0]) | skip)
       have H' := Aside0.mk H
       clear H
       go_wp2
       go_meet
       case rel => exact ⟨_, ((rd_T54 l0 x6_1).f1), H', ⟨by have := HK1.out; first | omega | exact Nat.le_refl _⟩, ⟨by (with_reducible repeat (first | apply Kd.R_alloc | apply Kd.R_drewN | apply Kd.R_drew)); first | (with_reducible exact Kd.R_mono (Kd.R_far (p := ⟨gb206, 6, none⟩) (Kd.R_far (p := ⟨gb206, 5, none⟩) (Kd.R_far (p := ⟨gb206, 4, none⟩) (Kd.R_far (p := ⟨gb206, 3, none⟩) (Kd.R_far (p := ⟨gb206, 2, none⟩) (Kd.R_far (p := ⟨gb206, 1, none⟩) (Kd.R_far (p := ⟨gb206, 0, none⟩) (Kd.R_mono HO_5.out (fun k_ hk => (⟨hk, hk.2⟩ : _ ∧ k_ ≠ gb206))) (fun _ hk => hk.2) (.int .i64 ((rd_T54 l0 x6_1).f0))) (fun _ hk => hk.2) (.int .i64 ((rd_T54 l0 x6_1).f1))) (fun _ hk => hk.2) (.int .i64 ((rd_T54 l0 x6_1).f2))) (fun _ hk => hk.2) (.int .i64 ((rd_T54 l0 x6_1).f3))) (fun _ hk => hk.2) (.int .i64 ((rd_T54 l0 x6_1).f4))) (fun _ hk => hk.2) (.string ((rd_T54 l0 x6_1).f5))) (fun _ hk => hk.2) (.string ((rd_T54 l0 x6_1).f6))) (fun _ hk => hk.1.2)) | (with_reducible exact Kd.R_mono (Kd.R_far (p := ⟨gb206, 6, none⟩) (Kd.R_drewN (Kd.R_far (p := ⟨gb206, 5, none⟩) (Kd.R_far (p := ⟨gb206, 4, none⟩) (Kd.R_far (p := ⟨gb206, 3, none⟩) (Kd.R_far (p := ⟨gb206, 2, none⟩) (Kd.R_far (p := ⟨gb206, 1, none⟩) (Kd.R_far (p := ⟨gb206, 0, none⟩) (Kd.R_mono HO_5.out (fun k_ hk => (⟨hk, hk.2⟩ : _ ∧ k_ ≠ gb206))) (fun _ hk => hk.2) (.int .i64 ((rd_T54 l0 x6_1).f0))) (fun _ hk => hk.2) (.int .i64 ((rd_T54 l0 x6_1).f1))) (fun _ hk => hk.2) (.int .i64 ((rd_T54 l0 x6_1).f2))) (fun _ hk => hk.2) (.int .i64 ((rd_T54 l0 x6_1).f3))) (fun _ hk => hk.2) (.int .i64 ((rd_T54 l0 x6_1).f4))) (fun _ hk => hk.2) (.string ((rd_T54 l0 x6_1).f5))) _) (fun _ hk => hk.2) (.string ((rd_T54 l0 x6_1).f6))) (fun _ hk => hk.1.2)) | exact Kd.R_mono (Kd.R_far (p := ⟨gb206, 6, none⟩) (Kd.R_drewN (Kd.R_far (p := ⟨gb206, 5, none⟩) (Kd.R_far (p := ⟨gb206, 4, none⟩) (Kd.R_far (p := ⟨gb206, 3, none⟩) (Kd.R_far (p := ⟨gb206, 2, none⟩) (Kd.R_far (p := ⟨gb206, 1, none⟩) (Kd.R_far (p := ⟨gb206, 0, none⟩) (Kd.R_mono HO_5.out (fun k_ hk => (⟨hk, hk.2⟩ : _ ∧ k_ ≠ gb206))) (fun _ hk => hk.2) (.int .i64 ((rd_T54 l0 x6_1).f0))) (fun _ hk => hk.2) (.int .i64 ((rd_T54 l0 x6_1).f1))) (fun _ hk => hk.2) (.int .i64 ((rd_T54 l0 x6_1).f2))) (fun _ hk => hk.2) (.int .i64 ((rd_T54 l0 x6_1).f3))) (fun _ hk => hk.2) (.int .i64 ((rd_T54 l0 x6_1).f4))) (fun _ hk => hk.2) (.string ((rd_T54 l0 x6_1).f5))) _) (fun _ hk => hk.2) (.string ((rd_T54 l0 x6_1).f6))) (fun _ hk => hk.1.2)⟩, ⟨by (with_reducible repeat (first | refine blk_drewN ?_ _ | refine blk_drew ?_ | refine blk_alloc ?_ _)); refine blk_put (cs := #[.int .i64 ((rd_T54 l0 x6_1).f0), .int .i64 ((rd_T54 l0 x6_1).f1), .int .i64 ((rd_T54 l0 x6_1).f2), .int .i64 ((rd_T54 l0 x6_1).f3), .int .i64 ((rd_T54 l0 x6_1).f4), .string ((rd_T54 l0 x6_1).f5), .string (⟨#[]⟩ : ByteArray)]) ?_ 6 _ rfl; (with_reducible repeat (first | refine blk_drewN ?_ _ | refine blk_drew ?_ | refine blk_alloc ?_ _)); refine blk_put (cs := #[.int .i64 ((rd_T54 l0 x6_1).f0), .int .i64 ((rd_T54 l0 x6_1).f1), .int .i64 ((rd_T54 l0 x6_1).f2), .int .i64 ((rd_T54 l0 x6_1).f3), .int .i64 ((rd_T54 l0 x6_1).f4), .string (⟨#[]⟩ : ByteArray), .string (⟨#[]⟩ : ByteArray)]) ?_ 5 _ rfl; (with_reducible repeat (first | refine blk_drewN ?_ _ | refine blk_drew ?_ | refine blk_alloc ?_ _)); refine blk_put (cs := #[.int .i64 ((rd_T54 l0 x6_1).f0), .int .i64 ((rd_T54 l0 x6_1).f1), .int .i64 ((rd_T54 l0 x6_1).f2), .int .i64 ((rd_T54 l0 x6_1).f3), .int .i64 0, .string (⟨#[]⟩ : ByteArray), .string (⟨#[]⟩ : ByteArray)]) ?_ 4 _ rfl; (with_reducible repeat (first | refine blk_drewN ?_ _ | refine blk_drew ?_ | refine blk_alloc ?_ _)); refine blk_put (cs := #[.int .i64 ((rd_T54 l0 x6_1).f0), .int .i64 ((rd_T54 l0 x6_1).f1), .int .i64 ((rd_T54 l0 x6_1).f2), .int .i64 0, .int .i64 0, .string (⟨#[]⟩ : ByteArray), .string (⟨#[]⟩ : ByteArray)]) ?_ 3 _ rfl; (with_reducible repeat (first | refine blk_drewN ?_ _ | refine blk_drew ?_ | refine blk_alloc ?_ _)); refine blk_put (cs := #[.int .i64 ((rd_T54 l0 x6_1).f0), .int .i64 ((rd_T54 l0 x6_1).f1), .int .i64 0, .int .i64 0, .int .i64 0, .string (⟨#[]⟩ : ByteArray), .string (⟨#[]⟩ : ByteArray)]) ?_ 2 _ rfl; (with_reducible repeat (first | refine blk_drewN ?_ _ | refine blk_drew ?_ | refine blk_alloc ?_ _)); refine blk_put (cs := #[.int .i64 ((rd_T54 l0 x6_1).f0), .int .i64 0, .int .i64 0, .int .i64 0, .int .i64 0, .string (⟨#[]⟩ : ByteArray), .string (⟨#[]⟩ : ByteArray)]) ?_ 1 _ rfl; (with_reducible repeat (first | refine blk_drewN ?_ _ | refine blk_drew ?_ | refine blk_alloc ?_ _)); refine blk_put (cs := #[.int .i64 0, .int .i64 0, .int .i64 0, .int .i64 0, .int .i64 0, .string (⟨#[]⟩ : ByteArray), .string (⟨#[]⟩ : ByteArray)]) ?_ 0 _ rfl; (with_reducible repeat (first | refine blk_drewN ?_ _ | refine blk_drew ?_ | refine blk_alloc ?_ _)); exact BK206.out⟩, ⟨(bz1 HB.out GE206.out)⟩⟩
     case rest =>
      clear HC8
      try clear c1
      try clear p2
      try clear q2
      try clear hx2
      try clear c5
      try clear c5b0
      try clear c6
      try clear c6b0
      try clear p6
      try clear c11
      try clear c11b0
      try clear hcz10_0
      try clear hcz10_1
      try clear hcz10_2
      try clear hcz10_3
      try clear hcz10_4
      try clear hcz10_5
      try clear hcz10_6
      try clear hcz12_0
      try clear hcz12_1
      try clear hcz12_2
      try clear hcz12_3
      try clear hcz12_4
      try clear hcz12_5
      try clear hcz12_6
      try clear hfz10_0
      try clear hfz10_1
      try clear hfz10_2
      try clear hfz10_3
      try clear hfz10_4
      try clear hfz10_5
      try clear hfz10_6
      try clear hfz12_0
      try clear hfz12_1
      try clear hfz12_2
      try clear hfz12_3
      try clear hfz12_4
      try clear hfz12_5
      try clear hfz12_6
      try clear hx205_0
      try clear hx205_1
      try clear hx205_2
      try clear hx205_3
      try clear hx205_4
      try clear hx205_5
      try clear hx205_6
      try clear p2
      try clear p205
      try clear q205
      obtain ⟨kq, x207001_7, HA, HJ7, HO_5, BK206, HB⟩ := hcut
      cases kq with
      | zero => exact absurd HA.out (by simp [spec_l3Shift.j1])
      | succ kj7 =>
       have H := HA.out
       clear HA
       simp only [spec_l3Shift.j1] at H
       by_cases c13 : t207 > 1
       ·rw [if_pos c13] at H
        have c13b0 : decide (1 < t207) = true := decide_eq_true c13
        clear c13
        by_cases c14 : t207 > 2
        ·rw [if_pos c14] at H
         have c14b0 : decide (2 < t207) = true := decide_eq_true c14
         clear c14
         by_cases c15 : x5_1.length < 1954687338268
         ·rw [if_pos c15] at H
          have LMc15 := Aside0.mk c15
          clear c15
          obtain ⟨y208, hy208⟩ : ∃ y_ : List (S54), y_ = (x5_1 ++ [(⟨((rd_T54 l0 x6_1).f0), x207001_7, wrap64 (((rd_T54 l0 x6_1).f2) + a1), wrap64 (((rd_T54 l0 x6_1).f3) + a1), ((rd_T54 l0 x6_1).f4), ((rd_T54 l0 x6_1).f5), ((rd_T54 l0 x6_1).f6)⟩ : S54)]) := ⟨_, rfl⟩
          replace H : (spec_l3Shift.l0 kj7 l0 a1 y208 (wrap64 (x6_1 + 1))) = some r := by first | (rw [hy208]; with_reducible exact H) | (have H2_ := (Option.bind_some _ _).symm.trans H; rw [hy208]; with_reducible exact H2_) | (have H2_ := (Option.bind_some _ _).symm.trans H; with_reducible exact H2_) | with_reducible exact H | (rw [hy208]; exact H) | exact H
          have Ny208 := Aside0.mk hy208
          clear hy208
          have H' := Aside0.mk H
          clear H
          have hcz16_0 : wc.cell? ⟨gb206, 0, none⟩ = some (.int .i64 ((rd_T54 l0 x6_1).f0)) := (blk_cell BK206.out 0).trans rfl
          have hcz16_1 : wc.cell? ⟨gb206, 1, none⟩ = some (.int .i64 x207001_7) := (blk_cell BK206.out 1).trans rfl
          have hcz16_2 : wc.cell? ⟨gb206, 2, none⟩ = some (.int .i64 ((rd_T54 l0 x6_1).f2)) := (blk_cell BK206.out 2).trans rfl
          have hcz16_3 : wc.cell? ⟨gb206, 3, none⟩ = some (.int .i64 ((rd_T54 l0 x6_1).f3)) := (blk_cell BK206.out 3).trans rfl
          have hcz16_4 : wc.cell? ⟨gb206, 4, none⟩ = some (.int .i64 ((rd_T54 l0 x6_1).f4)) := (blk_cell BK206.out 4).trans rfl
          have hcz16_5 : wc.cell? ⟨gb206, 5, none⟩ = some (.string ((rd_T54 l0 x6_1).f5)) := (blk_cell BK206.out 5).trans rfl
          have hcz16_6 : wc.cell? ⟨gb206, 6, none⟩ = some (.string ((rd_T54 l0 x6_1).f6)) := (blk_cell BK206.out 6).trans rfl
          have hfz16_0 := blk_frozen BK206.out 0
          have hfz16_1 := blk_frozen BK206.out 1
          have hfz16_2 := blk_frozen BK206.out 2
          have hfz16_3 := blk_frozen BK206.out 3
          have hfz16_4 := blk_frozen BK206.out 4
          have hfz16_5 := blk_frozen BK206.out 5
          have hfz16_6 := blk_frozen BK206.out 6
          go_wp2_with (first | ((with_reducible refine gate_builtin (b := .append) (xs := #[.tmp 44, .tmp 46]) rfl ?_); at_builtin; refine Kd.R_append k54 (w0 := w) w.heap.size rfl (.tmp 44) (.tmp 46) 25 54 (.agg #[(.int .i64 0), (.int .i64 0), (.int .i64 0), (.int .i64 0), (.int .i64 0), (.string ⟨#[]⟩), (.string ⟨#[]⟩)]) 72 rfl Tryd.underlying25 info54 rfl (by decide) (by omega) u5 x5_1 (⟨((rd_T54 l0 x6_1).f0), x207001_7, wrap64 (((rd_T54 l0 x6_1).f2) + a1), wrap64 (((rd_T54 l0 x6_1).f3) + a1), ((rd_T54 l0 x6_1).f4), ((rd_T54 l0 x6_1).f5), ((rd_T54 l0 x6_1).f6)⟩ : S54) [.int .i64 ((rd_T54 l0 x6_1).f0), .int .i64 x207001_7, .int .i64 (wrap64 (((rd_T54 l0 x6_1).f2) + a1)), .int .i64 (wrap64 (((rd_T54 l0 x6_1).f3) + a1)), .int .i64 ((rd_T54 l0 x6_1).f4), .string ((rd_T54 l0 x6_1).f5), .string ((rd_T54 l0 x6_1).f6)] (fun k_ => k_ ≠ gb206) (fun _ => False) rfl (by first | (go_simp; done) | (go_simp; rfl)) ?aP (fun _ hk => hk.elim) ?aF ?aO ?aB ?aS ?aL ?_; (case aP => exact k54_mkM _ _ _ (⟨((rd_T54 l0 x6_1).f0), x207001_7, wrap64 (((rd_T54 l0 x6_1).f2) + a1), wrap64 (((rd_T54 l0 x6_1).f3) + a1), ((rd_T54 l0 x6_1).f4), ((rd_T54 l0 x6_1).f5), ((rd_T54 l0 x6_1).f6)⟩ : S54)); (case aB => exact (bz1 HB.out GE206.out)); (case aF => exact (fun k_ hk => Kd.freshB (g := gb206) (o := .cells #[.int .i64 ((rd_T54 l0 x6_1).f0), .int .i64 x207001_7, .int .i64 (wrap64 (((rd_T54 l0 x6_1).f2) + a1)), .int .i64 (wrap64 (((rd_T54 l0 x6_1).f3) + a1)), .int .i64 ((rd_T54 l0 x6_1).f4), .string ((rd_T54 l0 x6_1).f5), .string ((rd_T54 l0 x6_1).f6)] 54 (0, 0)) (by (with_reducible repeat (first | refine blk_drewN ?_ _ | refine blk_drew ?_ | refine blk_alloc ?_ _)); refine blk_put (cs := #[.int .i64 ((rd_T54 l0 x6_1).f0), .int .i64 x207001_7, .int .i64 (wrap64 (((rd_T54 l0 x6_1).f2) + a1)), .int .i64 ((rd_T54 l0 x6_1).f3), .int .i64 ((rd_T54 l0 x6_1).f4), .string ((rd_T54 l0 x6_1).f5), .string ((rd_T54 l0 x6_1).f6)]) ?_ 3 _ rfl; (with_reducible repeat (first | refine blk_drewN ?_ _ | refine blk_drew ?_ | refine blk_alloc ?_ _)); refine blk_put (cs := #[.int .i64 ((rd_T54 l0 x6_1).f0), .int .i64 x207001_7, .int .i64 ((rd_T54 l0 x6_1).f2), .int .i64 ((rd_T54 l0 x6_1).f3), .int .i64 ((rd_T54 l0 x6_1).f4), .string ((rd_T54 l0 x6_1).f5), .string ((rd_T54 l0 x6_1).f6)]) ?_ 2 _ rfl; (with_reducible repeat (first | refine blk_drewN ?_ _ | refine blk_drew ?_ | refine blk_alloc ?_ _)); exact BK206.out) k_ hk)); (case aO => exact (by (with_reducible repeat (first | apply Kd.R_alloc | apply Kd.R_drewN | apply Kd.R_drew)); first | (with_reducible exact Kd.R_mono (Kd.R_far (p := ⟨gb206, 3, none⟩) (Kd.R_far (p := ⟨gb206, 2, none⟩) (Kd.R_mono HO_5.out (fun k_ hk => (⟨hk, hk⟩ : _ ∧ k_ ≠ gb206))) (fun _ hk => hk.2) (.int .i64 (wrap64 (((rd_T54 l0 x6_1).f2) + a1)))) (fun _ hk => hk.2) (.int .i64 (wrap64 (((rd_T54 l0 x6_1).f3) + a1)))) (fun _ hk => hk.1)) | (with_reducible exact Kd.R_mono (Kd.R_far (p := ⟨gb206, 3, none⟩) (Kd.R_drewN (Kd.R_far (p := ⟨gb206, 2, none⟩) (Kd.R_mono HO_5.out (fun k_ hk => (⟨hk, hk⟩ : _ ∧ k_ ≠ gb206))) (fun _ hk => hk.2) (.int .i64 (wrap64 (((rd_T54 l0 x6_1).f2) + a1)))) _) (fun _ hk => hk.2) (.int .i64 (wrap64 (((rd_T54 l0 x6_1).f3) + a1)))) (fun _ hk => hk.1)) | exact Kd.R_mono (Kd.R_far (p := ⟨gb206, 3, none⟩) (Kd.R_drewN (Kd.R_far (p := ⟨gb206, 2, none⟩) (Kd.R_mono HO_5.out (fun k_ hk => (⟨hk, hk⟩ : _ ∧ k_ ≠ gb206))) (fun _ hk => hk.2) (.int .i64 (wrap64 (((rd_T54 l0 x6_1).f2) + a1)))) _) (fun _ hk => hk.2) (.int .i64 (wrap64 (((rd_T54 l0 x6_1).f3) + a1)))) (fun _ hk => hk.1))); (case aS => exact (below_size (bz1 HB.out GE206.out))); (case aL => have := LMc15.out; omega); intro v209 w17 ho hb hg hat; rw [← Ny208.out] at ho; have n0_ := Aside0.mk (blk_grown (g := gb206) (o := .cells #[.int .i64 ((rd_T54 l0 x6_1).f0), .int .i64 x207001_7, .int .i64 (wrap64 (((rd_T54 l0 x6_1).f2) + a1)), .int .i64 (wrap64 (((rd_T54 l0 x6_1).f3) + a1)), .int .i64 ((rd_T54 l0 x6_1).f4), .string ((rd_T54 l0 x6_1).f5), .string ((rd_T54 l0 x6_1).f6)] 54 (0, 0)) (by (with_reducible repeat (first | refine blk_drewN ?_ _ | refine blk_drew ?_ | refine blk_alloc ?_ _)); refine blk_put (cs := #[.int .i64 ((rd_T54 l0 x6_1).f0), .int .i64 x207001_7, .int .i64 (wrap64 (((rd_T54 l0 x6_1).f2) + a1)), .int .i64 ((rd_T54 l0 x6_1).f3), .int .i64 ((rd_T54 l0 x6_1).f4), .string ((rd_T54 l0 x6_1).f5), .string ((rd_T54 l0 x6_1).f6)]) ?_ 3 _ rfl; (with_reducible repeat (first | refine blk_drewN ?_ _ | refine blk_drew ?_ | refine blk_alloc ?_ _)); refine blk_put (cs := #[.int .i64 ((rd_T54 l0 x6_1).f0), .int .i64 x207001_7, .int .i64 ((rd_T54 l0 x6_1).f2), .int .i64 ((rd_T54 l0 x6_1).f3), .int .i64 ((rd_T54 l0 x6_1).f4), .string ((rd_T54 l0 x6_1).f5), .string ((rd_T54 l0 x6_1).f6)]) ?_ 2 _ rfl; (with_reducible repeat (first | refine blk_drewN ?_ _ | refine blk_drew ?_ | refine blk_alloc ?_ _)); exact BK206.out) hg (Kd.R_away HO_5.out (fun _ hk => hk))); have n1_ := Aside0.mk (hb); have n2_ := Aside0.mk (ho); clear BK206; clear HB; clear HO_5; have BK206 := n0_; have HB := n1_; have HO210 := n2_; clear n0_ n1_ n2_; clear ho hb hg hat))
          go_roundg kj7
          case measure => have := HK1.out; have := HJ7.out; omega
          case rel => exact ⟨(y208), (wrap64 (x6_1 + 1)), ez, H', ⟨by have := HK1.out; have := HJ7.out; omega⟩, ⟨by (with_reducible repeat (first | apply Kd.R_alloc | apply Kd.R_drewN | apply Kd.R_drew)); exact Kd.R_mono HO210.out (fun _ hk => trivial)⟩, ⟨(bz1 HB.out GE206.out)⟩⟩
         ·rw [if_neg c15] at H
          exact absurd H (by simp)
        ·rw [if_neg c14] at H
         have c14b0 : decide (2 < t207) = false := decide_eq_false c14
         clear c14
         by_cases c18 : x5_1.length < 1954687338268
         ·rw [if_pos c18] at H
          have LMc18 := Aside0.mk c18
          clear c18
          obtain ⟨y211, hy211⟩ : ∃ y_ : List (S54), y_ = (x5_1 ++ [(⟨((rd_T54 l0 x6_1).f0), x207001_7, wrap64 (((rd_T54 l0 x6_1).f2) + a1), ((rd_T54 l0 x6_1).f3), ((rd_T54 l0 x6_1).f4), ((rd_T54 l0 x6_1).f5), ((rd_T54 l0 x6_1).f6)⟩ : S54)]) := ⟨_, rfl⟩
          replace H : (spec_l3Shift.l0 kj7 l0 a1 y211 (wrap64 (x6_1 + 1))) = some r := by first | (rw [hy211]; with_reducible exact H) | (have H2_ := (Option.bind_some _ _).symm.trans H; rw [hy211]; with_reducible exact H2_) | (have H2_ := (Option.bind_some _ _).symm.trans H; with_reducible exact H2_) | with_reducible exact H | (rw [hy211]; exact H) | exact H
          have Ny211 := Aside0.mk hy211
          clear hy211
          have H' := Aside0.mk H
          clear H
          have hcz19_0 : wc.cell? ⟨gb206, 0, none⟩ = some (.int .i64 ((rd_T54 l0 x6_1).f0)) := (blk_cell BK206.out 0).trans rfl
          have hcz19_1 : wc.cell? ⟨gb206, 1, none⟩ = some (.int .i64 x207001_7) := (blk_cell BK206.out 1).trans rfl
          have hcz19_2 : wc.cell? ⟨gb206, 2, none⟩ = some (.int .i64 ((rd_T54 l0 x6_1).f2)) := (blk_cell BK206.out 2).trans rfl
          have hcz19_3 : wc.cell? ⟨gb206, 3, none⟩ = some (.int .i64 ((rd_T54 l0 x6_1).f3)) := (blk_cell BK206.out 3).trans rfl
          have hcz19_4 : wc.cell? ⟨gb206, 4, none⟩ = some (.int .i64 ((rd_T54 l0 x6_1).f4)) := (blk_cell BK206.out 4).trans rfl
          have hcz19_5 : wc.cell? ⟨gb206, 5, none⟩ = some (.string ((rd_T54 l0 x6_1).f5)) := (blk_cell BK206.out 5).trans rfl
          have hcz19_6 : wc.cell? ⟨gb206, 6, none⟩ = some (.string ((rd_T54 l0 x6_1).f6)) := (blk_cell BK206.out 6).trans rfl
          have hfz19_0 := blk_frozen BK206.out 0
          have hfz19_1 := blk_frozen BK206.out 1
          have hfz19_2 := blk_frozen BK206.out 2
          have hfz19_3 := blk_frozen BK206.out 3
          have hfz19_4 := blk_frozen BK206.out 4
          have hfz19_5 := blk_frozen BK206.out 5
          have hfz19_6 := blk_frozen BK206.out 6
          go_wp2_with (first | ((with_reducible refine gate_builtin (b := .append) (xs := #[.tmp 44, .tmp 46]) rfl ?_); at_builtin; refine Kd.R_append k54 (w0 := w) w.heap.size rfl (.tmp 44) (.tmp 46) 25 54 (.agg #[(.int .i64 0), (.int .i64 0), (.int .i64 0), (.int .i64 0), (.int .i64 0), (.string ⟨#[]⟩), (.string ⟨#[]⟩)]) 72 rfl Tryd.underlying25 info54 rfl (by decide) (by omega) u5 x5_1 (⟨((rd_T54 l0 x6_1).f0), x207001_7, wrap64 (((rd_T54 l0 x6_1).f2) + a1), ((rd_T54 l0 x6_1).f3), ((rd_T54 l0 x6_1).f4), ((rd_T54 l0 x6_1).f5), ((rd_T54 l0 x6_1).f6)⟩ : S54) [.int .i64 ((rd_T54 l0 x6_1).f0), .int .i64 x207001_7, .int .i64 (wrap64 (((rd_T54 l0 x6_1).f2) + a1)), .int .i64 ((rd_T54 l0 x6_1).f3), .int .i64 ((rd_T54 l0 x6_1).f4), .string ((rd_T54 l0 x6_1).f5), .string ((rd_T54 l0 x6_1).f6)] (fun k_ => k_ ≠ gb206) (fun _ => False) rfl (by first | (go_simp; done) | (go_simp; rfl)) ?aP (fun _ hk => hk.elim) ?aF ?aO ?aB ?aS ?aL ?_; (case aP => exact k54_mkM _ _ _ (⟨((rd_T54 l0 x6_1).f0), x207001_7, wrap64 (((rd_T54 l0 x6_1).f2) + a1), ((rd_T54 l0 x6_1).f3), ((rd_T54 l0 x6_1).f4), ((rd_T54 l0 x6_1).f5), ((rd_T54 l0 x6_1).f6)⟩ : S54)); (case aB => exact (bz1 HB.out GE206.out)); (case aF => exact (fun k_ hk => Kd.freshB (g := gb206) (o := .cells #[.int .i64 ((rd_T54 l0 x6_1).f0), .int .i64 x207001_7, .int .i64 (wrap64 (((rd_T54 l0 x6_1).f2) + a1)), .int .i64 ((rd_T54 l0 x6_1).f3), .int .i64 ((rd_T54 l0 x6_1).f4), .string ((rd_T54 l0 x6_1).f5), .string ((rd_T54 l0 x6_1).f6)] 54 (0, 0)) (by (with_reducible repeat (first | refine blk_drewN ?_ _ | refine blk_drew ?_ | refine blk_alloc ?_ _)); refine blk_put (cs := #[.int .i64 ((rd_T54 l0 x6_1).f0), .int .i64 x207001_7, .int .i64 ((rd_T54 l0 x6_1).f2), .int .i64 ((rd_T54 l0 x6_1).f3), .int .i64 ((rd_T54 l0 x6_1).f4), .string ((rd_T54 l0 x6_1).f5), .string ((rd_T54 l0 x6_1).f6)]) ?_ 2 _ rfl; (with_reducible repeat (first | refine blk_drewN ?_ _ | refine blk_drew ?_ | refine blk_alloc ?_ _)); exact BK206.out) k_ hk)); (case aO => exact (by (with_reducible repeat (first | apply Kd.R_alloc | apply Kd.R_drewN | apply Kd.R_drew)); exact Kd.R_mono (Kd.R_far (p := ⟨gb206, 2, none⟩) (Kd.R_mono HO_5.out (fun k_ hk => (⟨hk, hk⟩ : _ ∧ k_ ≠ gb206))) (fun _ hk => hk.2) (.int .i64 (wrap64 (((rd_T54 l0 x6_1).f2) + a1)))) (fun _ hk => hk.1))); (case aS => exact (below_size (bz1 HB.out GE206.out))); (case aL => have := LMc18.out; omega); intro v212 w20 ho hb hg hat; rw [← Ny211.out] at ho; have n0_ := Aside0.mk (blk_grown (g := gb206) (o := .cells #[.int .i64 ((rd_T54 l0 x6_1).f0), .int .i64 x207001_7, .int .i64 (wrap64 (((rd_T54 l0 x6_1).f2) + a1)), .int .i64 ((rd_T54 l0 x6_1).f3), .int .i64 ((rd_T54 l0 x6_1).f4), .string ((rd_T54 l0 x6_1).f5), .string ((rd_T54 l0 x6_1).f6)] 54 (0, 0)) (by (with_reducible repeat (first | refine blk_drewN ?_ _ | refine blk_drew ?_ | refine blk_alloc ?_ _)); refine blk_put (cs := #[.int .i64 ((rd_T54 l0 x6_1).f0), .int .i64 x207001_7, .int .i64 ((rd_T54 l0 x6_1).f2), .int .i64 ((rd_T54 l0 x6_1).f3), .int .i64 ((rd_T54 l0 x6_1).f4), .string ((rd_T54 l0 x6_1).f5), .string ((rd_T54 l0 x6_1).f6)]) ?_ 2 _ rfl; (with_reducible repeat (first | refine blk_drewN ?_ _ | refine blk_drew ?_ | refine blk_alloc ?_ _)); exact BK206.out) hg (Kd.R_away HO_5.out (fun _ hk => hk))); have n1_ := Aside0.mk (hb); have n2_ := Aside0.mk (ho); clear BK206; clear HB; clear HO_5; have BK206 := n0_; have HB := n1_; have HO213 := n2_; clear n0_ n1_ n2_; clear ho hb hg hat))
          go_roundg kj7
          case measure => have := HK1.out; have := HJ7.out; omega
          case rel => exact ⟨(y211), (wrap64 (x6_1 + 1)), ez, H', ⟨by have := HK1.out; have := HJ7.out; omega⟩, ⟨by (with_reducible repeat (first | apply Kd.R_alloc | apply Kd.R_drewN | apply Kd.R_drew)); exact Kd.R_mono HO213.out (fun _ hk => trivial)⟩, ⟨(bz1 HB.out GE206.out)⟩⟩
         ·rw [if_neg c18] at H
          exact absurd H (by simp)
       ·rw [if_neg c13] at H
        have c13b0 : decide (1 < t207) = false := decide_eq_false c13
        clear c13
        by_cases c21 : t207 > 2
        ·rw [if_pos c21] at H
         have c21b0 : decide (2 < t207) = true := decide_eq_true c21
         clear c21
         by_cases c22 : x5_1.length < 1954687338268
         ·rw [if_pos c22] at H
          have LMc22 := Aside0.mk c22
          clear c22
          obtain ⟨y214, hy214⟩ : ∃ y_ : List (S54), y_ = (x5_1 ++ [(⟨((rd_T54 l0 x6_1).f0), x207001_7, ((rd_T54 l0 x6_1).f2), wrap64 (((rd_T54 l0 x6_1).f3) + a1), ((rd_T54 l0 x6_1).f4), ((rd_T54 l0 x6_1).f5), ((rd_T54 l0 x6_1).f6)⟩ : S54)]) := ⟨_, rfl⟩
          replace H : (spec_l3Shift.l0 kj7 l0 a1 y214 (wrap64 (x6_1 + 1))) = some r := by first | (rw [hy214]; with_reducible exact H) | (have H2_ := (Option.bind_some _ _).symm.trans H; rw [hy214]; with_reducible exact H2_) | (have H2_ := (Option.bind_some _ _).symm.trans H; with_reducible exact H2_) | with_reducible exact H | (rw [hy214]; exact H) | exact H
          have Ny214 := Aside0.mk hy214
          clear hy214
          have H' := Aside0.mk H
          clear H
          have hcz23_0 : wc.cell? ⟨gb206, 0, none⟩ = some (.int .i64 ((rd_T54 l0 x6_1).f0)) := (blk_cell BK206.out 0).trans rfl
          have hcz23_1 : wc.cell? ⟨gb206, 1, none⟩ = some (.int .i64 x207001_7) := (blk_cell BK206.out 1).trans rfl
          have hcz23_2 : wc.cell? ⟨gb206, 2, none⟩ = some (.int .i64 ((rd_T54 l0 x6_1).f2)) := (blk_cell BK206.out 2).trans rfl
          have hcz23_3 : wc.cell? ⟨gb206, 3, none⟩ = some (.int .i64 ((rd_T54 l0 x6_1).f3)) := (blk_cell BK206.out 3).trans rfl
          have hcz23_4 : wc.cell? ⟨gb206, 4, none⟩ = some (.int .i64 ((rd_T54 l0 x6_1).f4)) := (blk_cell BK206.out 4).trans rfl
          have hcz23_5 : wc.cell? ⟨gb206, 5, none⟩ = some (.string ((rd_T54 l0 x6_1).f5)) := (blk_cell BK206.out 5).trans rfl
          have hcz23_6 : wc.cell? ⟨gb206, 6, none⟩ = some (.string ((rd_T54 l0 x6_1).f6)) := (blk_cell BK206.out 6).trans rfl
          have hfz23_0 := blk_frozen BK206.out 0
          have hfz23_1 := blk_frozen BK206.out 1
          have hfz23_2 := blk_frozen BK206.out 2
          have hfz23_3 := blk_frozen BK206.out 3
          have hfz23_4 := blk_frozen BK206.out 4
          have hfz23_5 := blk_frozen BK206.out 5
          have hfz23_6 := blk_frozen BK206.out 6
          go_wp2_with (first | ((with_reducible refine gate_builtin (b := .append) (xs := #[.tmp 44, .tmp 46]) rfl ?_); at_builtin; refine Kd.R_append k54 (w0 := w) w.heap.size rfl (.tmp 44) (.tmp 46) 25 54 (.agg #[(.int .i64 0), (.int .i64 0), (.int .i64 0), (.int .i64 0), (.int .i64 0), (.string ⟨#[]⟩), (.string ⟨#[]⟩)]) 72 rfl Tryd.underlying25 info54 rfl (by decide) (by omega) u5 x5_1 (⟨((rd_T54 l0 x6_1).f0), x207001_7, ((rd_T54 l0 x6_1).f2), wrap64 (((rd_T54 l0 x6_1).f3) + a1), ((rd_T54 l0 x6_1).f4), ((rd_T54 l0 x6_1).f5), ((rd_T54 l0 x6_1).f6)⟩ : S54) [.int .i64 ((rd_T54 l0 x6_1).f0), .int .i64 x207001_7, .int .i64 ((rd_T54 l0 x6_1).f2), .int .i64 (wrap64 (((rd_T54 l0 x6_1).f3) + a1)), .int .i64 ((rd_T54 l0 x6_1).f4), .string ((rd_T54 l0 x6_1).f5), .string ((rd_T54 l0 x6_1).f6)] (fun k_ => k_ ≠ gb206) (fun _ => False) rfl (by first | (go_simp; done) | (go_simp; rfl)) ?aP (fun _ hk => hk.elim) ?aF ?aO ?aB ?aS ?aL ?_; (case aP => exact k54_mkM _ _ _ (⟨((rd_T54 l0 x6_1).f0), x207001_7, ((rd_T54 l0 x6_1).f2), wrap64 (((rd_T54 l0 x6_1).f3) + a1), ((rd_T54 l0 x6_1).f4), ((rd_T54 l0 x6_1).f5), ((rd_T54 l0 x6_1).f6)⟩ : S54)); (case aB => exact (bz1 HB.out GE206.out)); (case aF => exact (fun k_ hk => Kd.freshB (g := gb206) (o := .cells #[.int .i64 ((rd_T54 l0 x6_1).f0), .int .i64 x207001_7, .int .i64 ((rd_T54 l0 x6_1).f2), .int .i64 (wrap64 (((rd_T54 l0 x6_1).f3) + a1)), .int .i64 ((rd_T54 l0 x6_1).f4), .string ((rd_T54 l0 x6_1).f5), .string ((rd_T54 l0 x6_1).f6)] 54 (0, 0)) (by (with_reducible repeat (first | refine blk_drewN ?_ _ | refine blk_drew ?_ | refine blk_alloc ?_ _)); refine blk_put (cs := #[.int .i64 ((rd_T54 l0 x6_1).f0), .int .i64 x207001_7, .int .i64 ((rd_T54 l0 x6_1).f2), .int .i64 ((rd_T54 l0 x6_1).f3), .int .i64 ((rd_T54 l0 x6_1).f4), .string ((rd_T54 l0 x6_1).f5), .string ((rd_T54 l0 x6_1).f6)]) ?_ 3 _ rfl; (with_reducible repeat (first | refine blk_drewN ?_ _ | refine blk_drew ?_ | refine blk_alloc ?_ _)); exact BK206.out) k_ hk)); (case aO => exact (by (with_reducible repeat (first | apply Kd.R_alloc | apply Kd.R_drewN | apply Kd.R_drew)); exact Kd.R_mono (Kd.R_far (p := ⟨gb206, 3, none⟩) (Kd.R_mono HO_5.out (fun k_ hk => (⟨hk, hk⟩ : _ ∧ k_ ≠ gb206))) (fun _ hk => hk.2) (.int .i64 (wrap64 (((rd_T54 l0 x6_1).f3) + a1)))) (fun _ hk => hk.1))); (case aS => exact (below_size (bz1 HB.out GE206.out))); (case aL => have := LMc22.out; omega); intro v215 w24 ho hb hg hat; rw [← Ny214.out] at ho; have n0_ := Aside0.mk (blk_grown (g := gb206) (o := .cells #[.int .i64 ((rd_T54 l0 x6_1).f0), .int .i64 x207001_7, .int .i64 ((rd_T54 l0 x6_1).f2), .int .i64 (wrap64 (((rd_T54 l0 x6_1).f3) + a1)), .int .i64 ((rd_T54 l0 x6_1).f4), .string ((rd_T54 l0 x6_1).f5), .string ((rd_T54 l0 x6_1).f6)] 54 (0, 0)) (by (with_reducible repeat (first | refine blk_drewN ?_ _ | refine blk_drew ?_ | refine blk_alloc ?_ _)); refine blk_put (cs := #[.int .i64 ((rd_T54 l0 x6_1).f0), .int .i64 x207001_7, .int .i64 ((rd_T54 l0 x6_1).f2), .int .i64 ((rd_T54 l0 x6_1).f3), .int .i64 ((rd_T54 l0 x6_1).f4), .string ((rd_T54 l0 x6_1).f5), .string ((rd_T54 l0 x6_1).f6)]) ?_ 3 _ rfl; (with_reducible repeat (first | refine blk_drewN ?_ _ | refine blk_drew ?_ | refine blk_alloc ?_ _)); exact BK206.out) hg (Kd.R_away HO_5.out (fun _ hk => hk))); have n1_ := Aside0.mk (hb); have n2_ := Aside0.mk (ho); clear BK206; clear HB; clear HO_5; have BK206 := n0_; have HB := n1_; have HO216 := n2_; clear n0_ n1_ n2_; clear ho hb hg hat))
          go_roundg kj7
          case measure => have := HK1.out; have := HJ7.out; omega
          case rel => exact ⟨(y214), (wrap64 (x6_1 + 1)), ez, H', ⟨by have := HK1.out; have := HJ7.out; omega⟩, ⟨by (with_reducible repeat (first | apply Kd.R_alloc | apply Kd.R_drewN | apply Kd.R_drew)); exact Kd.R_mono HO216.out (fun _ hk => trivial)⟩, ⟨(bz1 HB.out GE206.out)⟩⟩
         ·rw [if_neg c22] at H
          exact absurd H (by simp)
        ·rw [if_neg c21] at H
         have c21b0 : decide (2 < t207) = false := decide_eq_false c21
         clear c21
         by_cases c25 : x5_1.length < 1954687338268
         ·rw [if_pos c25] at H
          have LMc25 := Aside0.mk c25
          clear c25
          obtain ⟨y217, hy217⟩ : ∃ y_ : List (S54), y_ = (x5_1 ++ [(⟨((rd_T54 l0 x6_1).f0), x207001_7, ((rd_T54 l0 x6_1).f2), ((rd_T54 l0 x6_1).f3), ((rd_T54 l0 x6_1).f4), ((rd_T54 l0 x6_1).f5), ((rd_T54 l0 x6_1).f6)⟩ : S54)]) := ⟨_, rfl⟩
          replace H : (spec_l3Shift.l0 kj7 l0 a1 y217 (wrap64 (x6_1 + 1))) = some r := by first | (rw [hy217]; with_reducible exact H) | (have H2_ := (Option.bind_some _ _).symm.trans H; rw [hy217]; with_reducible exact H2_) | (have H2_ := (Option.bind_some _ _).symm.trans H; with_reducible exact H2_) | with_reducible exact H | (rw [hy217]; exact H) | exact H
          have Ny217 := Aside0.mk hy217
          clear hy217
          have H' := Aside0.mk H
          clear H
          have hcz26_0 : wc.cell? ⟨gb206, 0, none⟩ = some (.int .i64 ((rd_T54 l0 x6_1).f0)) := (blk_cell BK206.out 0).trans rfl
          have hcz26_1 : wc.cell? ⟨gb206, 1, none⟩ = some (.int .i64 x207001_7) := (blk_cell BK206.out 1).trans rfl
          have hcz26_2 : wc.cell? ⟨gb206, 2, none⟩ = some (.int .i64 ((rd_T54 l0 x6_1).f2)) := (blk_cell BK206.out 2).trans rfl
          have hcz26_3 : wc.cell? ⟨gb206, 3, none⟩ = some (.int .i64 ((rd_T54 l0 x6_1).f3)) := (blk_cell BK206.out 3).trans rfl
          have hcz26_4 : wc.cell? ⟨gb206, 4, none⟩ = some (.int .i64 ((rd_T54 l0 x6_1).f4)) := (blk_cell BK206.out 4).trans rfl
          have hcz26_5 : wc.cell? ⟨gb206, 5, none⟩ = some (.string ((rd_T54 l0 x6_1).f5)) := (blk_cell BK206.out 5).trans rfl
          have hcz26_6 : wc.cell? ⟨gb206, 6, none⟩ = some (.string ((rd_T54 l0 x6_1).f6)) := (blk_cell BK206.out 6).trans rfl
          have hfz26_0 := blk_frozen BK206.out 0
          have hfz26_1 := blk_frozen BK206.out 1
          have hfz26_2 := blk_frozen BK206.out 2
          have hfz26_3 := blk_frozen BK206.out 3
          have hfz26_4 := blk_frozen BK206.out 4
          have hfz26_5 := blk_frozen BK206.out 5
          have hfz26_6 := blk_frozen BK206.out 6
          go_wp2_with (first | ((with_reducible refine gate_builtin (b := .append) (xs := #[.tmp 44, .tmp 46]) rfl ?_); at_builtin; refine Kd.R_append k54 (w0 := w) w.heap.size rfl (.tmp 44) (.tmp 46) 25 54 (.agg #[(.int .i64 0), (.int .i64 0), (.int .i64 0), (.int .i64 0), (.int .i64 0), (.string ⟨#[]⟩), (.string ⟨#[]⟩)]) 72 rfl Tryd.underlying25 info54 rfl (by decide) (by omega) u5 x5_1 (⟨((rd_T54 l0 x6_1).f0), x207001_7, ((rd_T54 l0 x6_1).f2), ((rd_T54 l0 x6_1).f3), ((rd_T54 l0 x6_1).f4), ((rd_T54 l0 x6_1).f5), ((rd_T54 l0 x6_1).f6)⟩ : S54) [.int .i64 ((rd_T54 l0 x6_1).f0), .int .i64 x207001_7, .int .i64 ((rd_T54 l0 x6_1).f2), .int .i64 ((rd_T54 l0 x6_1).f3), .int .i64 ((rd_T54 l0 x6_1).f4), .string ((rd_T54 l0 x6_1).f5), .string ((rd_T54 l0 x6_1).f6)] (fun k_ => k_ ≠ gb206) (fun _ => False) rfl rfl ?aP (fun _ hk => hk.elim) ?aF ?aO ?aB ?aS ?aL ?_; (case aP => exact k54_mkM _ _ _ (⟨((rd_T54 l0 x6_1).f0), x207001_7, ((rd_T54 l0 x6_1).f2), ((rd_T54 l0 x6_1).f3), ((rd_T54 l0 x6_1).f4), ((rd_T54 l0 x6_1).f5), ((rd_T54 l0 x6_1).f6)⟩ : S54)); (case aB => exact (bz1 HB.out GE206.out)); (case aF => exact (fun k_ hk => Kd.freshB (g := gb206) (o := .cells #[.int .i64 ((rd_T54 l0 x6_1).f0), .int .i64 x207001_7, .int .i64 ((rd_T54 l0 x6_1).f2), .int .i64 ((rd_T54 l0 x6_1).f3), .int .i64 ((rd_T54 l0 x6_1).f4), .string ((rd_T54 l0 x6_1).f5), .string ((rd_T54 l0 x6_1).f6)] 54 (0, 0)) (kz BK206.out) k_ hk)); (case aO => exact (rz HO_5.out)); (case aS => exact (below_size (bz1 HB.out GE206.out))); (case aL => have := LMc25.out; omega); intro v218 w27 ho hb hg hat; rw [← Ny217.out] at ho; have n0_ := Aside0.mk (blk_grown (g := gb206) (o := .cells #[.int .i64 ((rd_T54 l0 x6_1).f0), .int .i64 x207001_7, .int .i64 ((rd_T54 l0 x6_1).f2), .int .i64 ((rd_T54 l0 x6_1).f3), .int .i64 ((rd_T54 l0 x6_1).f4), .string ((rd_T54 l0 x6_1).f5), .string ((rd_T54 l0 x6_1).f6)] 54 (0, 0)) (kz BK206.out) hg (Kd.R_away HO_5.out (fun _ hk => hk))); have n1_ := Aside0.mk (hb); have n2_ := Aside0.mk (ho); clear BK206; clear HB; clear HO_5; have BK206 := n0_; have HB := n1_; have HO219 := n2_; clear n0_ n1_ n2_; clear ho hb hg hat))
          go_roundg kj7
          case measure => have := HK1.out; have := HJ7.out; omega
          case rel => exact ⟨(y217), (wrap64 (x6_1 + 1)), ez, H', ⟨by have := HK1.out; have := HJ7.out; omega⟩, ⟨by (with_reducible repeat (first | apply Kd.R_alloc | apply Kd.R_drewN | apply Kd.R_drew)); exact Kd.R_mono HO219.out (fun _ hk => trivial)⟩, ⟨(bz1 HB.out GE206.out)⟩⟩
         ·rw [if_neg c25] at H
          exact absurd H (by simp)
    ·rw [if_neg c6] at H
     exact absurd H (by simp)
   ·rw [if_neg c5] at H
    have c5b0 : decide (x6_1 < (l0.length : Int)) = false := decide_eq_false c5
    clear c5
    obtain rfl := Option.some.inj H
    go_wp2
    go_ret
    exact ⟨_, gz, by (with_reducible repeat (first | apply Kd.R_alloc | apply Kd.R_drewN | apply Kd.R_drew)); exact HO_5.out, (bz0 HB.out)⟩
def spec_Part.f (k : Nat) (l0 : List (S54)) (a1 : Int) : Option ((List (S54))) := (spec_StartOf.f k l0 a1).bind fun t220 => (if t220 < 0 then (some (([] : List (S54)))) else (if 0 ≤ t220 then (if t220 ≤ (wrap64 (a1 + 1)) then (if (wrap64 (a1 + 1)) ≤ (l0.length : Int) then ((spec_l3Shift.f k ((l0.take ((wrap64 (a1 + 1)) : Int).toNat).drop (t220 : Int).toNat) (wrap64 (-t220))).bind fun t228 => (some t228)) else (none)) else (none)) else (none)))
theorem spec_Part.mono : ∀ a0 a1 k, LeO (spec_Part.f k a0 a1) (spec_Part.f (k + 1) a0 a1) := by
 intro a0 a1 k
 unfold spec_Part.f
 repeat' first
   | (with_reducible exact spec_StartOf.mono _ _ _)
   | (with_reducible exact spec_l3Shift.mono _ _ _)
   | (with_reducible exact LeO.refl _)
   | (with_reducible exact LeO.none _)
   | (with_reducible refine LeO.ite ?_ ?_)
   | (with_reducible refine LeO.bind ?_ (fun _ => ?_))
   | exact spec_StartOf.mono _ _ _
   | exact spec_l3Shift.mono _ _ _
   | exact LeO.none _
   | refine LeO.ite ?_ ?_
   | refine LeO.bind ?_ (fun _ => ?_)
set_option maxHeartbeats 8000000 in
set_option maxRecDepth 100000 in
theorem spec_Part.calls (k : Nat) (A0 : Option Addr) (c0 : Nat) (l0 : List (S54)) (a1 : Int) (r : List (S54)) (w : World) (hr0 : Kd.C k54 w A0 l0.length l0) (hc0 : l0.length ≤ c0) (h : spec_Part.f k l0 a1 = some r) :
  Calls Tryd.prog 31 #[.slice A0 l0.length c0, .int .i64 a1] w fun e w' => ∃ v0_ : Value, e = .returned (v0_) ∧ Kd.R k54 54 w' w.heap.size (fun _ => True) v0_ r ∧ Below w.heap.size w w' := by
 have HR0 := Aside0.mk hr0
 have HC0 := Aside0.mk hc0
 clear hr0 hc0
 have HB := Aside0.mk (Below.refl w.heap.size w)
 have H : ((spec_StartOf.f k l0 a1).bind fun t220 => (if t220 < 0 then (some (([] : List (S54)))) else (if 0 ≤ t220 then (if t220 ≤ (wrap64 (a1 + 1)) then (if (wrap64 (a1 + 1)) ≤ (l0.length : Int) then ((spec_l3Shift.f k ((l0.take ((wrap64 (a1 + 1)) : Int).toNat).drop (t220 : Int).toNat) (wrap64 (-t220))).bind fun t228 => (some t228)) else (none)) else (none)) else (none)))) = some r := h
 clear h
 replace H := Option.bind_eq_some_iff.mp H
 obtain ⟨t220, A30, H⟩ := H
 replace H : (if t220 < 0 then (some (([] : List (S54)))) else (if 0 ≤ t220 then (if t220 ≤ (wrap64 (a1 + 1)) then (if (wrap64 (a1 + 1)) ≤ (l0.length : Int) then ((spec_l3Shift.f k ((l0.take ((wrap64 (a1 + 1)) : Int).toNat).drop (t220 : Int).toNat) (wrap64 (-t220))).bind fun t228 => (some t228)) else (none)) else (none)) else (none))) = some r := H
 have A3 := Aside0.mk A30
 clear A30
 by_cases c4 : t220 < 0
 ·rw [if_pos c4] at H
  have c4b0 : decide (t220 < 0) = true := decide_eq_true c4
  clear c4
  obtain ⟨y221, hy221⟩ : ∃ y_ : List (S54), y_ = (([] : List (S54))) := ⟨_, rfl⟩
  replace H : (some y221) = some r := by first | (rw [hy221]; with_reducible exact H) | (have H2_ := (Option.bind_some _ _).symm.trans H; rw [hy221]; with_reducible exact H2_) | (have H2_ := (Option.bind_some _ _).symm.trans H; with_reducible exact H2_) | with_reducible exact H | (rw [hy221]; exact H) | exact H
  have Ny221 := Aside0.mk hy221
  clear hy221
  obtain rfl := Option.some.inj H
  go_enter Tryd.func31, Tryd.ntmps31
  go_wp2_with (first | ((with_reducible refine gate_callee (f := 16) rfl ?_); refine goesL_ (some 8) rfl rfl Tryd.func16 (by kernel_rfl) rfl #[.slice A0 l0.length c0, .int .i64 a1] rfl lz ?_; (with_reducible refine (spec_StartOf.calls k _ _ l0 a1 t220 _ ?side1 ?side2 A3.out).mono ?_); (case side1 => repeat (first | exact HR0.out | (with_reducible refine Kd.C_alloc ?_ _) | (with_reducible refine Kd.C_drewN ?_ _) | (with_reducible refine Kd.C_drew ?_))); (case side2 => exact HC0.out); rintro e w5 ⟨rfl, hb⟩; refine ⟨_, rfl, ?_⟩; have n0_ := Aside0.mk (below_step (bz0 HB.out) hb); clear HB; have HB := n0_; clear n0_; (try clear hb); (try clear hb2); (try clear hk); (try clear hi)) | ((with_reducible refine gate_dst (N := 11) rfl ?_); refine Kd.R_lit k54 _ 54 ?hg (N := 11) ?hd (xs := ([] : List (S54))) (inner := []) (ok := fun _ => True) (okp := fun _ => True) ?hr ?hp (fun _ hk => hk) trivial (Below.refl _ _) (Nat.le_refl _) (by simp) ?_; (case hd => rfl); (case hg => rfl); (case hr => first | (go_simp; done) | (go_simp; rfl)); (case hp => exact (Reps.none _ _)); intro v222 w6 ho7 hb hg_ hnew_; clear hg_ hnew_; (first | rw [← Ny221.out] at ho7 | (simp only [Int.reduceToNat] at ho7; rw [← Ny221.out] at ho7)); have n0_ := Aside0.mk (Kd.R_lower ho7 (below_size (bz0 HB.out))); have n1_ := Aside0.mk (below_step (bz0 HB.out) hb); clear HB; have HO223 := n0_; have HB := n1_; clear n0_ n1_; clear hb ho7))
  go_ret
  exact ⟨_, gz, by (with_reducible repeat (first | apply Kd.R_alloc | apply Kd.R_drewN | apply Kd.R_drew)); exact HO223.out, (bz0 HB.out)⟩
 ·rw [if_neg c4] at H
  have c4b0 : decide (t220 < 0) = false := decide_eq_false c4
  clear c4
  by_cases c8 : 0 ≤ t220
  ·rw [if_pos c8] at H
   have c8b0 := eq_true c8
   have c8b1 : decide (0 ≤ t220) = true := decide_eq_true c8
   clear c8
   by_cases c9 : t220 ≤ (wrap64 (a1 + 1))
   ·rw [if_pos c9] at H
    have c9b0 := eq_true c9
    have c9b1 : decide (t220 ≤ (wrap64 (a1 + 1))) = true := decide_eq_true c9
    by_cases c10 : (wrap64 (a1 + 1)) ≤ (l0.length : Int)
    ·rw [if_pos c10] at H
     have c10b0 := eq_true c10
     have c10b1 : decide ((wrap64 (a1 + 1)) ≤ (l0.length : Int)) = true := decide_eq_true c10
     obtain ⟨y224, hy224⟩ : ∃ y_ : List (S54), y_ = ((l0.take ((wrap64 (a1 + 1)) : Int).toNat).drop (t220 : Int).toNat) := ⟨_, rfl⟩
     replace H : ((spec_l3Shift.f k y224 (wrap64 (-t220))).bind fun t228 => (some t228)) = some r := by first | (rw [hy224]; with_reducible exact H) | (have H2_ := (Option.bind_some _ _).symm.trans H; rw [hy224]; with_reducible exact H2_) | (have H2_ := (Option.bind_some _ _).symm.trans H; with_reducible exact H2_) | with_reducible exact H | (rw [hy224]; exact H) | exact H
     have Ny224 := Aside0.mk hy224
     clear hy224
     replace H := Option.bind_eq_some_iff.mp H
     obtain ⟨t228, A110, H⟩ := H
     replace H : (some t228) = some r := H
     have A11 := Aside0.mk A110
     clear A110
     obtain rfl := Option.some.inj H
     go_enter Tryd.func31, Tryd.ntmps31
     go_wp2_with (first | ((with_reducible refine gate_callee (f := 16) rfl ?_); refine goesL_ (some 8) rfl rfl Tryd.func16 (by kernel_rfl) rfl #[.slice A0 l0.length c0, .int .i64 a1] rfl lz ?_; (with_reducible refine (spec_StartOf.calls k _ _ l0 a1 t220 _ ?side1 ?side2 A3.out).mono ?_); (case side1 => repeat (first | exact HR0.out | (with_reducible refine Kd.C_alloc ?_ _) | (with_reducible refine Kd.C_drewN ?_ _) | (with_reducible refine Kd.C_drew ?_))); (case side2 => exact HC0.out); rintro e w12 ⟨rfl, hb⟩; refine ⟨_, rfl, ?_⟩; have n0_ := Aside0.mk (below_step (bz0 HB.out) hb); clear HB; have HB := n0_; clear n0_; (try clear hb); (try clear hb2); (try clear hk); (try clear hi); have q13 : ((wrap64 (a1 + 1)) : Int) ≤ ((l0.length : Int) : Int) := of_decide_eq_true az; obtain ⟨i013, hi013, _, hsz13, _⟩ := info_parts info54; have hroom13 : l0.length ≤ c0 := HC0.out; have hC13 : Kd.C k54 _ A0 l0.length l0 := HR0.out; have ql13 : (t220 : Int) ≤ ((wrap64 (a1 + 1)) : Int) := of_decide_eq_true az; have q013 : (0 : Int) ≤ (t220 : Int) := of_decide_eq_true az; have hcut13 := cut_mid (P := Tryd.prog) 25 54 .i64 .i64 Tryd.underlying25 hi013 7 hsz13 A0 l0.length c0 t220 (wrap64 (a1 + 1)) q013 ql13 q13 hroom13; have hr13 := Kd.C_mid (lo := (t220 : Int).toNat) (hi := ((wrap64 (a1 + 1)) : Int).toNat) (c := c0) hC13 (by omega) (by omega) hroom13; obtain ⟨A13, hA13⟩ : ∃ A1, A1 = (if c0 = (t220 : Int).toNat then A0 else (A0 : Option Addr).map (·.add ((t220 : Int).toNat * 7))) := ⟨_, rfl⟩; obtain ⟨c13, hc13⟩ : ∃ c1, c1 = c0 - (t220 : Int).toNat := ⟨_, rfl⟩; have hy13 : y224.length = ((wrap64 (a1 + 1)) : Int).toNat - (t220 : Int).toNat := (by rw [Ny224.out, List.length_drop, List.length_take] <;> omega); rw [show ((l0).take ((wrap64 (a1 + 1)) : Int).toNat).drop (t220 : Int).toNat = y224 from Ny224.out.symm] at hr13; replace hr13 : Kd.C k54 _ A13 y224.length y224 := (by rw [hA13]; exact hr13); rw [← hy13, ← hA13, ← hc13] at hcut13; have HR227 := Aside0.mk hr13; have HC227 := Aside0.mk (show y224.length ≤ c13 from by rw [hy13, hc13]; exact Nat.sub_le_sub_right (Nat.le_trans (by omega) hroom13) _); clear hr13 hC13 hroom13 hi013 hsz13 hc13; have KY13 := Aside0.mk hy13; have KA13 := Aside0.mk hA13; clear hy13 hA13; replace q13 := eq_true q13) | ((with_reducible refine gate_callee (f := 58) rfl ?_); refine goesL_ (some 19) rfl rfl Tryd.func58 (by kernel_rfl) rfl #[.slice A13 y224.length c13, .int .i64 (wrap64 (-t220))] rfl lz ?_; (with_reducible refine (spec_l3Shift.calls k _ _ y224 (wrap64 (-t220)) t228 _ ?side1 ?side2 A11.out).mono ?_); (case side1 => exact cz (Kd.C_below HR227.out HB.out)); (case side2 => exact HC227.out); rintro e w14 ⟨v229, rfl, ho0, hb⟩; refine ⟨_, rfl, ?_⟩; have n0_ := Aside0.mk (Kd.R_lower ho0 (below_size (bz0 HB.out))); have n1_ := Aside0.mk (below_step (bz0 HB.out) hb); clear HB; have HO230 := n0_; have HB := n1_; clear n0_ n1_; (try clear hb); (try clear hb2); (try clear hk); (try clear hi); (try clear ho0)))
     go_ret
     exact ⟨_, gz, by (with_reducible repeat (first | apply Kd.R_alloc | apply Kd.R_drewN | apply Kd.R_drew)); exact HO230.out, (bz0 HB.out)⟩
    ·rw [if_neg c10] at H
     exact absurd H (by simp)
   ·rw [if_neg c9] at H
    exact absurd H (by simp)
  ·rw [if_neg c8] at H
   exact absurd H (by simp)
def impl_in.f (a0 : Int) (a1 : Int) (a2 : Int) : Option (Bool) := if a0 ≥ a1 then (some (decide (a0 ≤ a2))) else (some false)
set_option maxHeartbeats 8000000 in
set_option maxRecDepth 100000 in
theorem impl_in.calls (a0 : Int) (a1 : Int) (a2 : Int) (r : Bool) (w : World) (h : impl_in.f a0 a1 a2 = some r) :
  Calls Tryd.prog 44 #[.int .i64 a0, .int .i64 a1, .int .i64 a2] w fun e w' => e = .returned (.bool r) ∧ Drawn0 w w' := by
 have H : (if a0 ≥ a1 then (some (decide (a0 ≤ a2))) else (some false)) = some r := h
 clear h
 by_cases c4 : a0 ≥ a1
 ·rw [if_pos c4] at H
  have c4b0 : decide (a1 ≤ a0) = true := decide_eq_true c4
  clear c4
  obtain rfl := Option.some.inj H
  go_enter Tryd.func44, Tryd.ntmps44
  go_wp2
  go_ret
  exact ⟨by first | rfl | (simp; done) | (simp [*]; done), by repeat (first | exact Drawn0.refl _ | apply Drawn0.step)⟩
 ·rw [if_neg c4] at H
  have c4b0 : decide (a1 ≤ a0) = false := decide_eq_false c4
  clear c4
  obtain rfl := Option.some.inj H
  go_enter Tryd.func44, Tryd.ntmps44
  go_wp2
  go_ret
  exact ⟨by first | rfl | (simp; done) | (simp [*]; done), by repeat (first | exact Drawn0.refl _ | apply Drawn0.step)⟩
def impl_namesOf.j0 : Nat → Int → Bool → Option (Int)
 | 0, _, _ => none
 | k + 1, x3, x4 => if x4 = true then (some 1) else (if x3 = 6 then (some 2) else (if x3 = 14 then (some 2) else (some 0)))
def impl_namesOf.f (k : Nat) (a0 : Int) : Option (Int) := if a0 = 1 then (impl_namesOf.j0 k a0 (a0 == 1)) else (if a0 = 3 then (impl_namesOf.j0 k a0 (a0 == 3)) else (if a0 = 5 then (impl_namesOf.j0 k a0 (a0 == 5)) else (impl_namesOf.j0 k a0 (a0 == 19))))
theorem impl_namesOf.mono_l : ∀ k, (∀ y0 y1, LeO (impl_namesOf.j0 k y0 y1) (impl_namesOf.j0 (k + 1) y0 y1))
 | 0 => fun _ _ r h => by simp [impl_namesOf.j0] at h
 | k + 1 => by
  have ih0 := impl_namesOf.mono_l k
  ·intro y0 y1
   unfold impl_namesOf.j0
   repeat' first
   | (with_reducible exact ih0 _ _)
   | (with_reducible exact LeO.refl _)
   | (with_reducible exact LeO.none _)
   | (with_reducible refine LeO.ite ?_ ?_)
   | (with_reducible refine LeO.bind ?_ (fun _ => ?_))
   | exact ih0 _ _
   | exact LeO.none _
   | refine LeO.ite ?_ ?_
   | refine LeO.bind ?_ (fun _ => ?_)
theorem impl_namesOf.mono : ∀ a0 k, LeO (impl_namesOf.f k a0) (impl_namesOf.f (k + 1) a0) := by
 intro a0 k
 have ih0 := impl_namesOf.mono_l k
 unfold impl_namesOf.f
 repeat' first
   | (with_reducible exact ih0 _ _)
   | (with_reducible exact LeO.refl _)
   | (with_reducible exact LeO.none _)
   | (with_reducible refine LeO.ite ?_ ?_)
   | (with_reducible refine LeO.bind ?_ (fun _ => ?_))
   | exact ih0 _ _
   | exact LeO.none _
   | refine LeO.ite ?_ ?_
   | refine LeO.bind ?_ (fun _ => ?_)
set_option maxHeartbeats 8000000 in
set_option maxRecDepth 100000 in
theorem impl_namesOf.calls (k : Nat) (a0 : Int) (r : Int) (w : World) (h : impl_namesOf.f k a0 = some r) :
  Calls Tryd.prog 54 #[.int .i64 a0] w fun e w' => e = .returned (.int .i64 r) ∧ Drawn0 w w' := by
 have H : (if a0 = 1 then (impl_namesOf.j0 k a0 (a0 == 1)) else (if a0 = 3 then (impl_namesOf.j0 k a0 (a0 == 3)) else (if a0 = 5 then (impl_namesOf.j0 k a0 (a0 == 5)) else (impl_namesOf.j0 k a0 (a0 == 19))))) = some r := h
 clear h
 have HC2 := Aside0.mk H
 clear H
 go_enter Tryd.func54, Tryd.ntmps54
 go_upto_if 4 with (fail)
 go_cut [4] (fun v4 wc => ∃ (kq : Nat) (x4_1 : Bool), v4 = .bool x4_1 ∧ Aside0 (impl_namesOf.j0 kq a0 x4_1 = some r) ∧ Aside0 (kq ≤ k) ∧ Drawn0 w wc)
 case first =>
  have H := HC2.out
  clear HC2
  by_cases c3 : a0 = 1
  ·rw [if_pos c3] at H
   have c3b0 : (a0 == 1) = true := beq_iff_eq.mpr c3
   have c3b1 : (a0 != 1) = false := bne_eq_false_iff_eq.mpr c3
   clear c3
   (first | rw [c3b0] | (simp only [i64_w, i32_w]; rw [c3b0]) | skip)
   have H' := Aside0.mk H
   clear H
   go_wp2
   go_meet
   case rel => exact ⟨_, ((a0 == 1)), ez, H', ⟨by first | omega | exact Nat.le_refl _⟩, by repeat (first | exact Drawn0.refl _ | apply Drawn0.step)⟩
  ·rw [if_neg c3] at H
   have c3b0 : (a0 == 1) = false := beq_eq_false_iff_ne.mpr c3
   have c3b1 : (a0 != 1) = true := bne_iff_ne.mpr c3
   (first | rw [c3b0] | (simp only [i64_w, i32_w]; rw [c3b0]) | skip)
   by_cases c4 : a0 = 3
   ·rw [if_pos c4] at H
    have c4b0 : (a0 == 3) = true := beq_iff_eq.mpr c4
    have c4b1 : (a0 != 3) = false := bne_eq_false_iff_eq.mpr c4
    clear c4
    have H' := Aside0.mk H
    clear H
    go_wp2
    go_meet
    case rel => exact ⟨_, ((a0 == 3)), ez, H', ⟨by first | omega | exact Nat.le_refl _⟩, by repeat (first | exact Drawn0.refl _ | apply Drawn0.step)⟩
   ·rw [if_neg c4] at H
    have c4b0 : (a0 == 3) = false := beq_eq_false_iff_ne.mpr c4
    have c4b1 : (a0 != 3) = true := bne_iff_ne.mpr c4
    by_cases c5 : a0 = 5
    ·rw [if_pos c5] at H
     have c5b0 : (a0 == 5) = true := beq_iff_eq.mpr c5
     have c5b1 : (a0 != 5) = false := bne_eq_false_iff_eq.mpr c5
     clear c5
     have H' := Aside0.mk H
     clear H
     go_wp2
     go_meet
     case rel => exact ⟨_, ((a0 == 5)), ez, H', ⟨by first | omega | exact Nat.le_refl _⟩, by repeat (first | exact Drawn0.refl _ | apply Drawn0.step)⟩
    ·rw [if_neg c5] at H
     have c5b0 : (a0 == 5) = false := beq_eq_false_iff_ne.mpr c5
     have c5b1 : (a0 != 5) = true := bne_iff_ne.mpr c5
     have H' := Aside0.mk H
     clear H
     go_wp2
     go_meet
     case rel => exact ⟨_, ((a0 == 19)), ez, H', ⟨by first | omega | exact Nat.le_refl _⟩, by repeat (first | exact Drawn0.refl _ | apply Drawn0.step)⟩
 case rest =>
  clear HC2
  try clear p2
  try clear c3
  try clear c3b0
  try clear c3b1
  try clear c4
  try clear c4b0
  try clear c4b1
  try clear c5
  try clear c5b0
  try clear c5b1
  obtain ⟨kq, x4_1, rfl, HA, HJ1, ⟨mc1, rfl⟩⟩ := hcut
  cases kq with
  | zero => exact absurd HA.out (by simp [impl_namesOf.j0])
  | succ kj1 =>
   have H := HA.out
   clear HA
   simp only [impl_namesOf.j0] at H
   by_cases c6 : x4_1 = true
   ·subst c6
    have H1 : (some 1) = some r := by rw [if_pos rfl] at H; exact H
    clear H
    have H := H1
    clear H1
    obtain rfl := Option.some.inj H
    go_wp2
    go_ret
    exact ⟨by first | rfl | (simp; done) | (simp [*]; done), by repeat (first | exact Drawn0.refl _ | apply Drawn0.step)⟩
   ·replace c6 := Bool.eq_false_iff.mpr c6
    subst c6
    have H1 : (if a0 = 6 then (some 2) else (if a0 = 14 then (some 2) else (some 0))) = some r := by rw [if_neg (show ¬ (false = true) by decide)] at H; exact H
    clear H
    have H := H1
    clear H1
    by_cases c7 : a0 = 6
    ·rw [if_pos c7] at H
     have c7b0 : (a0 == 6) = true := beq_iff_eq.mpr c7
     have c7b1 : (a0 != 6) = false := bne_eq_false_iff_eq.mpr c7
     clear c7
     obtain rfl := Option.some.inj H
     go_wp2
     go_ret
     exact ⟨by first | rfl | (simp; done) | (simp [*]; done), by repeat (first | exact Drawn0.refl _ | apply Drawn0.step)⟩
    ·rw [if_neg c7] at H
     have c7b0 : (a0 == 6) = false := beq_eq_false_iff_ne.mpr c7
     have c7b1 : (a0 != 6) = true := bne_iff_ne.mpr c7
     by_cases c8 : a0 = 14
     ·rw [if_pos c8] at H
      have c8b0 : (a0 == 14) = true := beq_iff_eq.mpr c8
      have c8b1 : (a0 != 14) = false := bne_eq_false_iff_eq.mpr c8
      clear c8
      obtain rfl := Option.some.inj H
      go_wp2
      go_ret
      exact ⟨by first | rfl | (simp; done) | (simp [*]; done), by repeat (first | exact Drawn0.refl _ | apply Drawn0.step)⟩
     ·rw [if_neg c8] at H
      have c8b0 : (a0 == 14) = false := beq_eq_false_iff_ne.mpr c8
      have c8b1 : (a0 != 14) = true := bne_iff_ne.mpr c8
      obtain rfl := Option.some.inj H
      go_wp2
      go_ret
      exact ⟨by first | rfl | (simp; done) | (simp [*]; done), by repeat (first | exact Drawn0.refl _ | apply Drawn0.step)⟩
def impl_IsWord.l0 : Nat → ByteArray → Int → Option (Bool)
 | 0, _, _ => none
 | k + 1, x0, x3 => if x3 < (x0.size : Int) then (if 0 ≤ x3 then (if (bt x0 x3) < 97 then (some false) else (if (bt x0 x3) > 122 then (some false) else (impl_IsWord.l0 k x0 (wrap64 (x3 + 1))))) else (none)) else ((impl_in.f (x0.size : Int) 1 8).bind fun t231 => (some t231))
def impl_IsWord.f (k : Nat) (a0 : ByteArray) : Option (Bool) := impl_IsWord.l0 k a0 0
theorem impl_IsWord.mono_l : ∀ k, (∀ y0 y1, LeO (impl_IsWord.l0 k y0 y1) (impl_IsWord.l0 (k + 1) y0 y1))
 | 0 => fun _ _ r h => by simp [impl_IsWord.l0] at h
 | k + 1 => by
  have ih0 := impl_IsWord.mono_l k
  ·intro y0 y1
   unfold impl_IsWord.l0
   repeat' first
   | (with_reducible exact ih0 _ _)
   | (with_reducible exact LeO.refl _)
   | (with_reducible exact LeO.none _)
   | (with_reducible refine LeO.ite ?_ ?_)
   | (with_reducible refine LeO.bind ?_ (fun _ => ?_))
   | exact ih0 _ _
   | exact LeO.none _
   | refine LeO.ite ?_ ?_
   | refine LeO.bind ?_ (fun _ => ?_)
theorem impl_IsWord.mono : ∀ a0 k, LeO (impl_IsWord.f k a0) (impl_IsWord.f (k + 1) a0) := by
 intro a0 k
 have ih0 := impl_IsWord.mono_l k
 unfold impl_IsWord.f
 repeat' first
   | (with_reducible exact ih0 _ _)
   | (with_reducible exact LeO.refl _)
   | (with_reducible exact LeO.none _)
   | (with_reducible refine LeO.ite ?_ ?_)
   | (with_reducible refine LeO.bind ?_ (fun _ => ?_))
   | exact ih0 _ _
   | exact LeO.none _
   | refine LeO.ite ?_ ?_
   | refine LeO.bind ?_ (fun _ => ?_)
set_option maxHeartbeats 8000000 in
set_option maxRecDepth 100000 in
theorem impl_IsWord.calls (k : Nat) (a0 : ByteArray) (r : Bool) (w : World) (h : impl_IsWord.f k a0 = some r) :
  Calls Tryd.prog 71 #[.string a0] w fun e w' => e = .returned (.bool r) ∧ Drawn0 w w' := by
 have H : (impl_IsWord.l0 k a0 0) = some r := h
 clear h
 have H' := Aside0.mk H
 clear H
 go_enter Tryd.func71, Tryd.ntmps71
 go_wp2
 go_loopg [3] k (fun kq v3 w' => ∃ (x3_1 : Int), v3 = .int .i64 x3_1 ∧ Aside0 (impl_IsWord.l0 kq a0 x3_1 = some r) ∧ Aside0 (kq ≤ k) ∧ Drawn0 w w')
 case atStart => exact ⟨(0), ez, H', ⟨Nat.le_refl _⟩, by repeat (first | exact Drawn0.refl _ | apply Drawn0.step)⟩
 case round =>
  clear H'
  obtain ⟨x3_1, rfl, HA, HK1, ⟨m1, rfl⟩⟩ := hrel
  cases gk with
  | zero => exact absurd HA.out (by simp [impl_IsWord.l0])
  | succ k1 =>
   have H := HA.out
   clear HA
   simp only [impl_IsWord.l0] at H
   by_cases c2 : x3_1 < (a0.size : Int)
   ·rw [if_pos c2] at H
    have c2b0 : decide (x3_1 < (a0.size : Int)) = true := decide_eq_true c2
    clear c2
    by_cases c3 : 0 ≤ x3_1
    ·rw [if_pos c3] at H
     have c3b0 : decide (0 ≤ x3_1) = true := decide_eq_true c3
     clear c3
     by_cases c5 : (bt a0 x3_1) < 97
     ·rw [if_pos c5] at H
      have c5b0 : decide ((bt a0 x3_1) < 97) = true := decide_eq_true c5
      clear c5
      obtain rfl := Option.some.inj H
      have p4 : 0 ≤ (x3_1 : Int) := of_decide_eq_true az
      have q4 : x3_1 < (a0.size : Int) := of_decide_eq_true az
      have hx4 := bt_at a0 x3_1
      replace p4 := eq_true p4
      replace q4 := eq_true q4
      go_wp2
      go_ret
      exact ⟨by first | rfl | (simp; done) | (simp [*]; done), by repeat (first | exact Drawn0.refl _ | apply Drawn0.step)⟩
     ·rw [if_neg c5] at H
      have c5b0 : decide ((bt a0 x3_1) < 97) = false := decide_eq_false c5
      clear c5
      by_cases c7 : (bt a0 x3_1) > 122
      ·rw [if_pos c7] at H
       have c7b0 : decide (122 < (bt a0 x3_1)) = true := decide_eq_true c7
       clear c7
       obtain rfl := Option.some.inj H
       have p4 : 0 ≤ (x3_1 : Int) := of_decide_eq_true az
       have q4 : x3_1 < (a0.size : Int) := of_decide_eq_true az
       have hx4 := bt_at a0 x3_1
       replace p4 := eq_true p4
       replace q4 := eq_true q4
       have p6 : 0 ≤ (x3_1 : Int) := of_decide_eq_true az
       have q6 : x3_1 < (a0.size : Int) := of_decide_eq_true az
       have hx6 := bt_at a0 x3_1
       replace p6 := eq_true p6
       replace q6 := eq_true q6
       go_wp2
       go_ret
       exact ⟨by first | rfl | (simp; done) | (simp [*]; done), by repeat (first | exact Drawn0.refl _ | apply Drawn0.step)⟩
      ·rw [if_neg c7] at H
       have c7b0 : decide (122 < (bt a0 x3_1)) = false := decide_eq_false c7
       clear c7
       have H' := Aside0.mk H
       clear H
       have p4 : 0 ≤ (x3_1 : Int) := of_decide_eq_true az
       have q4 : x3_1 < (a0.size : Int) := of_decide_eq_true az
       have hx4 := bt_at a0 x3_1
       replace p4 := eq_true p4
       replace q4 := eq_true q4
       have p6 : 0 ≤ (x3_1 : Int) := of_decide_eq_true az
       have q6 : x3_1 < (a0.size : Int) := of_decide_eq_true az
       have hx6 := bt_at a0 x3_1
       replace p6 := eq_true p6
       replace q6 := eq_true q6
       go_wp2
       go_roundg k1
       case measure => have := HK1.out; omega
       case rel => exact ⟨(wrap64 (x3_1 + 1)), ez, H', ⟨by have := HK1.out; omega⟩, by repeat (first | exact Drawn0.refl _ | apply Drawn0.step)⟩
    ·rw [if_neg c3] at H
     exact absurd H (by simp)
   ·rw [if_neg c2] at H
    have c2b0 : decide (x3_1 < (a0.size : Int)) = false := decide_eq_false c2
    clear c2
    replace H := Option.bind_eq_some_iff.mp H
    obtain ⟨t231, A80, H⟩ := H
    replace H : (some t231) = some r := H
    have A8 := Aside0.mk A80
    clear A80
    obtain rfl := Option.some.inj H
    go_wp2_with (first | ((with_reducible refine gate_callee (f := 44) rfl ?_); refine goesL_ (some 22) rfl rfl Tryd.func44 (by kernel_rfl) rfl #[.int .i64 (a0.size : Int), .int .i64 1, .int .i64 8] rfl lz ?_; (with_reducible refine (impl_in.calls (a0.size : Int) 1 8 t231 _ A8.out).mono ?_); rintro e w' ⟨rfl, ⟨nd, rfl⟩⟩; refine ⟨_, rfl, ?_⟩))
    go_ret
    exact ⟨by first | rfl | (simp; done) | (simp [*]; done), by repeat (first | exact Drawn0.refl _ | apply Drawn0.step)⟩
def strings_explode.f (a0 : ByteArray) (a1 : Int) : Option (List ByteArray) := none
theorem strings_explode.calls (a0 : ByteArray) (a1 : Int) (r : List ByteArray) (w : World) (h : strings_explode.f a0 a1 = some r) :
  Calls Tryd.prog 77 #[.string a0, .int .i64 a1] w fun e w' => ∃ v0_ : Value, e = .returned (v0_) ∧ Kd.R Kd.string 9 w' w.heap.size (fun _ => True) v0_ r ∧ Below w.heap.size w w' := by
 cases h
def strings_Index.f (a0 : ByteArray) (a1 : ByteArray) : Option (Int) := if a1 = (⟨#[32]⟩ : ByteArray) then (some (Lib.indexByte a0.data.toList 32)) else (none)
theorem strings_Index.calls (a0 : ByteArray) (a1 : ByteArray) (r : Int) (w : World) (h : strings_Index.f a0 a1 = some r) :
  Calls Tryd.prog 79 #[.string a0, .string a1] w fun e w' => e = .returned (.int .i64 r) ∧ Drawn0 w w' := by
 unfold strings_Index.f at h
 split at h
 ·rename_i e1
  subst e1
  obtain rfl := Option.some.inj h
  exact (Tryd.strings_Index_one a0 32 w).mono fun e w' ⟨h1, h2⟩ => ⟨h1, by rw [h2]; exact Drawn0.refl _⟩
 ·cases h
def strings_Count.f (a0 : ByteArray) (a1 : ByteArray) : Option (Int) := if a1 = (⟨#[32]⟩ : ByteArray) then (some (Lib.countByte a0.data.toList 32)) else (none)
theorem strings_Count.calls (a0 : ByteArray) (a1 : ByteArray) (r : Int) (w : World) (h : strings_Count.f a0 a1 = some r) :
  Calls Tryd.prog 78 #[.string a0, .string a1] w fun e w' => e = .returned (.int .i64 r) ∧ Drawn0 w w' := by
 unfold strings_Count.f at h
 split at h
 ·rename_i e1
  subst e1
  obtain rfl := Option.some.inj h
  exact (Tryd.strings_Count_one a0 32 w).mono fun e w' ⟨h1, h2⟩ => ⟨h1, by rw [h2]; exact Drawn0.refl _⟩
 ·cases h
end Go.Proofs.YthmkeimngfboiaaDoor.PFnExactPart
