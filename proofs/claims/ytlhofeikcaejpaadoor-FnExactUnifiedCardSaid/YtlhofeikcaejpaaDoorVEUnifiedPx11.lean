/- PFnExactUnifiedx11, of the words and walks that the law FnExactUnified needs; made by this session's program out of printed texts. -/

import Derived.Test.YtlhofeikcaejpaaDoorVEUnifiedPx0
import Derived.Test.YtlhofeikcaejpaaDoorVEUnifiedPx7
import Derived.Test.YtlhofeikcaejpaaDoorVEUnifiedPx9
import Derived.Test.YtlhofeikcaejpaaDoorVEUnifiedPx10
namespace Go.Proofs.YtlhofeikcaejpaaDoor.PFnExactUnified
open Go.RowKit Go.Proofs.YtlhofeikcaejpaaDoorW.PrintWords Go.Proofs.YtlhofeikcaejpaaDoorW.PrintLast Go.Proofs.YtlhofeikcaejpaaDoorW.PrintMore
attribute [local go_sem] max2_int min2_int max_two min_two max_three min_three max_four min_four
set_option linter.unusedVariables false
set_option linter.unusedSimpArgs false
mutual
def spec_l8Unify.l0 : Nat -> List (S55) -> List Int -> List Int -> Int -> Option (Bool × (List (S55)))
 | 0, _, _, _, _ => none
 | k + 1, x0, x7, x8, x9 => if x9 < (x7.length : Int) then (if 0 <= x9 then (if x9 < (x8.length : Int) then ((spec_l8Unify.f k x0 (rd x7 x9) (rd x8 x9)).bind fun bt292 => (if bt292.1 = true then (spec_l8Unify.l0 k bt292.2 x7 x8 (wrap64 (x9 + 1))) else (some (false, bt292.2)))) else (none)) else (none)) else (some (true, x0))
def spec_l8Unify.f : Nat -> List (S55) -> Int -> Int -> Option (Bool × (List (S55)))
 | 0, _, _, _ => none
 | k + 1, l0, a1, a2 => (spec_l8Find.f k l0 a1).bind fun t272 => ((spec_l8Find.f k l0 a2).bind fun t273 => (if t272 = t273 then (some (true, l0)) else (if 0 <= t272 then (if t272 < (l0.length : Int) then (if ((rd_T55 l0 t272).f0) = 0 then ((spec_l8In.f k l0 t272 t273).bind fun t275 => (if t275 = true then (some (false, l0)) else (some (true, (l0.set (t272 : Int).toNat (⟨(rd_T55 l0 t272).f0, t273, (rd_T55 l0 t272).f2⟩ : S55)))))) else (if 0 <= t273 then (if t273 < (l0.length : Int) then (if ((rd_T55 l0 t273).f0) = 0 then ((spec_l8Unify.f k l0 t273 t272).bind fun bt278 => (some (bt278.1, bt278.2))) else (if ((rd_T55 l0 t272).f0) = ((rd_T55 l0 t273).f0) then ((spec_l8Kids.f k ((rd_T55 l0 t272).f0) ((rd_T55 l0 t272).f1) ((rd_T55 l0 t272).f2)).bind fun t283 => ((spec_l8Kids.f k ((rd_T55 l0 t273).f0) ((rd_T55 l0 t273).f1) ((rd_T55 l0 t273).f2)).bind fun t287 => (spec_l8Unify.l0 k l0 t283 t287 0))) else (some (false, l0)))) else (none)) else (none))) else (none)) else (none))))
end
theorem spec_l8Unify.mono_l : ∀ k, (∀ y0 y1 y2, LeO (spec_l8Unify.f k y0 y1 y2) (spec_l8Unify.f (k + 1) y0 y1 y2)) /\ (∀ y0 y1 y2 y3, LeO (spec_l8Unify.l0 k y0 y1 y2 y3) (spec_l8Unify.l0 (k + 1) y0 y1 y2 y3))
 | 0 => ⟨fun _ _ _ r h => by simp [spec_l8Unify.f] at h, fun _ _ _ _ r h => by simp [spec_l8Unify.l0] at h⟩
 | k + 1 => by
  obtain ⟨ih0, ih1⟩ := spec_l8Unify.mono_l k
  refine ⟨?_, ?_⟩
  ·intro y0 y1 y2
   unfold spec_l8Unify.f
   with_reducible repeat' first | exact ih0 _ _ _ | exact ih1 _ _ _ _ | exact spec_l8Find.mono _ _ _ | exact spec_l8In.mono _ _ _ _ | exact spec_l8Kids.mono _ _ _ _ | exact lrz _ | exact lnz _ | refine liz ?_ ?_ | refine lbz ?_ fun _ => ?_
  ·intro y0 y1 y2 y3
   unfold spec_l8Unify.l0
   with_reducible repeat' first | exact ih0 _ _ _ | exact ih1 _ _ _ _ | exact spec_l8Find.mono _ _ _ | exact spec_l8In.mono _ _ _ _ | exact spec_l8Kids.mono _ _ _ _ | exact lrz _ | exact lnz _ | refine liz ?_ ?_ | refine lbz ?_ fun _ => ?_
theorem spec_l8Unify.mono : ∀ a0 a1 a2 k, LeO (spec_l8Unify.f k a0 a1 a2) (spec_l8Unify.f (k + 1) a0 a1 a2) := by
 intro a0 a1 a2 k
 obtain ⟨ih0, ih1⟩ := spec_l8Unify.mono_l k
 exact ih0 a0 a1 a2
def spec_l8Unify.T12 : Bool × List (List Nat × List Nat) := (true, [([], []), ([], []), ([0, 1], [0, 1]), ([2], [2]), ([3], [3]), ([], []), ([], []), ([5, 6], [5, 6]), ([7], [7]), ([8], [8]), ([4, 9], [4, 9])])
def spec_l8Unify.B12 : List Nat := [0, 0, 3, 7, 15, 0, 0, 96, 224, 480, 1023]
theorem spec_l8Unify.tab12 : rtab .any (opsOf Tryd.f75 12) = spec_l8Unify.T12 := by kernel_rfl
theorem spec_l8Unify.bits12 : waitsOk spec_l8Unify.T12.2 spec_l8Unify.B12 = true := by kernel_rfl
def spec_l8Unify.T19 : Bool × List (List Nat × List Nat) := (true, [([], []), ([], []), ([], []), ([1, 2], [1, 2]), ([3], [3]), ([], []), ([], []), ([5, 6], [5, 6]), ([7], [7]), ([0, 4, 8], [0, 4, 8]), ([9], [9])])
def spec_l8Unify.B19 : List Nat := [0, 0, 0, 6, 14, 0, 0, 96, 224, 511, 1023]
theorem spec_l8Unify.tab19 : rtab .any (opsOf Tryd.f75 19) = spec_l8Unify.T19 := by kernel_rfl
theorem spec_l8Unify.bits19 : waitsOk spec_l8Unify.T19.2 spec_l8Unify.B19 = true := by kernel_rfl
set_option maxHeartbeats 8000000 in
set_option maxRecDepth 100000 in
theorem spec_l8Unify.calls (k : Nat) : ∀ (P0_ : Nat -> Prop) (u9000_ : Value) (l0 : List (S55)) (a1 : Int) (a2 : Int) (r1 : Bool) (r2 : List (S55)) (w0 w : World) (hB : Below w0.heap.size w0 w) (ho0 : Kd.R k55 55 w w0.heap.size P0_ u9000_ l0) (h : spec_l8Unify.f k l0 a1 a2 = some (r1, r2)),
  Calls Tryd.prog 75 #[u9000_, .int .i64 a1, .int .i64 a2] w fun e w' => e = .returned (.bool r1) /\ Kd.R k55 55 w' w0.heap.size (fun k_ => (P0_ k_ \/ w.heap.size <= k_)) u9000_ r2 /\ Below w0.heap.size w0 w' /\ Kept w w' (fun k_ => P0_ k_) := by
 induction k using Nat.strongRecOn with
 | _ k ih =>
 intro P0_ u9000_ l0 a1 a2 r1 r2 w0 w hB ho0 h
 cases k with
 | zero => exact absurd h (by simp [spec_l8Unify.f])
 | succ k =>
 simp only [spec_l8Unify.f] at h
 have hu55 := Tryd.underlying55
 have HO0 := Aside0.mk (show Kd.R k55 55 w w0.heap.size (fun k_ => (P0_ k_ \/ w.heap.size <= k_)) u9000_ l0 from Kd.R_mono ho0 (fun k_ hk => (.inl hk)))
 have HK := Aside0.mk (Kept.refl w (fun k_ => P0_ k_))
 have HW0 := Aside0.mk hB.size
 have HB := Aside0.mk hB
 clear hB
 have H : ((spec_l8Find.f k l0 a1).bind fun t272 => ((spec_l8Find.f k l0 a2).bind fun t273 => (if t272 = t273 then (some (true, l0)) else (if 0 <= t272 then (if t272 < (l0.length : Int) then (if ((rd_T55 l0 t272).f0) = 0 then ((spec_l8In.f k l0 t272 t273).bind fun t275 => (if t275 = true then (some (false, l0)) else (some (true, (l0.set (t272 : Int).toNat (⟨(rd_T55 l0 t272).f0, t273, (rd_T55 l0 t272).f2⟩ : S55)))))) else (if 0 <= t273 then (if t273 < (l0.length : Int) then (if ((rd_T55 l0 t273).f0) = 0 then ((spec_l8Unify.f k l0 t273 t272).bind fun bt278 => (some (bt278.1, bt278.2))) else (if ((rd_T55 l0 t272).f0) = ((rd_T55 l0 t273).f0) then ((spec_l8Kids.f k ((rd_T55 l0 t272).f0) ((rd_T55 l0 t272).f1) ((rd_T55 l0 t272).f2)).bind fun t283 => ((spec_l8Kids.f k ((rd_T55 l0 t273).f0) ((rd_T55 l0 t273).f1) ((rd_T55 l0 t273).f2)).bind fun t287 => (spec_l8Unify.l0 k l0 t283 t287 0))) else (some (false, l0)))) else (none)) else (none))) else (none)) else (none))))) = some (r1, r2) := h
 clear h
 replace H := bi H
 obtain ⟨t272, A40, H⟩ := H
 try dsimp only at H
 have A4 := Aside0.mk A40
 clear A40
 replace H := bi H
 obtain ⟨t273, A50, H⟩ := H
 try dsimp only at H
 have A5 := Aside0.mk A50
 clear A50
 by_cases c6 : t272 = t273
 ·rw [if_pos c6] at H
  have c6b0 : (t272 == t273) = true := beq_iff_eq.mpr c6
  have c6b1 : (t272 != t273) = false := bne_eq_false_iff_eq.mpr c6
  clear c6
  simp only [Option.some.injEq, Prod.mk.injEq] at H
  obtain ⟨rfl, rfl⟩ := H
  obtain ⟨Ao7, co7, eo7⟩ := Kd.R_slice HO0.out
  subst eo7
  go_enter Tryd.func75, Tryd.ntmps75
  go_wp2_with (first | ((with_reducible refine gate_callee (f := 81) rfl ?_); refine goesL_ (some 12) rfl rfl Tryd.func81 (by kernel_rfl) rfl #[.slice Ao7 l0.length co7, .int .i64 a1] rfl lz ?_; (with_reducible refine (spec_l8Find.calls k _ _ l0 a1 t272 _ ?side1 ?side2 A4.out).mono ?_); (case side1 => exact cz (Kd.R_reads' HO0.out).2.2); (case side2 => exact (Kd.R_reads' HO0.out).2.1); rintro e w' ⟨rfl, ⟨nd, rfl⟩⟩; refine ⟨_, rfl, ?_⟩) | ((with_reducible refine gate_callee (f := 81) rfl ?_); refine goesL_ (some 15) rfl rfl Tryd.func81 (by kernel_rfl) rfl #[.slice Ao7 l0.length co7, .int .i64 a2] rfl lz ?_; (with_reducible refine (spec_l8Find.calls k _ _ l0 a2 t273 _ ?side1 ?side2 A5.out).mono ?_); (case side1 => exact cz (Kd.R_reads' HO0.out).2.2); (case side2 => exact (Kd.R_reads' HO0.out).2.1); rintro e w' ⟨rfl, ⟨nd, rfl⟩⟩; refine ⟨_, rfl, ?_⟩))
  go_ret
  exact ⟨gz, by refine rq ?_; exact HO0.out, (bz0 HB.out), by repeat (first | (with_reducible first | exact HK.out | apply Kept.alloc | apply Kept.drewN | apply Kept.drew) | exact HK.out)⟩
 ·rw [if_neg c6] at H
  have c6b0 : (t272 == t273) = false := beq_eq_false_iff_ne.mpr c6
  have c6b1 : (t272 != t273) = true := bne_iff_ne.mpr c6
  replace H := iz H
  obtain ⟨c8, H⟩ := H
  have c8b0 := decide_eq_true c8
  clear c8
  replace H := iz H
  obtain ⟨c9, H⟩ := H
  have c9b0 := decide_eq_true c9
  clear c9
  by_cases c10 : ((rd_T55 l0 t272).f0) = 0
  ·rw [if_pos c10] at H
   have c10b0 : (((rd_T55 l0 t272).f0) == 0) = true := beq_iff_eq.mpr c10
   have c10b1 : (((rd_T55 l0 t272).f0) != 0) = false := bne_eq_false_iff_eq.mpr c10
   clear c10
   replace H := bi H
   obtain ⟨t275, A110, H⟩ := H
   try dsimp only at H
   have A11 := Aside0.mk A110
   clear A110
   by_cases c12 : t275 = true
   ·subst c12
    have H1 := hp H
    clear H
    have H := H1
    clear H1
    simp only [Option.some.injEq, Prod.mk.injEq] at H
    obtain ⟨rfl, rfl⟩ := H
    obtain ⟨Ao13, co13, eo13⟩ := Kd.R_slice HO0.out
    subst eo13
    go_enter Tryd.func75, Tryd.ntmps75
    go_wp2_with (first | ((with_reducible refine gate_callee (f := 81) rfl ?_); refine goesL_ (some 12) rfl rfl Tryd.func81 (by kernel_rfl) rfl #[.slice Ao13 l0.length co13, .int .i64 a1] rfl lz ?_; (with_reducible refine (spec_l8Find.calls k _ _ l0 a1 t272 _ ?side1 ?side2 A4.out).mono ?_); (case side1 => exact cz (Kd.R_reads' HO0.out).2.2); (case side2 => exact (Kd.R_reads' HO0.out).2.1); rintro e w' ⟨rfl, ⟨nd, rfl⟩⟩; refine ⟨_, rfl, ?_⟩) | ((with_reducible refine gate_callee (f := 81) rfl ?_); refine goesL_ (some 15) rfl rfl Tryd.func81 (by kernel_rfl) rfl #[.slice Ao13 l0.length co13, .int .i64 a2] rfl lz ?_; (with_reducible refine (spec_l8Find.calls k _ _ l0 a2 t273 _ ?side1 ?side2 A5.out).mono ?_); (case side1 => exact cz (Kd.R_reads' HO0.out).2.2); (case side2 => exact (Kd.R_reads' HO0.out).2.1); rintro e w' ⟨rfl, ⟨nd, rfl⟩⟩; refine ⟨_, rfl, ?_⟩; have p274 : 0 <= (t272 : Int) := oz; have q274 : t272 < (l0.length : Int) := oz; obtain ⟨ad274, e274, hx274_0, hx274_1, hx274_2⟩ := at_T55 (Kd.R_reads' HO0.out).2.2 t272 p274 q274; cases e274; replace p274 := eq_true p274; replace q274 := eq_true q274) | ((with_reducible refine gate_callee (f := 93) rfl ?_); refine goesL_ (some 28) rfl rfl Tryd.func93 (by kernel_rfl) rfl #[.slice (some ad274) l0.length co13, .int .i64 t272, .int .i64 t273] rfl lz ?_; (with_reducible refine (spec_l8In.calls k _ _ l0 t272 t273 true _ ?side1 ?side2 A11.out).mono ?_); (case side1 => exact cz (Kd.R_reads' HO0.out).2.2); (case side2 => exact (Kd.R_reads' HO0.out).2.1); rintro e w14 ⟨rfl, hb⟩; refine ⟨_, rfl, ?_⟩; replace HO0 := qz HO0 hb; replace HK := Aside0.mk (Kept.below (S := (fun k_ => P0_ k_)) (by repeat (first | (with_reducible first | exact HK.out | apply Kept.alloc | apply Kept.drewN | apply Kept.drew) | exact HK.out)) hb); replace HB := Aside0.mk (below_step (bz0 HB.out) hb); (try clear hb); (try clear hi)))
    go_ret
    exact ⟨gz, by refine rq ?_; exact HO0.out, (bz0 HB.out), by repeat (first | (with_reducible first | exact HK.out | apply Kept.alloc | apply Kept.drewN | apply Kept.drew) | exact HK.out)⟩
   ·replace c12 := Bool.eq_false_iff.mpr c12
    subst c12
    have H1 := hq H
    clear H
    have H := H1
    clear H1
    obtain ⟨y276, hy276⟩ : ∃ y_ : List (S55), y_ = (l0.set (t272 : Int).toNat (⟨(rd_T55 l0 t272).f0, t273, (rd_T55 l0 t272).f2⟩ : S55)) := ⟨_, rfl⟩
    replace H : (some (true, y276)) = some (r1, r2) := yz hy276 H
    have Ny276 := Aside0.mk hy276
    clear hy276
    simp only [Option.some.injEq, Prod.mk.injEq] at H
    obtain ⟨rfl, rfl⟩ := H
    obtain ⟨Ao16, co16, eo16⟩ := Kd.R_slice HO0.out
    subst eo16
    go_enter Tryd.func75, Tryd.ntmps75
    go_wp2_with (first | ((with_reducible refine gate_callee (f := 81) rfl ?_); refine goesL_ (some 12) rfl rfl Tryd.func81 (by kernel_rfl) rfl #[.slice Ao16 l0.length co16, .int .i64 a1] rfl lz ?_; (with_reducible refine (spec_l8Find.calls k _ _ l0 a1 t272 _ ?side1 ?side2 A4.out).mono ?_); (case side1 => exact cz (Kd.R_reads' HO0.out).2.2); (case side2 => exact (Kd.R_reads' HO0.out).2.1); rintro e w' ⟨rfl, ⟨nd, rfl⟩⟩; refine ⟨_, rfl, ?_⟩) | ((with_reducible refine gate_callee (f := 81) rfl ?_); refine goesL_ (some 15) rfl rfl Tryd.func81 (by kernel_rfl) rfl #[.slice Ao16 l0.length co16, .int .i64 a2] rfl lz ?_; (with_reducible refine (spec_l8Find.calls k _ _ l0 a2 t273 _ ?side1 ?side2 A5.out).mono ?_); (case side1 => exact cz (Kd.R_reads' HO0.out).2.2); (case side2 => exact (Kd.R_reads' HO0.out).2.1); rintro e w' ⟨rfl, ⟨nd, rfl⟩⟩; refine ⟨_, rfl, ?_⟩; have p274 : 0 <= (t272 : Int) := oz; have q274 : t272 < (l0.length : Int) := oz; obtain ⟨ad274, e274, hx274_0, hx274_1, hx274_2⟩ := at_T55 (Kd.R_reads' HO0.out).2.2 t272 p274 q274; cases e274; replace p274 := eq_true p274; replace q274 := eq_true q274) | ((with_reducible refine gate_callee (f := 93) rfl ?_); refine goesL_ (some 28) rfl rfl Tryd.func93 (by kernel_rfl) rfl #[.slice (some ad274) l0.length co16, .int .i64 t272, .int .i64 t273] rfl lz ?_; (with_reducible refine (spec_l8In.calls k _ _ l0 t272 t273 false _ ?side1 ?side2 A11.out).mono ?_); (case side1 => exact cz (Kd.R_reads' HO0.out).2.2); (case side2 => exact (Kd.R_reads' HO0.out).2.1); rintro e w17 ⟨rfl, hb⟩; refine ⟨_, rfl, ?_⟩; replace HO0 := qz HO0 hb; replace HK := Aside0.mk (Kept.below (S := (fun k_ => P0_ k_)) (by repeat (first | (with_reducible first | exact HK.out | apply Kept.alloc | apply Kept.drewN | apply Kept.drew) | exact HK.out)) hb); replace HB := Aside0.mk (below_step (bz0 HB.out) hb); (try clear hb); (try clear hk); have p15 : 0 <= (t272 : Int) := oz; have q15 : (t272 : Int) < ((l0.length : Int) : Int) := oz; obtain ⟨go15, co15, eo15, gb15, gl15, cl15, HG15⟩ := Kd.R_form HO0.out (by omega); (first | cases eo15 | (injection eo15 with ea_ en_ ec_; (first | subst ea_ | (injection ea_ with ea_; subst ea_)); subst ec_; clear en_)); have GB15 := Aside0.mk gb15; have GG15 := Aside0.mk HG15; clear gb15 gl15 HG15; have HMgo15 := Aside0.mk (show (P0_ go15 \/ w.heap.size <= go15) from (HO0.out.1 _ rfl)); (first | simp only [add_plain] at hx274_0 | skip); (first | simp only [add_plain] at hx274_1 | skip); (first | simp only [add_plain] at hx274_2 | skip); obtain ⟨ce15, hcl15, hM15, hcc15, hfr15⟩ := Kd.R_elem HO0.out z55 (t272 : Int) p15 q15; obtain rfl := k55_openM hM15; have hx15_0 : w17.cell? ⟨go15, (t272 : Int).toNat * 3, none⟩ = some (.int .i64 ((rd_T55 l0 t272).f0)) := hcc15 0 _ rfl; have hx15_1 : w17.cell? ⟨go15, (t272 : Int).toNat * 3 + 1, none⟩ = some (.int .i64 ((rd_T55 l0 t272).f1)) := hcc15 1 _ rfl; have hx15_2 : w17.cell? ⟨go15, (t272 : Int).toNat * 3 + 2, none⟩ = some (.int .i64 ((rd_T55 l0 t272).f2)) := hcc15 2 _ rfl; have hf15_0 : w17.frozen? ⟨go15, (t272 : Int).toNat * 3, none⟩ = false := hfr15 0; have hf15_1 : w17.frozen? ⟨go15, (t272 : Int).toNat * 3 + 1, none⟩ = false := hfr15 1; have hf15_2 : w17.frozen? ⟨go15, (t272 : Int).toNat * 3 + 2, none⟩ = false := hfr15 2; clear hcl15 hcc15 hfr15 hM15; replace p15 := eq_true p15; replace q15 := eq_true q15; have HX18 := Aside0.mk (show Kd.R k55 55 w17 w0.heap.size (fun k_ => (P0_ k_ \/ w.heap.size <= k_)) (.slice (some ⟨go15, 0, none⟩) l0.length co16) l0 from (rz HO0.out)); obtain ⟨ce18, hcl18, hM18, hcc18, hfr18⟩ := Kd.R_elem HX18.out z55 (t272 : Int) (of_decide_eq_true az) (by have h_ : (t272 : Int) < ((l0.length : Int) : Int) := oz; first | exact h_ | (have e_ := (Kd.R_reads' HO0.out).1; omega) | simpa using h_); obtain rfl := k55_openM hM18; have HP18 := Kd.R_seg HX18.out (t272 : Int) (of_decide_eq_true az) (by have h_ : (t272 : Int) < ((l0.length : Int) : Int) := oz; first | exact h_ | (have e_ := (Kd.R_reads' HO0.out).1; omega) | simpa using h_) (seg := [.int .i64 t273]) (j := 1) hcl18 hcc18 (show 2 <= 3 from by decide) (x' := (⟨(rd_T55 l0 t272).f0, t273, (rd_T55 l0 t272).f2⟩ : S55)) (k55_mkM _ _ _ (⟨(rd_T55 l0 t272).f0, t273, (rd_T55 l0 t272).f2⟩ : S55) ) (fun _ hk => hk); have hx18_1 := hcc18 1 _ rfl; (try simp only [show (k55).sz = 3 from rfl, Nat.mul_one, Nat.add_zero] at hx18_1); have hf18_1 := hfr18 1; (try simp only [show (k55).sz = 3 from rfl, Nat.mul_one, Nat.add_zero] at hf18_1); clear hcl18 hcc18 hfr18 hM18) | ((with_reducible refine gate_store (t := 3) (p := 33) rfl ?_); refine store_event (t := 3) (p := 33) (v := ?vo_w19) (w1 := (w17.setCell ⟨go15, (t272 : Int).toNat * 3 + 1, none⟩ (.int .i64 t273))) ?hg ?ho ?hn ?hr ?_; (case ho => rfl); (case hg => rfl); (case hn => rfl); (case hr => exact vz); intro w19 hw; have hg : w17.grownBy w19 (some go15) := (by rw [hw]; exact HP18.2); have hp_ : Kd.R k55 55 w19 w0.heap.size (fun k_ => (P0_ k_ \/ w.heap.size <= k_)) (.slice (some ⟨go15, 0, none⟩) l0.length co16) y276 := (by rw [hw, Ny276.out]; exact HP18.1); clear HP18; replace HB := Aside0.mk ((by rw [hw]; exact below_set (HB.out) GB15.out : Below w0.heap.size w0 w19)); replace HK := Aside0.mk (Kept.of_grown (S := (fun k_ => P0_ k_)) hg (by repeat (first | (with_reducible first | exact HK.out | apply Kept.alloc | apply Kept.drewN | apply Kept.drew) | exact HK.out)) (fun k_ e_ => (HO0.out.1 k_ e_))); replace HO0 := Aside0.mk (hp_); clear hg hw hp_))
    go_ret
    exact ⟨gz, by refine rq ?_; exact HO0.out, (bz0 HB.out), by repeat (first | (with_reducible first | exact HK.out | apply Kept.alloc | apply Kept.drewN | apply Kept.drew) | exact HK.out)⟩
  ·rw [if_neg c10] at H
   have c10b0 : (((rd_T55 l0 t272).f0) == 0) = false := beq_eq_false_iff_ne.mpr c10
   have c10b1 : (((rd_T55 l0 t272).f0) != 0) = true := bne_iff_ne.mpr c10
   replace H := iz H
   obtain ⟨c20, H⟩ := H
   have c20b0 := decide_eq_true c20
   clear c20
   replace H := iz H
   obtain ⟨c21, H⟩ := H
   have c21b0 := decide_eq_true c21
   clear c21
   by_cases c22 : ((rd_T55 l0 t273).f0) = 0
   ·rw [if_pos c22] at H
    have c22b0 : (((rd_T55 l0 t273).f0) == 0) = true := beq_iff_eq.mpr c22
    have c22b1 : (((rd_T55 l0 t273).f0) != 0) = false := bne_eq_false_iff_eq.mpr c22
    clear c22
    replace H := bi H
    obtain ⟨⟨t278, t279⟩, A230, H⟩ := H
    try dsimp only at H
    have A23 := Aside0.mk A230
    clear A230
    simp only [Option.some.injEq, Prod.mk.injEq] at H
    obtain ⟨rfl, rfl⟩ := H
    obtain ⟨Ao24, co24, eo24⟩ := Kd.R_slice HO0.out
    subst eo24
    go_enter Tryd.func75, Tryd.ntmps75
    go_wp2_with (first | ((with_reducible refine gate_callee (f := 81) rfl ?_); refine goesL_ (some 12) rfl rfl Tryd.func81 (by kernel_rfl) rfl #[.slice Ao24 l0.length co24, .int .i64 a1] rfl lz ?_; (with_reducible refine (spec_l8Find.calls k _ _ l0 a1 t272 _ ?side1 ?side2 A4.out).mono ?_); (case side1 => exact cz (Kd.R_reads' HO0.out).2.2); (case side2 => exact (Kd.R_reads' HO0.out).2.1); rintro e w' ⟨rfl, ⟨nd, rfl⟩⟩; refine ⟨_, rfl, ?_⟩) | ((with_reducible refine gate_callee (f := 81) rfl ?_); refine goesL_ (some 15) rfl rfl Tryd.func81 (by kernel_rfl) rfl #[.slice Ao24 l0.length co24, .int .i64 a2] rfl lz ?_; (with_reducible refine (spec_l8Find.calls k _ _ l0 a2 t273 _ ?side1 ?side2 A5.out).mono ?_); (case side1 => exact cz (Kd.R_reads' HO0.out).2.2); (case side2 => exact (Kd.R_reads' HO0.out).2.1); rintro e w' ⟨rfl, ⟨nd, rfl⟩⟩; refine ⟨_, rfl, ?_⟩; have p274 : 0 <= (t272 : Int) := oz; have q274 : t272 < (l0.length : Int) := oz; obtain ⟨ad274, e274, hx274_0, hx274_1, hx274_2⟩ := at_T55 (Kd.R_reads' HO0.out).2.2 t272 p274 q274; cases e274; replace p274 := eq_true p274; replace q274 := eq_true q274; have p277 : 0 <= (t273 : Int) := oz; have q277 : t273 < (l0.length : Int) := oz; obtain ⟨ad277, e277, hx277_0, hx277_1, hx277_2⟩ := at_T55 (Kd.R_reads' HO0.out).2.2 t273 p277 q277; obtain rfl : ad274 = ad277 := (by injection e277); replace p277 := eq_true p277; replace q277 := eq_true q277) | ((with_reducible refine gate_callee (f := 75) rfl ?_); refine goesL_ (some 43) rfl rfl Tryd.func75 (by kernel_rfl) rfl #[.slice (some ad274) l0.length co24, .int .i64 t273, .int .i64 t272] rfl lz ?_; (with_reducible refine (ih k (by omega) (fun k_ => some k_ = (.slice (some ad274) l0.length co24 : Value).ownBlock) (.slice (some ad274) l0.length co24) l0 t273 t272 t278 t279 w0 _ ?side1 ?side2 A23.out).mono ?_); (case side1 => repeat (first | (with_reducible first | exact HB.out | apply below_alloc | apply pw_below_drewN | apply below_drew1) | exact HB.out)); (case side2 => exact Kd.R_tight rfl HO0.out); rintro e w25 ⟨rfl, hy0, hb, hkp⟩; refine ⟨_, rfl, ?_⟩; replace HK := Aside0.mk (Kept.then_ (S := (fun k_ => P0_ k_)) (by repeat (first | (with_reducible first | exact HK.out | apply Kept.alloc | apply Kept.drewN | apply Kept.drew) | exact HK.out)) hkp (fun k_ hs_ => (fun e_ => (HO0.out.1 k_ e_.symm)) hs_)); replace HO0 := Aside0.mk (Kd.R_reok rfl hy0 (fun k_ e_ => HO0.out.1 k_ e_)); replace HB := Aside0.mk (hb); (try clear hb); (try clear hkp); (try clear hy0)))
    go_ret
    exact ⟨gz, by refine rq ?_; exact HO0.out, (bz0 HB.out), by repeat (first | (with_reducible first | exact HK.out | apply Kept.alloc | apply Kept.drewN | apply Kept.drew) | exact HK.out)⟩
   ·rw [if_neg c22] at H
    have c22b0 : (((rd_T55 l0 t273).f0) == 0) = false := beq_eq_false_iff_ne.mpr c22
    have c22b1 : (((rd_T55 l0 t273).f0) != 0) = true := bne_iff_ne.mpr c22
    by_cases c26 : ((rd_T55 l0 t272).f0) = ((rd_T55 l0 t273).f0)
    ·rw [if_pos c26] at H
     have c26b0 : (((rd_T55 l0 t272).f0) == ((rd_T55 l0 t273).f0)) = true := beq_iff_eq.mpr c26
     have c26b1 : (((rd_T55 l0 t272).f0) != ((rd_T55 l0 t273).f0)) = false := bne_eq_false_iff_eq.mpr c26
     clear c26
     replace H := bi H
     obtain ⟨t283, A270, H⟩ := H
     try dsimp only at H
     have A27 := Aside0.mk A270
     clear A270
     replace H := bi H
     obtain ⟨t287, A280, H⟩ := H
     try dsimp only at H
     have A28 := Aside0.mk A280
     clear A280
     have H' := Aside0.mk H
     clear H
     obtain ⟨Ao29, co29, eo29⟩ := Kd.R_slice HO0.out
     subst eo29
     go_enter Tryd.func75, Tryd.ntmps75
     try go_wp2_with (first | ((with_reducible refine gate_callee (f := 81) rfl ?_); refine goesL_ (some 12) rfl rfl Tryd.func81 (by kernel_rfl) rfl #[.slice Ao29 l0.length co29, .int .i64 a1] rfl lz ?_; (with_reducible refine (spec_l8Find.calls k _ _ l0 a1 t272 _ ?side1 ?side2 A4.out).mono ?_); (case side1 => exact cz (Kd.R_reads' HO0.out).2.2); (case side2 => exact (Kd.R_reads' HO0.out).2.1); rintro e w' ⟨rfl, ⟨nd, rfl⟩⟩; refine ⟨_, rfl, ?_⟩) | ((with_reducible refine gate_callee (f := 81) rfl ?_); refine goesL_ (some 15) rfl rfl Tryd.func81 (by kernel_rfl) rfl #[.slice Ao29 l0.length co29, .int .i64 a2] rfl lz ?_; (with_reducible refine (spec_l8Find.calls k _ _ l0 a2 t273 _ ?side1 ?side2 A5.out).mono ?_); (case side1 => exact cz (Kd.R_reads' HO0.out).2.2); (case side2 => exact (Kd.R_reads' HO0.out).2.1); rintro e w' ⟨rfl, ⟨nd, rfl⟩⟩; refine ⟨_, rfl, ?_⟩; have p274 : 0 <= (t272 : Int) := oz; have q274 : t272 < (l0.length : Int) := oz; obtain ⟨ad274, e274, hx274_0, hx274_1, hx274_2⟩ := at_T55 (Kd.R_reads' HO0.out).2.2 t272 p274 q274; cases e274; replace p274 := eq_true p274; replace q274 := eq_true q274; have p277 : 0 <= (t273 : Int) := oz; have q277 : t273 < (l0.length : Int) := oz; obtain ⟨ad277, e277, hx277_0, hx277_1, hx277_2⟩ := at_T55 (Kd.R_reads' HO0.out).2.2 t273 p277 q277; obtain rfl : ad274 = ad277 := (by injection e277); replace p277 := eq_true p277; replace q277 := eq_true q277))
     (try (rw [drewN_self w]; generalize hq_ : World.drewN w _ = wv; have n0_ : Aside0 (Kd.R k55 55 wv w0.heap.size (fun k_ => (P0_ k_ \/ w.heap.size <= k_)) (.slice (some ad274) l0.length co29) l0) := ⟨by rw [<- hq_]; exact (rz HO0.out)⟩; have n1_ : Aside0 (Kept w wv (fun k_ => P0_ k_)) := ⟨by rw [<- hq_]; exact (by repeat (first | (with_reducible first | exact HK.out | apply Kept.alloc | apply Kept.drewN | apply Kept.drew) | exact HK.out))⟩; have n2_ : Aside0 (Below w0.heap.size w0 wv) := ⟨by rw [<- hq_]; exact (bz0 HB.out)⟩; clear HO0 HK HB hq_; have HO0 := n0_; have HK := n1_; have HB := n2_; clear n0_ n1_ n2_))
     have n0_ := Aside0.mk (Kd.R_drew HO0.out)
     have n1_ := Aside0.mk (Kept.drew HK.out)
     have n2_ := Aside0.mk (below_drew1 HB.out)
     clear HO0
     clear HK
     clear HB
     have HO0 := n0_
     have HK := n1_
     have HB := n2_
     clear n0_ n1_ n2_
     have p280 : 0 <= (t272 : Int) := oz
     have q280 : t272 < (l0.length : Int) := oz
     obtain ⟨ad280, e280, hx280_0, hx280_1, hx280_2⟩ := at_T55 (Kd.R_reads' HO0.out).2.2 t272 p280 q280
     obtain rfl : ad274 = ad280 := (by injection e280)
     replace p280 := eq_true p280
     replace q280 := eq_true q280
     have p281 : 0 <= (t273 : Int) := oz
     have q281 : t273 < (l0.length : Int) := oz
     obtain ⟨ad281, e281, hx281_0, hx281_1, hx281_2⟩ := at_T55 (Kd.R_reads' HO0.out).2.2 t273 p281 q281
     obtain rfl : ad274 = ad281 := (by injection e281)
     replace p281 := eq_true p281
     replace q281 := eq_true q281
     refine start_ (n := 11) (S := fun w' => w'.cell? (ad274.add ((t272).toNat * 3)) = some (.int .i64 ((rd_T55 l0 t272).f0)) /\ w'.cell? ⟨(ad274.add ((t272).toNat * 3)).block, (ad274.add ((t272).toNat * 3)).off + 1, none⟩ = some (.int .i64 ((rd_T55 l0 t272).f1)) /\ w'.cell? ⟨(ad274.add ((t272).toNat * 3)).block, (ad274.add ((t272).toNat * 3)).off + 2, none⟩ = some (.int .i64 ((rd_T55 l0 t272).f2)) /\ w'.cell? (ad274.add ((t273).toNat * 3)) = some (.int .i64 ((rd_T55 l0 t273).f0)) /\ w'.cell? ⟨(ad274.add ((t273).toNat * 3)).block, (ad274.add ((t273).toNat * 3)).off + 1, none⟩ = some (.int .i64 ((rd_T55 l0 t273).f1)) /\ w'.cell? ⟨(ad274.add ((t273).toNat * 3)).block, (ad274.add ((t273).toNat * 3)).off + 2, none⟩ = some (.int .i64 ((rd_T55 l0 t273).f2))) (ds := []) (mk_ 0 11) (by kernel_rfl) rfl rfl ⟨hx280_0, hx280_1, hx280_2, hx281_0, hx281_1, hx281_2⟩ (fun hHeld => ?_); refine with_tabW spec_l8Unify.tab12 spec_l8Unify.bits12 (fun HT_ HW_ => ?_)
     generalize wv.drew = w30 at HO0 HK HB hx280_0 hx280_1 hx280_2 hx281_0 hx281_1 hx281_2 hHeld ⊢
     refine pv 0 44 (mk_ 1 10) HT_ rfl rfl ?_
     refine pv 1 45 (mk_ 2 9) HT_ rfl rfl ?_
     refine pv 2 46 (mk_ 3 8) HT_ rfl rfl ?_
     refine pv 3 47 (mk_ 4 7) HT_ rfl rfl ?_
     refine pv 5 49 (bm_ 11 47) HT_ rfl rfl ?_
     refine pv 6 50 (bm_ 11 111) HT_ rfl rfl ?_
     refine pv 7 51 (bm_ 11 239) HT_ rfl rfl ?_
     refine pv 8 52 (bm_ 11 495) HT_ rfl rfl ?_
     refine tv6 4 48 (mk_ 9 2) HT_ HW_ rfl rfl hHeld ?_
     refine tv6 9 53 (mk_ 10 1) HT_ HW_ rfl rfl hHeld ?_
     refine pv 10 54 (mk_ 11 0) HT_ rfl rfl ?_
     refine done_ (done_of HT_.out (by kernel_rfl)) ?_
     have p282 : 0 <= (t272 : Int) := oz
     have q282 : t272 < (l0.length : Int) := oz
     obtain ⟨ad282, e282, hx282_0, hx282_1, hx282_2⟩ := at_T55 (Kd.R_reads' HO0.out).2.2 t272 p282 q282
     obtain rfl : ad274 = ad282 := (by injection e282)
     replace p282 := eq_true p282
     replace q282 := eq_true q282
     try go_wp2_with (first | ((with_reducible refine gate_callee (f := 56) rfl ?_); refine goesL_ (some 59) rfl rfl Tryd.func56 (by kernel_rfl) rfl #[.agg #[.int .i64 ((rd_T55 l0 t272).f0), .int .i64 ((rd_T55 l0 t272).f1), .int .i64 ((rd_T55 l0 t272).f2)]] rfl lz ?_; (with_reducible refine (spec_l8Kids.calls k ((rd_T55 l0 t272).f0) ((rd_T55 l0 t272).f1) ((rd_T55 l0 t272).f2) t283 _ A27.out).mono ?_); rintro e w31 ⟨v284, rfl, ho0, hb⟩; refine ⟨_, rfl, ?_⟩; replace HO0 := qz HO0 hb; have HO285 := Aside0.mk (Kd.R_lower (Kd.R_newM (M := fun k_ => (P0_ k_ \/ w.heap.size <= k_)) ho0 (by first | exact HK.out.1 | exact (show Kept w _ (fun k_ => P0_ k_) from by repeat (first | (with_reducible first | exact HK.out | apply Kept.alloc | apply Kept.drewN | apply Kept.drew) | exact HK.out)).1) (fun k_ h_ => .inr h_)) (below_size (bz0 HB.out))); replace HK := Aside0.mk (Kept.below (S := (fun k_ => P0_ k_)) (by repeat (first | (with_reducible first | exact HK.out | apply Kept.alloc | apply Kept.drewN | apply Kept.drew) | exact HK.out)) hb); replace HB := Aside0.mk (below_step (bz0 HB.out) hb); (try clear hb); (try clear ho0); have p286 : 0 <= (t273 : Int) := oz; have q286 : t273 < (l0.length : Int) := oz; obtain ⟨ad286, e286, hx286_0, hx286_1, hx286_2⟩ := at_T55 (Kd.R_reads' HO0.out).2.2 t273 p286 q286; obtain rfl : ad274 = ad286 := (by injection e286); replace p286 := eq_true p286; replace q286 := eq_true q286) | ((with_reducible refine gate_callee (f := 56) rfl ?_); refine goesL_ (some 64) rfl rfl Tryd.func56 (by kernel_rfl) rfl #[.agg #[.int .i64 ((rd_T55 l0 t273).f0), .int .i64 ((rd_T55 l0 t273).f1), .int .i64 ((rd_T55 l0 t273).f2)]] rfl lz ?_; (with_reducible refine (spec_l8Kids.calls k ((rd_T55 l0 t273).f0) ((rd_T55 l0 t273).f1) ((rd_T55 l0 t273).f2) t287 _ A28.out).mono ?_); rintro e w32 ⟨v288, rfl, ho0, hb⟩; refine ⟨_, rfl, ?_⟩; replace HO0 := qz HO0 hb; have HO289 := Aside0.mk (Kd.R_lower (Kd.R_new' (Kd.R_newM (M := fun k_ => (P0_ k_ \/ w.heap.size <= k_)) ho0 (by first | exact HK.out.1 | exact (show Kept w _ (fun k_ => P0_ k_) from by repeat (first | (with_reducible first | exact HK.out | apply Kept.alloc | apply Kept.drewN | apply Kept.drew) | exact HK.out)).1) (fun k_ h_ => .inr h_)) (Kd.R_lt (rz HO285.out))) (below_size (bz0 HB.out))); replace HO285 := Aside0.mk (Kd.R_elder' (rz HO285.out) (Kd.R_base ho0) hb); replace HK := Aside0.mk (Kept.below (S := (fun k_ => P0_ k_)) (by repeat (first | (with_reducible first | exact HK.out | apply Kept.alloc | apply Kept.drewN | apply Kept.drew) | exact HK.out)) hb); replace HB := Aside0.mk (below_step (bz0 HB.out) hb); (try clear hb); (try clear ho0)))
     go_loopg [9] k (fun kq v9 w' => ∃ (x0_1 : List (S55)) (x9_1 : Int), v9 = .int .i64 x9_1 /\ Aside0 (spec_l8Unify.l0 kq x0_1 t283 t287 x9_1 = some (r1, r2)) /\ Aside0 (kq <= k) /\ Aside0 (Kd.R k55 55 w' w0.heap.size (fun k_ => (P0_ k_ \/ w.heap.size <= k_)) (.slice (some ad274) l0.length co29) x0_1) /\ Aside0 (Kd.R (Kd.int .i64) 3 w' w0.heap.size (fun k_ => (P0_ k_ \/ w.heap.size <= k_) /\ some k_ ≠ (v288 : Value).ownBlock) v284 t283) /\ Aside0 (Kd.R (Kd.int .i64) 3 w' w0.heap.size (fun k_ => (P0_ k_ \/ w.heap.size <= k_) /\ some k_ ≠ (v284 : Value).ownBlock) v288 t287) /\ Aside0 (Kept w w' (fun k_ => P0_ k_)) /\ Aside0 (Below w0.heap.size w0 w'))
     case atStart => exact ⟨(l0), (0), ez, H', ⟨Nat.le_refl _⟩, ⟨by refine rq ?_; exact HO0.out⟩, ⟨by refine rq ?_; exact Kd.R_mono HO285.out (fun _ hk => ⟨hk.1.1, hk.2⟩)⟩, ⟨by refine rq ?_; exact Kd.R_mono HO289.out (fun _ hk => ⟨hk.1.1, hk.2⟩)⟩, ⟨by repeat (first | (with_reducible first | exact HK.out | apply Kept.alloc | apply Kept.drewN | apply Kept.drew) | exact HK.out)⟩, ⟨(bz0 HB.out)⟩⟩
     case round =>
      clear H'
      try clear c1
      try clear p1
      try clear q1
      try clear hx1
      try clear c2
      try clear p2
      try clear q2
      try clear hx2
      try clear c5
      try clear c6
      try clear c6b0
      try clear c6b1
      try clear c7
      try clear c8
      try clear c8b0
      try clear c9
      try clear c9b0
      try clear c10
      try clear c10b0
      try clear c10b1
      try clear c12
      try clear c15
      try clear p15
      try clear q15
      try clear hx15
      try clear hf15
      try clear c18
      try clear hx18
      try clear hf18
      try clear c20
      try clear c20b0
      try clear c21
      try clear c21b0
      try clear c22
      try clear c22b0
      try clear c22b1
      try clear c26
      try clear c26b0
      try clear c26b1
      try clear p27
      try clear q27
      try clear hx27
      try clear p28
      try clear q28
      try clear hx28
      try clear hx15_0
      try clear hx15_1
      try clear hx15_2
      try clear hx18_1
      try clear hx274_0
      try clear hx274_1
      try clear hx274_2
      try clear hx277_0
      try clear hx277_1
      try clear hx277_2
      try clear hx280_0
      try clear hx280_1
      try clear hx280_2
      try clear hx281_0
      try clear hx281_1
      try clear hx281_2
      try clear hx282_0
      try clear hx282_1
      try clear hx282_2
      try clear hx286_0
      try clear hx286_1
      try clear hx286_2
      try clear p15
      try clear p274
      try clear p277
      try clear p280
      try clear p281
      try clear p282
      try clear p286
      try clear q15
      try clear q274
      try clear q277
      try clear q280
      try clear q281
      try clear q282
      try clear q286
      obtain ⟨x0_1, x9_1, rfl, HA, HK1, HO_0, HO_7, HO_8, HK, HB⟩ := hrel
      have hl0_1 := (Kd.R_reads' HO_0.out).1
      rw [hl0_1] at HO_0
      (try simp only [hl0_1])
      (try simp only [hl0_1] at HO_7)
      (try simp only [hl0_1] at HO_8)
      cases gk with
      | zero => exact absurd HA.out (by simp [spec_l8Unify.l0])
      | succ k1 =>
       have H := HA.out
       clear HA
       simp only [spec_l8Unify.l0] at H
       by_cases c33 : x9_1 < (t283.length : Int)
       ·rw [if_pos c33] at H
        have c33b0 := decide_eq_true c33
        clear c33
        replace H := iz H
        obtain ⟨c34, H⟩ := H
        have c34b0 := decide_eq_true c34
        clear c34
        replace H := iz H
        obtain ⟨c35, H⟩ := H
        have c35b0 := decide_eq_true c35
        clear c35
        replace H := bi H
        obtain ⟨⟨t292, t293⟩, A360, H⟩ := H
        try dsimp only at H
        have A36 := Aside0.mk A360
        clear A360
        by_cases c37 : t292 = true
        ·subst c37
         have H1 := hp H
         clear H
         have H := H1
         clear H1
         have H' := Aside0.mk H
         clear H
         obtain ⟨Ao38, co38, eo38⟩ := Kd.R_slice HO_7.out
         subst eo38
         try go_wp2
         have n0_ := Aside0.mk (Kd.R_drew HO_0.out)
         have n1_ := Aside0.mk (Kd.R_drew HO_7.out)
         have n2_ := Aside0.mk (Kd.R_drew HO_8.out)
         have n3_ := Aside0.mk (Kept.drew HK.out)
         have n4_ := Aside0.mk (below_drew1 HB.out)
         clear HO_0
         clear HO_7
         clear HO_8
         clear HK
         clear HB
         have HO_0 := n0_
         have HO_7 := n1_
         have HO_8 := n2_
         have HK := n3_
         have HB := n4_
         clear n0_ n1_ n2_ n3_ n4_
         have p290 : 0 <= (x9_1 : Int) := oz
         have q290 : x9_1 < (t283.length : Int) := oz
         obtain ⟨ad290, e290, hx290_0⟩ := Kd.at_int (Kd.R_reads' HO_7.out).2.2 x9_1 p290 q290
         cases e290
         replace p290 := eq_true p290
         replace q290 := eq_true q290
         obtain ⟨Ao40, co40, eo40⟩ := Kd.R_slice HO_8.out
         (first | subst eo40 | (injection eo40 with f1_ f2_ f3_; have f4_ := f1_.symm; have f5_ := f3_.symm; clear f1_ f2_ f3_; subst f4_; subst f5_))
         have p291 : 0 <= (x9_1 : Int) := oz
         have q291 : x9_1 < (t287.length : Int) := oz
         obtain ⟨ad291, e291, hx291_0⟩ := Kd.at_int (Kd.R_reads' HO_8.out).2.2 x9_1 p291 q291
         cases e291
         replace p291 := eq_true p291
         replace q291 := eq_true q291
         refine start_ (n := 11) (S := fun w' => w'.cell? (ad290.add (x9_1).toNat) = some (.int .i64 (rd t283 x9_1)) /\ w'.cell? (ad291.add (x9_1).toNat) = some (.int .i64 (rd t287 x9_1))) (ds := []) (mk_ 0 11) (by kernel_rfl) rfl rfl ⟨hx290_0, hx291_0⟩ (fun hHeld => ?_); refine with_tabW spec_l8Unify.tab19 spec_l8Unify.bits19 (fun HT_ HW_ => ?_)
         generalize wr.drew = w39 at HO_0 HO_7 HO_8 HK HB hx290_0 hx291_0 hHeld ⊢
         refine pv 0 71 (mk_ 1 10) HT_ rfl rfl ?_
         refine pv 1 72 (mk_ 2 9) HT_ rfl rfl ?_
         refine pv 2 73 (mk_ 3 8) HT_ rfl rfl ?_
         refine pv 3 74 (mk_ 4 7) HT_ rfl rfl ?_
         refine pv 5 76 (bm_ 11 47) HT_ rfl rfl ?_
         refine pv 6 77 (bm_ 11 111) HT_ rfl rfl ?_
         refine pv 7 78 (bm_ 11 239) HT_ rfl rfl ?_
         refine tv2 4 75 (mk_ 8 3) HT_ HW_ rfl rfl hHeld ?_
         refine tv2 8 79 (mk_ 9 2) HT_ HW_ rfl rfl hHeld ?_
         refine one_ (i := 9) (N := some 80) (mk_ 10 1) rfl rfl (one_of HT_.out (by kernel_rfl)) (by decide) (fun K hK => ?_)
         refine goes_ Tryd.func75 (by kernel_rfl) rfl #[.slice (some ad274) x0_1.length co29, .int .i64 (rd t283 x9_1), .int .i64 (rd t287 x9_1)] (by rfl) rfl rfl lz ?_
         with_reducible refine (ih k1 (by have := HK1.out; omega) (fun k_ => some k_ = (.slice (some ad274) x0_1.length co29 : Value).ownBlock) (.slice (some ad274) x0_1.length co29) x0_1 (rd t283 x9_1) (rd t287 x9_1) true t293 w0 _ ?side1 ?side2 A36.out).mono ?_
         (case side1 => repeat (first | (with_reducible first | exact HB.out | apply below_alloc | apply pw_below_drewN | apply below_drew1) | exact HB.out))
         (case side2 => exact Kd.R_tight rfl HO_0.out)
         rintro e w41 ⟨rfl, hy0, hb, hkp⟩
         have HS0_ := cell_kept (hHeld.1) hkp (by first | (rw [add_block]; exact (fun hs_ => ((((Kd.R_apart' HO_7.out (Kd.R_typed HO_0.out) (by decide))).1 _ rfl).2) hs_)) | (show ¬ _; simp only [add_block]; exact (fun hs_ => ((((Kd.R_apart' HO_7.out (Kd.R_typed HO_0.out) (by decide))).1 _ rfl).2) hs_)) | exact (fun hs_ => ((((Kd.R_apart' HO_7.out (Kd.R_typed HO_0.out) (by decide))).1 _ rfl).2) hs_))
         have HS1_ := cell_kept (hHeld.2) hkp (by first | (rw [add_block]; exact (fun hs_ => ((((Kd.R_apart' HO_8.out (Kd.R_typed HO_0.out) (by decide))).1 _ rfl).2) hs_)) | (show ¬ _; simp only [add_block]; exact (fun hs_ => ((((Kd.R_apart' HO_8.out (Kd.R_typed HO_0.out) (by decide))).1 _ rfl).2) hs_)) | exact (fun hs_ => ((((Kd.R_apart' HO_8.out (Kd.R_typed HO_0.out) (by decide))).1 _ rfl).2) hs_))
         refine ⟨_, rfl, ?_⟩
         have n0_ := Aside0.mk (Kd.R_reok rfl hy0 (fun k_ e_ => HO_0.out.1 k_ e_))
         have n1_ := Aside0.mk (Kd.R_mono (ok' := fun k_ => (P0_ k_ \/ w.heap.size <= k_) /\ some k_ ≠ (.slice (some ad291) t287.length co40 : Value).ownBlock) (Kd.R_keptB ((Kd.R_apart' HO_7.out (Kd.R_typed HO_0.out) (by decide))) hkp (fun k_ hk_ hs_ => by with_reducible first | exact absurd hs_ hk_.2 | exact absurd hs_ hk_ | exact absurd hs_ hk_.1 | exact absurd hs_ hk_.2 | exact absurd hs_ hk_.1.1 | exact absurd hs_ hk_.1.2)) (fun k_ hk_ => by first | exact ⟨hk_.1.1.1, hk_.1.1.2⟩ | (with_reducible (refine ⟨?_, ?_⟩ <;> first | exact hk_.1 | exact hk_.1.1 | exact hk_.1.2 | exact hk_.1.1.1 | exact hk_.1.1.2 | exact hk_.2.1 | exact hk_.1.2.1 | exact hk_.1.2.2))))
         have n2_ := Aside0.mk (Kd.R_mono (ok' := fun k_ => (P0_ k_ \/ w.heap.size <= k_) /\ some k_ ≠ (.slice (some ad290) t283.length co38 : Value).ownBlock) (Kd.R_keptB ((Kd.R_apart' HO_8.out (Kd.R_typed HO_0.out) (by decide))) hkp (fun k_ hk_ hs_ => by with_reducible first | exact absurd hs_ hk_.2 | exact absurd hs_ hk_ | exact absurd hs_ hk_.1 | exact absurd hs_ hk_.2 | exact absurd hs_ hk_.1.1 | exact absurd hs_ hk_.1.2)) (fun k_ hk_ => by first | exact ⟨hk_.1.1.1, hk_.1.1.2⟩ | (with_reducible (refine ⟨?_, ?_⟩ <;> first | exact hk_.1 | exact hk_.1.1 | exact hk_.1.2 | exact hk_.1.1.1 | exact hk_.1.1.2 | exact hk_.2.1 | exact hk_.1.2.1 | exact hk_.1.2.2))))
         have n3_ := Aside0.mk (Kept.then_ (S := (fun k_ => P0_ k_)) (by repeat (first | (with_reducible first | exact HK.out | apply Kept.alloc | apply Kept.drewN | apply Kept.drew) | exact HK.out)) hkp (fun k_ hs_ => (fun e_ => (HO_0.out.1 k_ e_.symm)) hs_))
         have n4_ := Aside0.mk (hb)
         clear HO_0
         clear HO_7
         clear HO_8
         clear HK
         clear HB
         have HO_0 := n0_
         have HO_7 := n1_
         have HO_8 := n2_
         have HK := n3_
         have HB := n4_
         clear n0_ n1_ n2_ n3_ n4_
         (try clear hb)
         (try clear hkp)
         (try clear hy0)
         refine hK.out _ _ ⟨HS0_, HS1_⟩ (fun hHeld => ?_)
         clear hK K
         refine norm_ (a' := ?_) ?_ ?_
         rotate_left
         ·show Act.put _ (some 80) _ = _
          simp only [Act.put, sz1, sz2, sz3, i64_w, i32_w]
          rfl
         refine pv 10 81 (mk_ 11 0) HT_ rfl rfl ?_
         refine done_ (done_of HT_.out (by kernel_rfl)) ?_
         try go_wp2
         (try simp only [<- hl0_1])
         go_roundg k1
         case measure => have := HK1.out; omega
         case rel => exact ⟨(t293), (wrap64 (x9_1 + 1)), ez, H', ⟨by have := HK1.out; omega⟩, ⟨by (try simp only [hl0_1]); refine rq ?_; exact HO_0.out⟩, ⟨by (try simp only [hl0_1]); refine rq ?_; exact HO_7.out⟩, ⟨by (try simp only [hl0_1]); refine rq ?_; exact HO_8.out⟩, ⟨by repeat (first | (with_reducible first | exact HK.out | apply Kept.alloc | apply Kept.drewN | apply Kept.drew) | exact HK.out)⟩, ⟨(bz0 HB.out)⟩⟩
        ·replace c37 := Bool.eq_false_iff.mpr c37
         subst c37
         have H1 := hq H
         clear H
         have H := H1
         clear H1
         simp only [Option.some.injEq, Prod.mk.injEq] at H
         obtain ⟨rfl, rfl⟩ := H
         obtain ⟨Ao42, co42, eo42⟩ := Kd.R_slice HO_7.out
         subst eo42
         try go_wp2
         have n0_ := Aside0.mk (Kd.R_drew HO_0.out)
         have n1_ := Aside0.mk (Kd.R_drew HO_7.out)
         have n2_ := Aside0.mk (Kd.R_drew HO_8.out)
         have n3_ := Aside0.mk (Kept.drew HK.out)
         have n4_ := Aside0.mk (below_drew1 HB.out)
         clear HO_0
         clear HO_7
         clear HO_8
         clear HK
         clear HB
         have HO_0 := n0_
         have HO_7 := n1_
         have HO_8 := n2_
         have HK := n3_
         have HB := n4_
         clear n0_ n1_ n2_ n3_ n4_
         have p290 : 0 <= (x9_1 : Int) := oz
         have q290 : x9_1 < (t283.length : Int) := oz
         obtain ⟨ad290, e290, hx290_0⟩ := Kd.at_int (Kd.R_reads' HO_7.out).2.2 x9_1 p290 q290
         cases e290
         replace p290 := eq_true p290
         replace q290 := eq_true q290
         obtain ⟨Ao44, co44, eo44⟩ := Kd.R_slice HO_8.out
         (first | subst eo44 | (injection eo44 with f1_ f2_ f3_; have f4_ := f1_.symm; have f5_ := f3_.symm; clear f1_ f2_ f3_; subst f4_; subst f5_))
         have p291 : 0 <= (x9_1 : Int) := oz
         have q291 : x9_1 < (t287.length : Int) := oz
         obtain ⟨ad291, e291, hx291_0⟩ := Kd.at_int (Kd.R_reads' HO_8.out).2.2 x9_1 p291 q291
         cases e291
         replace p291 := eq_true p291
         replace q291 := eq_true q291
         refine start_ (n := 11) (S := fun w' => w'.cell? (ad290.add (x9_1).toNat) = some (.int .i64 (rd t283 x9_1)) /\ w'.cell? (ad291.add (x9_1).toNat) = some (.int .i64 (rd t287 x9_1))) (ds := []) (mk_ 0 11) (by kernel_rfl) rfl rfl ⟨hx290_0, hx291_0⟩ (fun hHeld => ?_); refine with_tabW spec_l8Unify.tab19 spec_l8Unify.bits19 (fun HT_ HW_ => ?_)
         generalize wr.drew = w43 at HO_0 HO_7 HO_8 HK HB hx290_0 hx291_0 hHeld ⊢
         refine pv 0 71 (mk_ 1 10) HT_ rfl rfl ?_
         refine pv 1 72 (mk_ 2 9) HT_ rfl rfl ?_
         refine pv 2 73 (mk_ 3 8) HT_ rfl rfl ?_
         refine pv 3 74 (mk_ 4 7) HT_ rfl rfl ?_
         refine pv 5 76 (bm_ 11 47) HT_ rfl rfl ?_
         refine pv 6 77 (bm_ 11 111) HT_ rfl rfl ?_
         refine pv 7 78 (bm_ 11 239) HT_ rfl rfl ?_
         refine tv2 4 75 (mk_ 8 3) HT_ HW_ rfl rfl hHeld ?_
         refine tv2 8 79 (mk_ 9 2) HT_ HW_ rfl rfl hHeld ?_
         refine one_ (i := 9) (N := some 80) (mk_ 10 1) rfl rfl (one_of HT_.out (by kernel_rfl)) (by decide) (fun K hK => ?_)
         refine goes_ Tryd.func75 (by kernel_rfl) rfl #[.slice (some ad274) x0_1.length co29, .int .i64 (rd t283 x9_1), .int .i64 (rd t287 x9_1)] (by rfl) rfl rfl lz ?_
         with_reducible refine (ih k1 (by have := HK1.out; omega) (fun k_ => some k_ = (.slice (some ad274) x0_1.length co29 : Value).ownBlock) (.slice (some ad274) x0_1.length co29) x0_1 (rd t283 x9_1) (rd t287 x9_1) false t293 w0 _ ?side1 ?side2 A36.out).mono ?_
         (case side1 => repeat (first | (with_reducible first | exact HB.out | apply below_alloc | apply pw_below_drewN | apply below_drew1) | exact HB.out))
         (case side2 => exact Kd.R_tight rfl HO_0.out)
         rintro e w45 ⟨rfl, hy0, hb, hkp⟩
         have HS0_ := cell_kept (hHeld.1) hkp (by first | (rw [add_block]; exact (fun hs_ => ((((Kd.R_apart' HO_7.out (Kd.R_typed HO_0.out) (by decide))).1 _ rfl).2) hs_)) | (show ¬ _; simp only [add_block]; exact (fun hs_ => ((((Kd.R_apart' HO_7.out (Kd.R_typed HO_0.out) (by decide))).1 _ rfl).2) hs_)) | exact (fun hs_ => ((((Kd.R_apart' HO_7.out (Kd.R_typed HO_0.out) (by decide))).1 _ rfl).2) hs_))
         have HS1_ := cell_kept (hHeld.2) hkp (by first | (rw [add_block]; exact (fun hs_ => ((((Kd.R_apart' HO_8.out (Kd.R_typed HO_0.out) (by decide))).1 _ rfl).2) hs_)) | (show ¬ _; simp only [add_block]; exact (fun hs_ => ((((Kd.R_apart' HO_8.out (Kd.R_typed HO_0.out) (by decide))).1 _ rfl).2) hs_)) | exact (fun hs_ => ((((Kd.R_apart' HO_8.out (Kd.R_typed HO_0.out) (by decide))).1 _ rfl).2) hs_))
         refine ⟨_, rfl, ?_⟩
         have n0_ := Aside0.mk (Kd.R_reok rfl hy0 (fun k_ e_ => HO_0.out.1 k_ e_))
         have n1_ := Aside0.mk (Kd.R_mono (ok' := fun k_ => (P0_ k_ \/ w.heap.size <= k_) /\ some k_ ≠ (.slice (some ad291) t287.length co44 : Value).ownBlock) (Kd.R_keptB ((Kd.R_apart' HO_7.out (Kd.R_typed HO_0.out) (by decide))) hkp (fun k_ hk_ hs_ => by with_reducible first | exact absurd hs_ hk_.2 | exact absurd hs_ hk_ | exact absurd hs_ hk_.1 | exact absurd hs_ hk_.2 | exact absurd hs_ hk_.1.1 | exact absurd hs_ hk_.1.2)) (fun k_ hk_ => by first | exact ⟨hk_.1.1.1, hk_.1.1.2⟩ | (with_reducible (refine ⟨?_, ?_⟩ <;> first | exact hk_.1 | exact hk_.1.1 | exact hk_.1.2 | exact hk_.1.1.1 | exact hk_.1.1.2 | exact hk_.2.1 | exact hk_.1.2.1 | exact hk_.1.2.2))))
         have n2_ := Aside0.mk (Kd.R_mono (ok' := fun k_ => (P0_ k_ \/ w.heap.size <= k_) /\ some k_ ≠ (.slice (some ad290) t283.length co42 : Value).ownBlock) (Kd.R_keptB ((Kd.R_apart' HO_8.out (Kd.R_typed HO_0.out) (by decide))) hkp (fun k_ hk_ hs_ => by with_reducible first | exact absurd hs_ hk_.2 | exact absurd hs_ hk_ | exact absurd hs_ hk_.1 | exact absurd hs_ hk_.2 | exact absurd hs_ hk_.1.1 | exact absurd hs_ hk_.1.2)) (fun k_ hk_ => by first | exact ⟨hk_.1.1.1, hk_.1.1.2⟩ | (with_reducible (refine ⟨?_, ?_⟩ <;> first | exact hk_.1 | exact hk_.1.1 | exact hk_.1.2 | exact hk_.1.1.1 | exact hk_.1.1.2 | exact hk_.2.1 | exact hk_.1.2.1 | exact hk_.1.2.2))))
         have n3_ := Aside0.mk (Kept.then_ (S := (fun k_ => P0_ k_)) (by repeat (first | (with_reducible first | exact HK.out | apply Kept.alloc | apply Kept.drewN | apply Kept.drew) | exact HK.out)) hkp (fun k_ hs_ => (fun e_ => (HO_0.out.1 k_ e_.symm)) hs_))
         have n4_ := Aside0.mk (hb)
         clear HO_0
         clear HO_7
         clear HO_8
         clear HK
         clear HB
         have HO_0 := n0_
         have HO_7 := n1_
         have HO_8 := n2_
         have HK := n3_
         have HB := n4_
         clear n0_ n1_ n2_ n3_ n4_
         (try clear hb)
         (try clear hkp)
         (try clear hy0)
         refine hK.out _ _ ⟨HS0_, HS1_⟩ (fun hHeld => ?_)
         clear hK K
         refine norm_ (a' := ?_) ?_ ?_
         rotate_left
         ·show Act.put _ (some 80) _ = _
          simp only [Act.put, sz1, sz2, sz3, i64_w, i32_w]
          rfl
         refine pv 10 81 (mk_ 11 0) HT_ rfl rfl ?_
         refine done_ (done_of HT_.out (by kernel_rfl)) ?_
         try go_wp2
         go_ret
         exact ⟨gz, (by first | exact (rz HO_0.out) | (simp only [hl0_1]; exact (rz HO_0.out))), (bz0 HB.out), by repeat (first | (with_reducible first | exact HK.out | apply Kept.alloc | apply Kept.drewN | apply Kept.drew) | exact HK.out)⟩
       ·rw [if_neg c33] at H
        have c33b0 := decide_eq_false c33
        clear c33
        simp only [Option.some.injEq, Prod.mk.injEq] at H
        obtain ⟨rfl, rfl⟩ := H
        obtain ⟨Ao46, co46, eo46⟩ := Kd.R_slice HO_7.out
        subst eo46
        go_wp2
        go_ret
        exact ⟨gz, (by first | exact (rz HO_0.out) | (simp only [hl0_1]; exact (rz HO_0.out))), (bz0 HB.out), by repeat (first | (with_reducible first | exact HK.out | apply Kept.alloc | apply Kept.drewN | apply Kept.drew) | exact HK.out)⟩
    ·rw [if_neg c26] at H
     have c26b0 : (((rd_T55 l0 t272).f0) == ((rd_T55 l0 t273).f0)) = false := beq_eq_false_iff_ne.mpr c26
     have c26b1 : (((rd_T55 l0 t272).f0) != ((rd_T55 l0 t273).f0)) = true := bne_iff_ne.mpr c26
     simp only [Option.some.injEq, Prod.mk.injEq] at H
     obtain ⟨rfl, rfl⟩ := H
     obtain ⟨Ao47, co47, eo47⟩ := Kd.R_slice HO0.out
     subst eo47
     go_enter Tryd.func75, Tryd.ntmps75
     try go_wp2_with (first | ((with_reducible refine gate_callee (f := 81) rfl ?_); refine goesL_ (some 12) rfl rfl Tryd.func81 (by kernel_rfl) rfl #[.slice Ao47 l0.length co47, .int .i64 a1] rfl lz ?_; (with_reducible refine (spec_l8Find.calls k _ _ l0 a1 t272 _ ?side1 ?side2 A4.out).mono ?_); (case side1 => exact cz (Kd.R_reads' HO0.out).2.2); (case side2 => exact (Kd.R_reads' HO0.out).2.1); rintro e w' ⟨rfl, ⟨nd, rfl⟩⟩; refine ⟨_, rfl, ?_⟩) | ((with_reducible refine gate_callee (f := 81) rfl ?_); refine goesL_ (some 15) rfl rfl Tryd.func81 (by kernel_rfl) rfl #[.slice Ao47 l0.length co47, .int .i64 a2] rfl lz ?_; (with_reducible refine (spec_l8Find.calls k _ _ l0 a2 t273 _ ?side1 ?side2 A5.out).mono ?_); (case side1 => exact cz (Kd.R_reads' HO0.out).2.2); (case side2 => exact (Kd.R_reads' HO0.out).2.1); rintro e w' ⟨rfl, ⟨nd, rfl⟩⟩; refine ⟨_, rfl, ?_⟩; have p274 : 0 <= (t272 : Int) := oz; have q274 : t272 < (l0.length : Int) := oz; obtain ⟨ad274, e274, hx274_0, hx274_1, hx274_2⟩ := at_T55 (Kd.R_reads' HO0.out).2.2 t272 p274 q274; cases e274; replace p274 := eq_true p274; replace q274 := eq_true q274; have p277 : 0 <= (t273 : Int) := oz; have q277 : t273 < (l0.length : Int) := oz; obtain ⟨ad277, e277, hx277_0, hx277_1, hx277_2⟩ := at_T55 (Kd.R_reads' HO0.out).2.2 t273 p277 q277; obtain rfl : ad274 = ad277 := (by injection e277); replace p277 := eq_true p277; replace q277 := eq_true q277))
     (try (rw [drewN_self w]; generalize hq_ : World.drewN w _ = wv; have n0_ : Aside0 (Kd.R k55 55 wv w0.heap.size (fun k_ => (P0_ k_ \/ w.heap.size <= k_)) (.slice (some ad274) l0.length co47) l0) := ⟨by rw [<- hq_]; exact (rz HO0.out)⟩; have n1_ : Aside0 (Kept w wv (fun k_ => P0_ k_)) := ⟨by rw [<- hq_]; exact (by repeat (first | (with_reducible first | exact HK.out | apply Kept.alloc | apply Kept.drewN | apply Kept.drew) | exact HK.out))⟩; have n2_ : Aside0 (Below w0.heap.size w0 wv) := ⟨by rw [<- hq_]; exact (bz0 HB.out)⟩; clear HO0 HK HB hq_; have HO0 := n0_; have HK := n1_; have HB := n2_; clear n0_ n1_ n2_))
     have n0_ := Aside0.mk (Kd.R_drew HO0.out)
     have n1_ := Aside0.mk (Kept.drew HK.out)
     have n2_ := Aside0.mk (below_drew1 HB.out)
     clear HO0
     clear HK
     clear HB
     have HO0 := n0_
     have HK := n1_
     have HB := n2_
     clear n0_ n1_ n2_
     have p280 : 0 <= (t272 : Int) := oz
     have q280 : t272 < (l0.length : Int) := oz
     obtain ⟨ad280, e280, hx280_0, hx280_1, hx280_2⟩ := at_T55 (Kd.R_reads' HO0.out).2.2 t272 p280 q280
     obtain rfl : ad274 = ad280 := (by injection e280)
     replace p280 := eq_true p280
     replace q280 := eq_true q280
     have p281 : 0 <= (t273 : Int) := oz
     have q281 : t273 < (l0.length : Int) := oz
     obtain ⟨ad281, e281, hx281_0, hx281_1, hx281_2⟩ := at_T55 (Kd.R_reads' HO0.out).2.2 t273 p281 q281
     obtain rfl : ad274 = ad281 := (by injection e281)
     replace p281 := eq_true p281
     replace q281 := eq_true q281
     refine start_ (n := 11) (S := fun w' => w'.cell? (ad274.add ((t272).toNat * 3)) = some (.int .i64 ((rd_T55 l0 t272).f0)) /\ w'.cell? ⟨(ad274.add ((t272).toNat * 3)).block, (ad274.add ((t272).toNat * 3)).off + 1, none⟩ = some (.int .i64 ((rd_T55 l0 t272).f1)) /\ w'.cell? ⟨(ad274.add ((t272).toNat * 3)).block, (ad274.add ((t272).toNat * 3)).off + 2, none⟩ = some (.int .i64 ((rd_T55 l0 t272).f2)) /\ w'.cell? (ad274.add ((t273).toNat * 3)) = some (.int .i64 ((rd_T55 l0 t273).f0)) /\ w'.cell? ⟨(ad274.add ((t273).toNat * 3)).block, (ad274.add ((t273).toNat * 3)).off + 1, none⟩ = some (.int .i64 ((rd_T55 l0 t273).f1)) /\ w'.cell? ⟨(ad274.add ((t273).toNat * 3)).block, (ad274.add ((t273).toNat * 3)).off + 2, none⟩ = some (.int .i64 ((rd_T55 l0 t273).f2))) (ds := []) (mk_ 0 11) (by kernel_rfl) rfl rfl ⟨hx280_0, hx280_1, hx280_2, hx281_0, hx281_1, hx281_2⟩ (fun hHeld => ?_); refine with_tabW spec_l8Unify.tab12 spec_l8Unify.bits12 (fun HT_ HW_ => ?_)
     generalize wv.drew = w48 at HO0 HK HB hx280_0 hx280_1 hx280_2 hx281_0 hx281_1 hx281_2 hHeld ⊢
     refine pv 0 44 (mk_ 1 10) HT_ rfl rfl ?_
     refine pv 1 45 (mk_ 2 9) HT_ rfl rfl ?_
     refine pv 2 46 (mk_ 3 8) HT_ rfl rfl ?_
     refine pv 3 47 (mk_ 4 7) HT_ rfl rfl ?_
     refine pv 5 49 (bm_ 11 47) HT_ rfl rfl ?_
     refine pv 6 50 (bm_ 11 111) HT_ rfl rfl ?_
     refine pv 7 51 (bm_ 11 239) HT_ rfl rfl ?_
     refine pv 8 52 (bm_ 11 495) HT_ rfl rfl ?_
     refine tv6 4 48 (mk_ 9 2) HT_ HW_ rfl rfl hHeld ?_
     refine tv6 9 53 (mk_ 10 1) HT_ HW_ rfl rfl hHeld ?_
     refine pv 10 54 (mk_ 11 0) HT_ rfl rfl ?_
     refine done_ (done_of HT_.out (by kernel_rfl)) ?_
     try go_wp2
     go_ret
     exact ⟨gz, by refine rq ?_; exact HO0.out, (bz0 HB.out), by repeat (first | (with_reducible first | exact HK.out | apply Kept.alloc | apply Kept.drewN | apply Kept.drew) | exact HK.out)⟩
end Go.Proofs.YtlhofeikcaejpaaDoor.PFnExactUnified
