/- PFnExactUnifiedx10, of the words and walks that the law FnExactUnified needs; made by this session's program out of printed texts. -/

import Derived.Test.YtlhofeikcaejpaaDoorVEUnifiedPx0
import Derived.Test.YtlhofeikcaejpaaDoorVEUnifiedPx7
import Derived.Test.YtlhofeikcaejpaaDoorVEUnifiedPx9
namespace Go.Proofs.YtlhofeikcaejpaaDoor.PFnExactUnified
open Go.RowKit Go.Proofs.YtlhofeikcaejpaaDoorW.PrintWords Go.Proofs.YtlhofeikcaejpaaDoorW.PrintLast Go.Proofs.YtlhofeikcaejpaaDoorW.PrintMore
attribute [local go_sem] max2_int min2_int max_two min_two max_three min_three max_four min_four
set_option linter.unusedVariables false
set_option linter.unusedSimpArgs false
mutual
def spec_l8Show.l0 : Nat -> Int -> List Int -> Int -> Option (ByteArray × List Int)
 | 0, _, _, _ => none
 | k + 1, x1, x2, x8 => if x8 < (x2.length : Int) then (if 0 <= x8 then (if (rd x2 x8) = x1 then ((spec_Dec.f k x8).bind fun t236 => (if 1 + t236.size <= 9223372036854775807 then (some ((⟨#[39]⟩ : ByteArray) ++ t236, x2)) else (none))) else (spec_l8Show.l0 k x1 x2 (wrap64 (x8 + 1)))) else (none)) else ((spec_Dec.f k (x2.length : Int)).bind fun t237 => (if 1 + t237.size <= 9223372036854775807 then ((some (([] : List Int) : List Int)).bind fun y238 => (if y238.length + x2.length < 17592186044416 then ((some (y238 ++ x2 : List Int)).bind fun y241 => (if y241.length < 17592186044416 then (some ((⟨#[39]⟩ : ByteArray) ++ t237, (y241 ++ [x1]))) else (none))) else (none))) else (none)))
def spec_l8Show.j1 : Nat -> List (S55) -> Int -> List Int -> Bool -> Option (ByteArray × List Int)
 | 0, _, _, _, _ => none
 | k + 1, x0, x1, x2, x54 => if x54 = true then (if 0 <= x1 then (if x1 < (x0.length : Int) then ((spec_l8Show.f k x0 ((rd_T55 x0 x1).f1) x2).bind fun bt248 => (if ((rd_T55 x0 x1).f0) = 5 then (if 5 + bt248.1.size <= 9223372036854775807 then (if ((⟨#[40, 114, 101, 102, 32]⟩ : ByteArray) ++ bt248.1).size + 1 <= 9223372036854775807 then (some (((⟨#[40, 114, 101, 102, 32]⟩ : ByteArray) ++ bt248.1) ++ (⟨#[41]⟩ : ByteArray), bt248.2)) else (none)) else (none)) else (if 6 + bt248.1.size <= 9223372036854775807 then (if ((⟨#[40, 108, 105, 115, 116, 32]⟩ : ByteArray) ++ bt248.1).size + 1 <= 9223372036854775807 then (some (((⟨#[40, 108, 105, 115, 116, 32]⟩ : ByteArray) ++ bt248.1) ++ (⟨#[41]⟩ : ByteArray), bt248.2)) else (none)) else (none)))) else (none)) else (none)) else (if 0 <= x1 then (if x1 < (x0.length : Int) then ((spec_l8Show.f k x0 ((rd_T55 x0 x1).f1) x2).bind fun bt254 => ((spec_l8Show.f k x0 ((rd_T55 x0 x1).f2) bt254.2).bind fun bt259 => (if ((rd_T55 x0 x1).f0) = 2 then (if 1 + bt254.1.size <= 9223372036854775807 then (if ((⟨#[40]⟩ : ByteArray) ++ bt254.1).size + 4 <= 9223372036854775807 then (if (((⟨#[40]⟩ : ByteArray) ++ bt254.1) ++ (⟨#[32, 45, 62, 32]⟩ : ByteArray)).size + bt259.1.size <= 9223372036854775807 then (if ((((⟨#[40]⟩ : ByteArray) ++ bt254.1) ++ (⟨#[32, 45, 62, 32]⟩ : ByteArray)) ++ bt259.1).size + 1 <= 9223372036854775807 then (some (((((⟨#[40]⟩ : ByteArray) ++ bt254.1) ++ (⟨#[32, 45, 62, 32]⟩ : ByteArray)) ++ bt259.1) ++ (⟨#[41]⟩ : ByteArray), bt259.2)) else (none)) else (none)) else (none)) else (none)) else (if 1 + bt254.1.size <= 9223372036854775807 then (if ((⟨#[40]⟩ : ByteArray) ++ bt254.1).size + 3 <= 9223372036854775807 then (if (((⟨#[40]⟩ : ByteArray) ++ bt254.1) ++ (⟨#[32, 42, 32]⟩ : ByteArray)).size + bt259.1.size <= 9223372036854775807 then (if ((((⟨#[40]⟩ : ByteArray) ++ bt254.1) ++ (⟨#[32, 42, 32]⟩ : ByteArray)) ++ bt259.1).size + 1 <= 9223372036854775807 then (some (((((⟨#[40]⟩ : ByteArray) ++ bt254.1) ++ (⟨#[32, 42, 32]⟩ : ByteArray)) ++ bt259.1) ++ (⟨#[41]⟩ : ByteArray), bt259.2)) else (none)) else (none)) else (none)) else (none))))) else (none)) else (none))
def spec_l8Show.f : Nat -> List (S55) -> Int -> List Int -> Option (ByteArray × List Int)
 | 0, _, _, _ => none
 | k + 1, l0, a1, l2 => (spec_l8Find.f k l0 a1).bind fun t233 => (if 0 <= t233 then (if t233 < (l0.length : Int) then (if ((rd_T55 l0 t233).f0) = 0 then (spec_l8Show.l0 k t233 l2 0) else (if ((rd_T55 l0 t233).f0) = 1 then (some ((⟨#[105, 110, 116]⟩ : ByteArray), l2)) else (if ((rd_T55 l0 t233).f0) = 4 then (spec_l8Show.j1 k l0 t233 l2 (((rd_T55 l0 t233).f0) == 4)) else (spec_l8Show.j1 k l0 t233 l2 (((rd_T55 l0 t233).f0) == 5))))) else (none)) else (none))
end
theorem spec_l8Show.mono_l : ∀ k, (∀ y0 y1 y2, LeO (spec_l8Show.f k y0 y1 y2) (spec_l8Show.f (k + 1) y0 y1 y2)) /\ (∀ y0 y1 y2, LeO (spec_l8Show.l0 k y0 y1 y2) (spec_l8Show.l0 (k + 1) y0 y1 y2)) /\ (∀ y0 y1 y2 y3, LeO (spec_l8Show.j1 k y0 y1 y2 y3) (spec_l8Show.j1 (k + 1) y0 y1 y2 y3))
 | 0 => ⟨fun _ _ _ r h => by simp [spec_l8Show.f] at h, fun _ _ _ r h => by simp [spec_l8Show.l0] at h, fun _ _ _ _ r h => by simp [spec_l8Show.j1] at h⟩
 | k + 1 => by
  obtain ⟨ih0, ih1, ih2⟩ := spec_l8Show.mono_l k
  refine ⟨?_, ?_, ?_⟩
  ·intro y0 y1 y2
   unfold spec_l8Show.f
   with_reducible repeat' first | exact ih0 _ _ _ | exact ih1 _ _ _ | exact ih2 _ _ _ _ | exact spec_Dec.mono _ _ | exact spec_l8Find.mono _ _ _ | exact lrz _ | exact lnz _ | refine liz ?_ ?_ | refine lbz ?_ fun _ => ?_
  ·intro y0 y1 y2
   unfold spec_l8Show.l0
   with_reducible repeat' first | exact ih0 _ _ _ | exact ih1 _ _ _ | exact ih2 _ _ _ _ | exact spec_Dec.mono _ _ | exact spec_l8Find.mono _ _ _ | exact lrz _ | exact lnz _ | refine liz ?_ ?_ | refine lbz ?_ fun _ => ?_
  ·intro y0 y1 y2 y3
   unfold spec_l8Show.j1
   with_reducible repeat' first | exact ih0 _ _ _ | exact ih1 _ _ _ | exact ih2 _ _ _ _ | exact spec_Dec.mono _ _ | exact spec_l8Find.mono _ _ _ | exact lrz _ | exact lnz _ | refine liz ?_ ?_ | refine lbz ?_ fun _ => ?_
theorem spec_l8Show.mono : ∀ a0 a1 a2 k, LeO (spec_l8Show.f k a0 a1 a2) (spec_l8Show.f (k + 1) a0 a1 a2) := by
 intro a0 a1 a2 k
 obtain ⟨ih0, ih1, ih2⟩ := spec_l8Show.mono_l k
 exact ih0 a0 a1 a2
set_option maxHeartbeats 8000000 in
set_option maxRecDepth 100000 in
theorem spec_l8Show.calls (k : Nat) : ∀ (A0 : Option Addr) (c0 : Nat) (l0 : List (S55)) (a1 : Int) (P2_ : Nat -> Prop) (u9000_ : Value) (l2 : List Int) (r1 : ByteArray) (r2 : List Int) (w0 w : World) (hB : Below w0.heap.size w0 w) (hr0 : ∀ W_, Kept w W_ (fun k_ => P2_ k_) -> Kd.C k55 W_ A0 l0.length l0) (hc0 : l0.length <= c0) (ho2 : Kd.R (Kd.int .i64) 3 w w0.heap.size P2_ u9000_ l2) (h : spec_l8Show.f k l0 a1 l2 = some (r1, r2)),
  Calls Tryd.prog 57 #[.slice A0 l0.length c0, .int .i64 a1, u9000_] w fun e w' => ∃ v1_ : Value, e = .returned (.tuple #[.string r1, v1_]) /\ Kd.R (Kd.int .i64) 3 w' w0.heap.size (fun k_ => (P2_ k_ \/ w.heap.size <= k_)) v1_ r2 /\ Below w0.heap.size w0 w' /\ Kept w w' (fun k_ => P2_ k_) := by
 induction k using Nat.strongRecOn with
 | _ k ih =>
 intro A0 c0 l0 a1 P2_ u9000_ l2 r1 r2 w0 w hB hr0 hc0 ho2 h
 cases k with
 | zero => exact absurd h (by simp [spec_l8Show.f])
 | succ k =>
 simp only [spec_l8Show.f] at h
 have HR0 := Aside0.mk hr0
 have HC0 := Aside0.mk hc0
 clear hr0 hc0
 have HO2 := Aside0.mk (show Kd.R (Kd.int .i64) 3 w w0.heap.size (fun k_ => (P2_ k_ \/ w.heap.size <= k_)) u9000_ l2 from Kd.R_mono ho2 (fun k_ hk => (.inl hk)))
 have HK := Aside0.mk (Kept.refl w (fun k_ => P2_ k_))
 have HW0 := Aside0.mk hB.size
 have HB := Aside0.mk hB
 clear hB
 have H : ((spec_l8Find.f k l0 a1).bind fun t233 => (if 0 <= t233 then (if t233 < (l0.length : Int) then (if ((rd_T55 l0 t233).f0) = 0 then (spec_l8Show.l0 k t233 l2 0) else (if ((rd_T55 l0 t233).f0) = 1 then (some ((⟨#[105, 110, 116]⟩ : ByteArray), l2)) else (if ((rd_T55 l0 t233).f0) = 4 then (spec_l8Show.j1 k l0 t233 l2 (((rd_T55 l0 t233).f0) == 4)) else (spec_l8Show.j1 k l0 t233 l2 (((rd_T55 l0 t233).f0) == 5))))) else (none)) else (none))) = some (r1, r2) := h
 clear h
 replace H := bi H
 obtain ⟨t233, A40, H⟩ := H
 try dsimp only at H
 have A4 := Aside0.mk A40
 clear A40
 replace H := iz H
 obtain ⟨c5, H⟩ := H
 have c5b0 := decide_eq_true c5
 clear c5
 replace H := iz H
 obtain ⟨c6, H⟩ := H
 have c6b0 := decide_eq_true c6
 clear c6
 by_cases c7 : ((rd_T55 l0 t233).f0) = 0
 ·rw [if_pos c7] at H
  have c7b0 : (((rd_T55 l0 t233).f0) == 0) = true := beq_iff_eq.mpr c7
  have c7b1 : (((rd_T55 l0 t233).f0) != 0) = false := bne_eq_false_iff_eq.mpr c7
  clear c7
  have H' := Aside0.mk H
  clear H
  go_enter Tryd.func57, Tryd.ntmps57
  go_wp2_with (first | ((with_reducible refine gate_callee (f := 81) rfl ?_); refine goesL_ (some 17) rfl rfl Tryd.func81 (by kernel_rfl) rfl #[.slice A0 l0.length c0, .int .i64 a1] rfl lz ?_; (with_reducible refine (spec_l8Find.calls k _ _ l0 a1 t233 _ ?side1 ?side2 A4.out).mono ?_); (case side1 => exact Kd.C_kept_now HR0.out (by repeat (first | (with_reducible first | exact HK.out | apply Kept.alloc | apply Kept.drewN | apply Kept.drew) | exact HK.out))); (case side2 => exact HC0.out); rintro e w' ⟨rfl, ⟨nd, rfl⟩⟩; refine ⟨_, rfl, ?_⟩; have p234 : 0 <= (t233 : Int) := oz; have q234 : t233 < (l0.length : Int) := oz; obtain ⟨ad234, e234, hx234_0, hx234_1, hx234_2⟩ := at_T55 (Kd.C_kept_now HR0.out HK.out) t233 p234 q234; cases e234; replace p234 := eq_true p234; replace q234 := eq_true q234))
  go_loopg [8] k (fun kq v8 w' => ∃ (x8_1 : Int), v8 = .int .i64 x8_1 /\ Aside0 (spec_l8Show.l0 kq t233 l2 x8_1 = some (r1, r2)) /\ Aside0 (kq <= k) /\ Aside0 (Kd.R (Kd.int .i64) 3 w' w0.heap.size (fun k_ => (P2_ k_ \/ w.heap.size <= k_)) u9000_ l2) /\ Aside0 (Kept w w' (fun k_ => P2_ k_)) /\ Aside0 (Below w0.heap.size w0 w'))
  case atStart => exact ⟨(0), ez, H', ⟨Nat.le_refl _⟩, ⟨by refine rq ?_; exact HO2.out⟩, ⟨by repeat (first | (with_reducible first | exact HK.out | apply Kept.alloc | apply Kept.drewN | apply Kept.drew) | exact HK.out)⟩, ⟨(bz0 HB.out)⟩⟩
  case round =>
   clear H'
   try clear p2
   try clear q2
   try clear hx2
   try clear c5
   try clear c5b0
   try clear c6
   try clear c6b0
   try clear c7
   try clear c7b0
   try clear c7b1
   try clear hx234_0
   try clear hx234_1
   try clear hx234_2
   try clear p234
   try clear q234
   obtain ⟨x8_1, rfl, HA, HK1, HO_2, HK, HB⟩ := hrel
   cases gk with
   | zero => exact absurd HA.out (by simp [spec_l8Show.l0])
   | succ k1 =>
    have H := HA.out
    clear HA
    simp only [spec_l8Show.l0] at H
    by_cases c8 : x8_1 < (l2.length : Int)
    ·rw [if_pos c8] at H
     have c8b0 := decide_eq_true c8
     clear c8
     replace H := iz H
     obtain ⟨c9, H⟩ := H
     have c9b0 := decide_eq_true c9
     clear c9
     by_cases c10 : (rd l2 x8_1) = t233
     ·rw [if_pos c10] at H
      have c10b0 : ((rd l2 x8_1) == t233) = true := beq_iff_eq.mpr c10
      have c10b1 : ((rd l2 x8_1) != t233) = false := bne_eq_false_iff_eq.mpr c10
      clear c10
      replace H := bi H
      obtain ⟨t236, A110, H⟩ := H
      try dsimp only at H
      have A11 := Aside0.mk A110
      clear A110
      replace H := iz H
      obtain ⟨c12, H⟩ := H
      have c12b0 := eq_true c12
      have c12b1 : decide (1 + t236.size <= 9223372036854775807) = true := decide_eq_true c12
      try have c12b2 : (9223372036854775807 < 1 + t236.size) = False := eq_false (Nat.not_lt.2 c12)
      simp only [Option.some.injEq, Prod.mk.injEq] at H
      obtain ⟨rfl, rfl⟩ := H
      obtain ⟨Ao13, co13, eo13⟩ := Kd.R_slice HO_2.out
      subst eo13
      have p235 : 0 <= (x8_1 : Int) := oz
      have q235 : x8_1 < (l2.length : Int) := oz
      obtain ⟨ad235, e235, hx235_0⟩ := Kd.at_int (Kd.R_reads' HO_2.out).2.2 x8_1 p235 q235
      cases e235
      replace p235 := eq_true p235
      replace q235 := eq_true q235
      go_wp2_with (first | ((with_reducible refine gate_callee (f := 83) rfl ?_); refine goesL_ (some 38) rfl rfl Tryd.func83 (by kernel_rfl) rfl #[.int .i64 x8_1] rfl lz ?_; (with_reducible refine (spec_Dec.calls k1 x8_1 t236 _ A11.out).mono ?_); rintro e w14 ⟨rfl, hb⟩; refine ⟨_, rfl, ?_⟩; replace HO_2 := qz HO_2 hb; replace HK := Aside0.mk (Kept.below (S := (fun k_ => P2_ k_)) (by repeat (first | (with_reducible first | exact HK.out | apply Kept.alloc | apply Kept.drewN | apply Kept.drew) | exact HK.out)) hb); replace HB := Aside0.mk (below_step (bz0 HB.out) hb); (try clear hb); (try clear hi)))
      go_ret2
      exact ⟨_, gz, by refine rq ?_; exact HO_2.out, (bz0 HB.out), by repeat (first | (with_reducible first | exact HK.out | apply Kept.alloc | apply Kept.drewN | apply Kept.drew) | exact HK.out)⟩
     ·rw [if_neg c10] at H
      have c10b0 : ((rd l2 x8_1) == t233) = false := beq_eq_false_iff_ne.mpr c10
      have c10b1 : ((rd l2 x8_1) != t233) = true := bne_iff_ne.mpr c10
      have H' := Aside0.mk H
      clear H
      obtain ⟨Ao15, co15, eo15⟩ := Kd.R_slice HO_2.out
      subst eo15
      have p235 : 0 <= (x8_1 : Int) := oz
      have q235 : x8_1 < (l2.length : Int) := oz
      obtain ⟨ad235, e235, hx235_0⟩ := Kd.at_int (Kd.R_reads' HO_2.out).2.2 x8_1 p235 q235
      cases e235
      replace p235 := eq_true p235
      replace q235 := eq_true q235
      go_wp2
      go_roundg k1
      case measure => have := HK1.out; omega
      case rel => exact ⟨(wrap64 (x8_1 + 1)), ez, H', ⟨by have := HK1.out; omega⟩, ⟨by refine rq ?_; exact HO_2.out⟩, ⟨by repeat (first | (with_reducible first | exact HK.out | apply Kept.alloc | apply Kept.drewN | apply Kept.drew) | exact HK.out)⟩, ⟨(bz0 HB.out)⟩⟩
    ·rw [if_neg c8] at H
     have c8b0 := decide_eq_false c8
     clear c8
     replace H := bi H
     obtain ⟨t237, A160, H⟩ := H
     try dsimp only at H
     have A16 := Aside0.mk A160
     clear A160
     replace H := iz H
     obtain ⟨c17, H⟩ := H
     have c17b0 := eq_true c17
     have c17b1 : decide (1 + t237.size <= 9223372036854775807) = true := decide_eq_true c17
     try have c17b2 : (9223372036854775807 < 1 + t237.size) = False := eq_false (Nat.not_lt.2 c17)
     obtain ⟨y238, hy238⟩ : ∃ y_ : List Int, y_ = (([] : List Int)) := ⟨_, rfl⟩
     replace H : (if y238.length + l2.length < 17592186044416 then ((some (y238 ++ l2 : List Int)).bind fun y241 => (if y241.length < 17592186044416 then (some ((⟨#[39]⟩ : ByteArray) ++ t237, (y241 ++ [t233]))) else (none))) else (none)) = some (r1, r2) := yz hy238 H
     have Ny238 := Aside0.mk hy238
     clear hy238
     replace H := iz H
     obtain ⟨c18, H⟩ := H
     have LMc18 := Aside0.mk c18
     clear c18
     obtain ⟨y241, hy241⟩ : ∃ y_ : List Int, y_ = (y238 ++ l2) := ⟨_, rfl⟩
     replace H : (if y241.length < 17592186044416 then (some ((⟨#[39]⟩ : ByteArray) ++ t237, (y241 ++ [t233]))) else (none)) = some (r1, r2) := yz hy241 H
     have Ny241 := Aside0.mk hy241
     clear hy241
     replace H := iz H
     obtain ⟨c19, H⟩ := H
     have LMc19 := Aside0.mk c19
     clear c19
     obtain ⟨y244, hy244⟩ : ∃ y_ : List Int, y_ = (y241 ++ [t233]) := ⟨_, rfl⟩
     replace H : (some ((⟨#[39]⟩ : ByteArray) ++ t237, y244)) = some (r1, r2) := yz hy244 H
     have Ny244 := Aside0.mk hy244
     clear hy244
     simp only [Option.some.injEq, Prod.mk.injEq] at H
     obtain ⟨rfl, rfl⟩ := H
     obtain ⟨Ao20, co20, eo20⟩ := Kd.R_slice HO_2.out
     subst eo20
     go_wp2_with (first | ((with_reducible refine gate_callee (f := 83) rfl ?_); refine goesL_ (some 43) rfl rfl Tryd.func83 (by kernel_rfl) rfl #[.int .i64 (l2.length : Int)] rfl lz ?_; (with_reducible refine (spec_Dec.calls k1 (l2.length : Int) t237 _ A16.out).mono ?_); rintro e w21 ⟨rfl, hb⟩; refine ⟨_, rfl, ?_⟩; replace HO_2 := qz HO_2 hb; replace HK := Aside0.mk (Kept.below (S := (fun k_ => P2_ k_)) (by repeat (first | (with_reducible first | exact HK.out | apply Kept.alloc | apply Kept.drewN | apply Kept.drew) | exact HK.out)) hb); replace HB := Aside0.mk (below_step (bz0 HB.out) hb); (try clear hb); (try clear hk); (try clear hi)) | ((with_reducible refine gate_dst (N := 45) rfl ?_); refine Kd.R_lit (Kd.int .i64) _ 3 ?hg (N := 45) ?hd (xs := ([] : List Int)) (inner := []) (ok := fun _ => True) (okp := fun _ => True) ?hr ?hp (fun _ hk => hk) trivial (Below.refl _ _) (Nat.le_refl _) (by simp) ?_; (case hd => rfl); (case hg => rfl); (case hr => exact vz); (case hp => exact (Reps.none _ _)); intro v239 w22 ho23 hb hg_ hnew_; clear hg_ hnew_; (first | rw [<- Ny238.out] at ho23 | (simp only [Int.reduceToNat] at ho23; rw [<- Ny238.out] at ho23)); have HO240 := Aside0.mk (Kd.R_lower (Kd.R_new' (Kd.R_newM (M := fun k_ => (P2_ k_ \/ w.heap.size <= k_)) ho23 (by first | exact HK.out.1 | exact (show Kept w _ (fun k_ => P2_ k_) from by repeat (first | (with_reducible first | exact HK.out | apply Kept.alloc | apply Kept.drewN | apply Kept.drew) | exact HK.out)).1) (fun k_ h_ => .inr h_)) (Kd.R_lt (rz HO_2.out))) (below_size (bz0 HB.out))); replace HO_2 := Aside0.mk (Kd.R_elder' (rz HO_2.out) (Kd.R_base ho23) hb); replace HK := Aside0.mk (Kept.below (S := (fun k_ => P2_ k_)) (by repeat (first | (with_reducible first | exact HK.out | apply Kept.alloc | apply Kept.drewN | apply Kept.drew) | exact HK.out)) hb); replace HB := Aside0.mk (below_step (bz0 HB.out) hb); clear hb ho23) | ((with_reducible refine gate_builtin (b := .append) (xs := #[.tmp 45, .tmp 46]) rfl ?_); at_builtin; refine Kd.R_append_rows (Kd.int .i64) (w0 := w0) w0.heap.size rfl (.tmp 45) (.tmp 46) 89 3 (.int .i64 0) 8 rfl Tryd.underlying89 info3 rfl (by decide) (by omega) v239 y238 l2 _ _ _ (fun k_ => (P2_ k_ \/ w.heap.size <= k_) /\ some k_ ≠ (.slice Ao20 l2.length co20 : Value).ownBlock) (fun _ => False) rfl rfl ?aO ?aR (fun _ _ h => h) (fun _ h => h.elim) ?aF ?aB ?aS ?aL ?_; (case aR => exact cz (Kd.R_reads' HO_2.out).2.2); (case aB => exact (bz0 HB.out)); (case aF => exact (fun k_ hk => ⟨(.inr (Nat.le_trans (by first | exact HK.out.1 | exact (show Kept w _ (fun k_ => P2_ k_) from by repeat (first | (with_reducible first | exact HK.out | apply Kept.alloc | apply Kept.drewN | apply Kept.drew) | exact HK.out)).1) hk)), Kd.fresh' (Kd.R_lt (rz HO_2.out)) k_ hk⟩)); (case aO => exact (by refine rq ?_; exact Kd.R_mono HO240.out (fun _ hk => ⟨hk.1.1, hk.2⟩))); (case aS => exact (below_size (bz0 HB.out))); (case aL => have := LMc18.out; omega); intro v242 w24 ho hb hg hat; rw [<- Ny241.out] at ho; have n0_ := Aside0.mk (Kd.R_after (ok := (fun k_ => (P2_ k_ \/ w.heap.size <= k_))) (rz HO_2.out) hg hat); have n1_ := Aside0.mk (hb); have n2_ := Aside0.mk (Kept.of_grown (S := (fun k_ => P2_ k_)) hg (by repeat (first | (with_reducible first | exact HK.out | apply Kept.alloc | apply Kept.drewN | apply Kept.drew) | exact HK.out)) (fun k_ e_ => (HO240.out.1 k_ e_).1.1)); have n3_ := Aside0.mk (ho); clear HO_2; clear HB; clear HK; clear HO240; have HO_2 := n0_; have HB := n1_; have HK := n2_; have HO243 := n3_; clear n0_ n1_ n2_ n3_; clear ho hb hg hat) | ((with_reducible refine gate_builtin (b := .append) (xs := #[.tmp 47, .tmp 49]) rfl ?_); at_builtin; refine Kd.R_append (Kd.int .i64) (w0 := w0) w0.heap.size rfl (.tmp 47) (.tmp 49) 89 3 (.int .i64 0) 8 rfl Tryd.underlying89 info3 rfl (by decide) (by omega) v242 y241 t233 [.int .i64 t233] (fun k_ => (P2_ k_ \/ w.heap.size <= k_) /\ some k_ ≠ (.slice Ao20 l2.length co20 : Value).ownBlock) (fun _ => False) rfl rfl ?aP (fun _ hk => hk.elim) ?aF ?aO ?aB ?aS ?aL ?_; (case aP => exact rfl); (case aB => exact (bz0 HB.out)); (case aF => exact (fun k_ hk => ⟨(.inr (Nat.le_trans (by first | exact HK.out.1 | exact (show Kept w _ (fun k_ => P2_ k_) from by repeat (first | (with_reducible first | exact HK.out | apply Kept.alloc | apply Kept.drewN | apply Kept.drew) | exact HK.out)).1) hk)), Kd.fresh' (Kd.R_lt (rz HO_2.out)) k_ hk⟩)); (case aO => exact (rz HO243.out)); (case aS => exact (below_size (bz0 HB.out))); (case aL => have := LMc19.out; omega); intro v245 w25 ho hb hg hat; rw [<- Ny244.out] at ho; have n0_ := Aside0.mk (Kd.R_after (ok := (fun k_ => (P2_ k_ \/ w.heap.size <= k_))) (rz HO_2.out) hg hat); have n1_ := Aside0.mk (hb); have n2_ := Aside0.mk (Kept.of_grown (S := (fun k_ => P2_ k_)) hg (by repeat (first | (with_reducible first | exact HK.out | apply Kept.alloc | apply Kept.drewN | apply Kept.drew) | exact HK.out)) (fun k_ e_ => (HO243.out.1 k_ e_).1)); have n3_ := Aside0.mk (ho); clear HO_2; clear HB; clear HK; clear HO243; have HO_2 := n0_; have HB := n1_; have HK := n2_; have HO246 := n3_; clear n0_ n1_ n2_ n3_; clear ho hb hg hat))
     go_ret2
     exact ⟨_, gz, by refine rq ?_; exact Kd.R_mono HO246.out (fun _ hk => hk.1), (bz0 HB.out), by repeat (first | (with_reducible first | exact HK.out | apply Kept.alloc | apply Kept.drewN | apply Kept.drew) | exact HK.out)⟩
 ·rw [if_neg c7] at H
  have c7b0 : (((rd_T55 l0 t233).f0) == 0) = false := beq_eq_false_iff_ne.mpr c7
  have c7b1 : (((rd_T55 l0 t233).f0) != 0) = true := bne_iff_ne.mpr c7
  by_cases c26 : ((rd_T55 l0 t233).f0) = 1
  ·rw [if_pos c26] at H
   have c26b0 : (((rd_T55 l0 t233).f0) == 1) = true := beq_iff_eq.mpr c26
   have c26b1 : (((rd_T55 l0 t233).f0) != 1) = false := bne_eq_false_iff_eq.mpr c26
   clear c26
   simp only [Option.some.injEq, Prod.mk.injEq] at H
   obtain ⟨rfl, rfl⟩ := H
   go_enter Tryd.func57, Tryd.ntmps57
   go_wp2_with (first | ((with_reducible refine gate_callee (f := 81) rfl ?_); refine goesL_ (some 17) rfl rfl Tryd.func81 (by kernel_rfl) rfl #[.slice A0 l0.length c0, .int .i64 a1] rfl lz ?_; (with_reducible refine (spec_l8Find.calls k _ _ l0 a1 t233 _ ?side1 ?side2 A4.out).mono ?_); (case side1 => exact Kd.C_kept_now HR0.out (by repeat (first | (with_reducible first | exact HK.out | apply Kept.alloc | apply Kept.drewN | apply Kept.drew) | exact HK.out))); (case side2 => exact HC0.out); rintro e w' ⟨rfl, ⟨nd, rfl⟩⟩; refine ⟨_, rfl, ?_⟩; have p234 : 0 <= (t233 : Int) := oz; have q234 : t233 < (l0.length : Int) := oz; obtain ⟨ad234, e234, hx234_0, hx234_1, hx234_2⟩ := at_T55 (Kd.C_kept_now HR0.out HK.out) t233 p234 q234; cases e234; replace p234 := eq_true p234; replace q234 := eq_true q234))
   go_ret2
   exact ⟨_, gz, by refine rq ?_; exact HO2.out, (bz0 HB.out), by repeat (first | (with_reducible first | exact HK.out | apply Kept.alloc | apply Kept.drewN | apply Kept.drew) | exact HK.out)⟩
  ·rw [if_neg c26] at H
   have c26b0 : (((rd_T55 l0 t233).f0) == 1) = false := beq_eq_false_iff_ne.mpr c26
   have c26b1 : (((rd_T55 l0 t233).f0) != 1) = true := bne_iff_ne.mpr c26
   have HC27 := Aside0.mk H
   clear H
   go_enter Tryd.func57, Tryd.ntmps57
   go_upto_if 54 with (first | ((with_reducible refine gate_callee (f := 81) rfl ?_); refine goesL_ (some 17) rfl rfl Tryd.func81 (by kernel_rfl) rfl #[.slice A0 l0.length c0, .int .i64 a1] rfl lz ?_; (with_reducible refine (spec_l8Find.calls k _ _ l0 a1 t233 _ ?side1 ?side2 A4.out).mono ?_); (case side1 => exact Kd.C_kept_now HR0.out (by repeat (first | (with_reducible first | exact HK.out | apply Kept.alloc | apply Kept.drewN | apply Kept.drew) | exact HK.out))); (case side2 => exact HC0.out); rintro e w' ⟨rfl, ⟨nd, rfl⟩⟩; refine ⟨_, rfl, ?_⟩; have p234 : 0 <= (t233 : Int) := oz; have q234 : t233 < (l0.length : Int) := oz; obtain ⟨ad234, e234, hx234_0, hx234_1, hx234_2⟩ := at_T55 (Kd.C_kept_now HR0.out HK.out) t233 p234 q234; cases e234; replace p234 := eq_true p234; replace q234 := eq_true q234))
   (try simp only [Act.put, sz1, sz2, sz3])
   go_cut [54] (fun v54 wc => ∃ (kq : Nat) (x54_26 : Bool), v54 = .bool x54_26 /\ Aside0 (spec_l8Show.j1 kq l0 t233 l2 x54_26 = some (r1, r2)) /\ Aside0 (kq <= k) /\ Aside0 (Kd.R (Kd.int .i64) 3 wc w0.heap.size (fun k_ => (P2_ k_ \/ w.heap.size <= k_)) u9000_ l2) /\ Aside0 (Kept w wc (fun k_ => P2_ k_)) /\ Aside0 (Below w0.heap.size w0 wc))
   case first =>
    have H := HC27.out
    clear HC27
    by_cases c28 : ((rd_T55 l0 t233).f0) = 4
    ·rw [if_pos c28] at H
     have c28b0 : (((rd_T55 l0 t233).f0) == 4) = true := beq_iff_eq.mpr c28
     have c28b1 : (((rd_T55 l0 t233).f0) != 4) = false := bne_eq_false_iff_eq.mpr c28
     clear c28
     (first | rw [c28b0] | (simp only [i64_w, i32_w]; rw [c28b0]) | skip)
     have H' := Aside0.mk H
     clear H
     go_wp2
     go_meet
     case rel => exact ⟨_, ((((rd_T55 l0 t233).f0) == 4)), ez, H', ⟨by first | omega | exact Nat.le_refl _⟩, ⟨by refine rq ?_; exact HO2.out⟩, ⟨by repeat (first | (with_reducible first | exact HK.out | apply Kept.alloc | apply Kept.drewN | apply Kept.drew) | exact HK.out)⟩, ⟨(bz0 HB.out)⟩⟩
    ·rw [if_neg c28] at H
     have c28b0 : (((rd_T55 l0 t233).f0) == 4) = false := beq_eq_false_iff_ne.mpr c28
     have c28b1 : (((rd_T55 l0 t233).f0) != 4) = true := bne_iff_ne.mpr c28
     (first | rw [c28b0] | (simp only [i64_w, i32_w]; rw [c28b0]) | skip)
     have H' := Aside0.mk H
     clear H
     go_wp2
     go_meet
     case rel => exact ⟨_, ((((rd_T55 l0 t233).f0) == 5)), ez, H', ⟨by first | omega | exact Nat.le_refl _⟩, ⟨by refine rq ?_; exact HO2.out⟩, ⟨by repeat (first | (with_reducible first | exact HK.out | apply Kept.alloc | apply Kept.drewN | apply Kept.drew) | exact HK.out)⟩, ⟨(bz0 HB.out)⟩⟩
   case rest =>
    clear HC27
    try clear c1
    try clear c2
    try clear p2
    try clear q2
    try clear hx2
    try clear c5
    try clear c5b0
    try clear c6
    try clear c6b0
    try clear p6
    try clear c7
    try clear c7b0
    try clear c7b1
    try clear c8
    try clear c8b0
    try clear c9
    try clear c9b0
    try clear c10
    try clear c10b0
    try clear c10b1
    try clear c12
    try clear c12b0
    try clear c12b1
    try clear c12b2
    try clear c17
    try clear c17b0
    try clear c17b1
    try clear c17b2
    try clear c18
    try clear c19
    try clear p23
    try clear q23
    try clear hx23
    try clear c26
    try clear c26b0
    try clear c26b1
    try clear c28
    try clear c28b0
    try clear c28b1
    try clear hx234_0
    try clear hx234_1
    try clear hx234_2
    try clear hx235_0
    try clear p2
    try clear p234
    try clear p235
    try clear q2
    try clear q234
    try clear q235
    obtain ⟨kq, x54_26, rfl, HA, HJ26, HO_2, HK, HB⟩ := hcut
    cases kq with
    | zero => exact absurd HA.out (by simp [spec_l8Show.j1])
    | succ kj26 =>
     have H := HA.out
     clear HA
     simp only [spec_l8Show.j1] at H
     by_cases c29 : x54_26 = true
     ·subst c29
      have H1 := hp H
      clear H
      have H := H1
      clear H1
      replace H := iz H
      obtain ⟨c30, H⟩ := H
      have c30b0 := decide_eq_true c30
      clear c30
      replace H := iz H
      obtain ⟨c31, H⟩ := H
      have c31b0 := decide_eq_true c31
      clear c31
      replace H := bi H
      obtain ⟨⟨t248, t249⟩, A320, H⟩ := H
      try dsimp only at H
      have A32 := Aside0.mk A320
      clear A320
      by_cases c33 : ((rd_T55 l0 t233).f0) = 5
      ·rw [if_pos c33] at H
       have c33b0 : (((rd_T55 l0 t233).f0) == 5) = true := beq_iff_eq.mpr c33
       have c33b1 : (((rd_T55 l0 t233).f0) != 5) = false := bne_eq_false_iff_eq.mpr c33
       clear c33
       replace H := iz H
       obtain ⟨c34, H⟩ := H
       have c34b0 := eq_true c34
       have c34b1 : decide (5 + t248.size <= 9223372036854775807) = true := decide_eq_true c34
       try have c34b2 : (9223372036854775807 < 5 + t248.size) = False := eq_false (Nat.not_lt.2 c34)
       replace H := iz H
       obtain ⟨c35, H⟩ := H
       have c35b0 := eq_true c35
       have c35b1 : decide (((⟨#[40, 114, 101, 102, 32]⟩ : ByteArray) ++ t248).size + 1 <= 9223372036854775807) = true := decide_eq_true c35
       try have c35b2 : (9223372036854775807 < ((⟨#[40, 114, 101, 102, 32]⟩ : ByteArray) ++ t248).size + 1) = False := eq_false (Nat.not_lt.2 c35)
       (try (have c35b2z := c35b2; simp only [ByteArray.size_append, show (⟨#[40, 114, 101, 102, 32]⟩ : ByteArray).size = 5 from rfl] at c35b2z))
       simp only [Option.some.injEq, Prod.mk.injEq] at H
       obtain ⟨rfl, rfl⟩ := H
       have p247 : 0 <= (t233 : Int) := oz
       have q247 : t233 < (l0.length : Int) := oz
       obtain ⟨ad247, e247, hx247_0, hx247_1, hx247_2⟩ := at_T55 (Kd.C_kept_now HR0.out HK.out) t233 p247 q247
       obtain rfl : ad234 = ad247 := (by injection e247)
       replace p247 := eq_true p247
       replace q247 := eq_true q247
       obtain ⟨Ao36, co36, eo36⟩ := Kd.R_slice HO_2.out
       subst eo36
       go_wp2_with (first | ((with_reducible refine gate_callee (f := 57) rfl ?_); refine goesL_ (some 65) rfl rfl Tryd.func57 (by kernel_rfl) rfl #[.slice (some ad234) l0.length c0, .int .i64 ((rd_T55 l0 t233).f1), .slice Ao36 l2.length co36] rfl lz ?_; (with_reducible refine (ih kj26 (by have := HJ26.out; omega) _ _ l0 ((rd_T55 l0 t233).f1) (fun k_ => some k_ = (.slice Ao36 l2.length co36 : Value).ownBlock) (.slice Ao36 l2.length co36) l2 t248 t249 w0 _ ?side1 ?side2 ?side3 ?side4 A32.out).mono ?_); (case side1 => repeat (first | (with_reducible first | exact HB.out | apply below_alloc | apply pw_below_drewN | apply below_drew1) | exact HB.out)); (case side2 => exact Kd.C_kept_call HR0.out (by repeat (first | (with_reducible first | exact HK.out | apply Kept.alloc | apply Kept.drewN | apply Kept.drew) | exact HK.out)) (fun k_ hs_ => (fun e_ => (HO_2.out.1 k_ e_.symm)) hs_)); (case side3 => exact HC0.out); (case side4 => exact Kd.R_tight rfl HO_2.out); rintro e w37 ⟨v250, rfl, ho0, hb, hkp⟩; refine ⟨_, rfl, ?_⟩; have n0_ := Aside0.mk (Kd.R_mono (ok' := fun k_ => (P2_ k_ \/ w.heap.size <= k_)) ho0 (fun k_ hk_ => Or.elim hk_ (fun hs_ => (HO_2.out.1 k_ (hs_).symm)) (fun hn_ => (.inr (Nat.le_trans (by first | exact HK.out.1 | exact (show Kept w _ (fun k_ => P2_ k_) from by repeat (first | (with_reducible first | exact HK.out | apply Kept.alloc | apply Kept.drewN | apply Kept.drew) | exact HK.out)).1) hn_))))); have n1_ := Aside0.mk (Kept.then_ (S := (fun k_ => P2_ k_)) (by repeat (first | (with_reducible first | exact HK.out | apply Kept.alloc | apply Kept.drewN | apply Kept.drew) | exact HK.out)) hkp (fun k_ hs_ => (fun e_ => (HO_2.out.1 k_ e_.symm)) hs_)); have n2_ := Aside0.mk (hb); clear HK; clear HB; clear HO_2; have HO251 := n0_; have HK := n1_; have HB := n2_; clear n0_ n1_ n2_; (try clear hb); (try clear hkp); (try clear ho0); have p252 : 0 <= (t233 : Int) := oz; have q252 : t233 < (l0.length : Int) := oz; obtain ⟨ad252, e252, hx252_0, hx252_1, hx252_2⟩ := at_T55 (Kd.C_kept_now HR0.out HK.out) t233 p252 q252; obtain rfl : ad234 = ad252 := (by injection e252); replace p252 := eq_true p252; replace q252 := eq_true q252))
       go_ret2
       exact ⟨_, gz, by refine rq ?_; exact HO251.out, (bz0 HB.out), by repeat (first | (with_reducible first | exact HK.out | apply Kept.alloc | apply Kept.drewN | apply Kept.drew) | exact HK.out)⟩
      ·rw [if_neg c33] at H
       have c33b0 : (((rd_T55 l0 t233).f0) == 5) = false := beq_eq_false_iff_ne.mpr c33
       have c33b1 : (((rd_T55 l0 t233).f0) != 5) = true := bne_iff_ne.mpr c33
       replace H := iz H
       obtain ⟨c38, H⟩ := H
       have c38b0 := eq_true c38
       have c38b1 : decide (6 + t248.size <= 9223372036854775807) = true := decide_eq_true c38
       try have c38b2 : (9223372036854775807 < 6 + t248.size) = False := eq_false (Nat.not_lt.2 c38)
       replace H := iz H
       obtain ⟨c39, H⟩ := H
       have c39b0 := eq_true c39
       have c39b1 : decide (((⟨#[40, 108, 105, 115, 116, 32]⟩ : ByteArray) ++ t248).size + 1 <= 9223372036854775807) = true := decide_eq_true c39
       try have c39b2 : (9223372036854775807 < ((⟨#[40, 108, 105, 115, 116, 32]⟩ : ByteArray) ++ t248).size + 1) = False := eq_false (Nat.not_lt.2 c39)
       (try (have c39b2z := c39b2; simp only [ByteArray.size_append, show (⟨#[40, 108, 105, 115, 116, 32]⟩ : ByteArray).size = 6 from rfl] at c39b2z))
       simp only [Option.some.injEq, Prod.mk.injEq] at H
       obtain ⟨rfl, rfl⟩ := H
       have p247 : 0 <= (t233 : Int) := oz
       have q247 : t233 < (l0.length : Int) := oz
       obtain ⟨ad247, e247, hx247_0, hx247_1, hx247_2⟩ := at_T55 (Kd.C_kept_now HR0.out HK.out) t233 p247 q247
       obtain rfl : ad234 = ad247 := (by injection e247)
       replace p247 := eq_true p247
       replace q247 := eq_true q247
       obtain ⟨Ao40, co40, eo40⟩ := Kd.R_slice HO_2.out
       subst eo40
       go_wp2_with (first | ((with_reducible refine gate_callee (f := 57) rfl ?_); refine goesL_ (some 65) rfl rfl Tryd.func57 (by kernel_rfl) rfl #[.slice (some ad234) l0.length c0, .int .i64 ((rd_T55 l0 t233).f1), .slice Ao40 l2.length co40] rfl lz ?_; (with_reducible refine (ih kj26 (by have := HJ26.out; omega) _ _ l0 ((rd_T55 l0 t233).f1) (fun k_ => some k_ = (.slice Ao40 l2.length co40 : Value).ownBlock) (.slice Ao40 l2.length co40) l2 t248 t249 w0 _ ?side1 ?side2 ?side3 ?side4 A32.out).mono ?_); (case side1 => repeat (first | (with_reducible first | exact HB.out | apply below_alloc | apply pw_below_drewN | apply below_drew1) | exact HB.out)); (case side2 => exact Kd.C_kept_call HR0.out (by repeat (first | (with_reducible first | exact HK.out | apply Kept.alloc | apply Kept.drewN | apply Kept.drew) | exact HK.out)) (fun k_ hs_ => (fun e_ => (HO_2.out.1 k_ e_.symm)) hs_)); (case side3 => exact HC0.out); (case side4 => exact Kd.R_tight rfl HO_2.out); rintro e w41 ⟨v250, rfl, ho0, hb, hkp⟩; refine ⟨_, rfl, ?_⟩; have n0_ := Aside0.mk (Kd.R_mono (ok' := fun k_ => (P2_ k_ \/ w.heap.size <= k_)) ho0 (fun k_ hk_ => Or.elim hk_ (fun hs_ => (HO_2.out.1 k_ (hs_).symm)) (fun hn_ => (.inr (Nat.le_trans (by first | exact HK.out.1 | exact (show Kept w _ (fun k_ => P2_ k_) from by repeat (first | (with_reducible first | exact HK.out | apply Kept.alloc | apply Kept.drewN | apply Kept.drew) | exact HK.out)).1) hn_))))); have n1_ := Aside0.mk (Kept.then_ (S := (fun k_ => P2_ k_)) (by repeat (first | (with_reducible first | exact HK.out | apply Kept.alloc | apply Kept.drewN | apply Kept.drew) | exact HK.out)) hkp (fun k_ hs_ => (fun e_ => (HO_2.out.1 k_ e_.symm)) hs_)); have n2_ := Aside0.mk (hb); clear HK; clear HB; clear HO_2; have HO251 := n0_; have HK := n1_; have HB := n2_; clear n0_ n1_ n2_; (try clear hb); (try clear hkp); (try clear ho0); have p252 : 0 <= (t233 : Int) := oz; have q252 : t233 < (l0.length : Int) := oz; obtain ⟨ad252, e252, hx252_0, hx252_1, hx252_2⟩ := at_T55 (Kd.C_kept_now HR0.out HK.out) t233 p252 q252; obtain rfl : ad234 = ad252 := (by injection e252); replace p252 := eq_true p252; replace q252 := eq_true q252))
       go_ret2
       exact ⟨_, gz, by refine rq ?_; exact HO251.out, (bz0 HB.out), by repeat (first | (with_reducible first | exact HK.out | apply Kept.alloc | apply Kept.drewN | apply Kept.drew) | exact HK.out)⟩
     ·replace c29 := Bool.eq_false_iff.mpr c29
      subst c29
      have H1 := hq H
      clear H
      have H := H1
      clear H1
      replace H := iz H
      obtain ⟨c42, H⟩ := H
      have c42b0 := decide_eq_true c42
      clear c42
      replace H := iz H
      obtain ⟨c43, H⟩ := H
      have c43b0 := decide_eq_true c43
      clear c43
      replace H := bi H
      obtain ⟨⟨t254, t255⟩, A440, H⟩ := H
      try dsimp only at H
      have A44 := Aside0.mk A440
      clear A440
      replace H := bi H
      obtain ⟨⟨t259, t260⟩, A450, H⟩ := H
      try dsimp only at H
      have A45 := Aside0.mk A450
      clear A450
      by_cases c46 : ((rd_T55 l0 t233).f0) = 2
      ·rw [if_pos c46] at H
       have c46b0 : (((rd_T55 l0 t233).f0) == 2) = true := beq_iff_eq.mpr c46
       have c46b1 : (((rd_T55 l0 t233).f0) != 2) = false := bne_eq_false_iff_eq.mpr c46
       clear c46
       replace H := iz H
       obtain ⟨c47, H⟩ := H
       have c47b0 := eq_true c47
       have c47b1 : decide (1 + t254.size <= 9223372036854775807) = true := decide_eq_true c47
       try have c47b2 : (9223372036854775807 < 1 + t254.size) = False := eq_false (Nat.not_lt.2 c47)
       replace H := iz H
       obtain ⟨c48, H⟩ := H
       have c48b0 := eq_true c48
       have c48b1 : decide (((⟨#[40]⟩ : ByteArray) ++ t254).size + 4 <= 9223372036854775807) = true := decide_eq_true c48
       try have c48b2 : (9223372036854775807 < ((⟨#[40]⟩ : ByteArray) ++ t254).size + 4) = False := eq_false (Nat.not_lt.2 c48)
       (try (have c48b2z := c48b2; simp only [ByteArray.size_append, show (⟨#[40]⟩ : ByteArray).size = 1 from rfl] at c48b2z))
       replace H := iz H
       obtain ⟨c49, H⟩ := H
       have c49b0 := eq_true c49
       have c49b1 : decide ((((⟨#[40]⟩ : ByteArray) ++ t254) ++ (⟨#[32, 45, 62, 32]⟩ : ByteArray)).size + t259.size <= 9223372036854775807) = true := decide_eq_true c49
       try have c49b2 : (9223372036854775807 < (((⟨#[40]⟩ : ByteArray) ++ t254) ++ (⟨#[32, 45, 62, 32]⟩ : ByteArray)).size + t259.size) = False := eq_false (Nat.not_lt.2 c49)
       (try (have c49b2z := c49b2; simp only [ByteArray.size_append, show (⟨#[32, 45, 62, 32]⟩ : ByteArray).size = 4 from rfl, show (⟨#[40]⟩ : ByteArray).size = 1 from rfl] at c49b2z))
       replace H := iz H
       obtain ⟨c50, H⟩ := H
       have c50b0 := eq_true c50
       have c50b1 : decide (((((⟨#[40]⟩ : ByteArray) ++ t254) ++ (⟨#[32, 45, 62, 32]⟩ : ByteArray)) ++ t259).size + 1 <= 9223372036854775807) = true := decide_eq_true c50
       try have c50b2 : (9223372036854775807 < ((((⟨#[40]⟩ : ByteArray) ++ t254) ++ (⟨#[32, 45, 62, 32]⟩ : ByteArray)) ++ t259).size + 1) = False := eq_false (Nat.not_lt.2 c50)
       (try (have c50b2z := c50b2; simp only [ByteArray.size_append, show (⟨#[32, 45, 62, 32]⟩ : ByteArray).size = 4 from rfl, show (⟨#[40]⟩ : ByteArray).size = 1 from rfl] at c50b2z))
       simp only [Option.some.injEq, Prod.mk.injEq] at H
       obtain ⟨rfl, rfl⟩ := H
       have p253 : 0 <= (t233 : Int) := oz
       have q253 : t233 < (l0.length : Int) := oz
       obtain ⟨ad253, e253, hx253_0, hx253_1, hx253_2⟩ := at_T55 (Kd.C_kept_now HR0.out HK.out) t233 p253 q253
       obtain rfl : ad234 = ad253 := (by injection e253)
       replace p253 := eq_true p253
       replace q253 := eq_true q253
       obtain ⟨Ao51, co51, eo51⟩ := Kd.R_slice HO_2.out
       subst eo51
       go_wp2_with (first | ((with_reducible refine gate_callee (f := 57) rfl ?_); refine goesL_ (some 90) rfl rfl Tryd.func57 (by kernel_rfl) rfl #[.slice (some ad234) l0.length c0, .int .i64 ((rd_T55 l0 t233).f1), .slice Ao51 l2.length co51] rfl lz ?_; (with_reducible refine (ih kj26 (by have := HJ26.out; omega) _ _ l0 ((rd_T55 l0 t233).f1) (fun k_ => some k_ = (.slice Ao51 l2.length co51 : Value).ownBlock) (.slice Ao51 l2.length co51) l2 t254 t255 w0 _ ?side1 ?side2 ?side3 ?side4 A44.out).mono ?_); (case side1 => repeat (first | (with_reducible first | exact HB.out | apply below_alloc | apply pw_below_drewN | apply below_drew1) | exact HB.out)); (case side2 => exact Kd.C_kept_call HR0.out (by repeat (first | (with_reducible first | exact HK.out | apply Kept.alloc | apply Kept.drewN | apply Kept.drew) | exact HK.out)) (fun k_ hs_ => (fun e_ => (HO_2.out.1 k_ e_.symm)) hs_)); (case side3 => exact HC0.out); (case side4 => exact Kd.R_tight rfl HO_2.out); rintro e w52 ⟨v256, rfl, ho0, hb, hkp⟩; refine ⟨_, rfl, ?_⟩; have n0_ := Aside0.mk (Kd.R_mono (ok' := fun k_ => (P2_ k_ \/ w.heap.size <= k_)) ho0 (fun k_ hk_ => Or.elim hk_ (fun hs_ => (HO_2.out.1 k_ (hs_).symm)) (fun hn_ => (.inr (Nat.le_trans (by first | exact HK.out.1 | exact (show Kept w _ (fun k_ => P2_ k_) from by repeat (first | (with_reducible first | exact HK.out | apply Kept.alloc | apply Kept.drewN | apply Kept.drew) | exact HK.out)).1) hn_))))); have n1_ := Aside0.mk (Kept.then_ (S := (fun k_ => P2_ k_)) (by repeat (first | (with_reducible first | exact HK.out | apply Kept.alloc | apply Kept.drewN | apply Kept.drew) | exact HK.out)) hkp (fun k_ hs_ => (fun e_ => (HO_2.out.1 k_ e_.symm)) hs_)); have n2_ := Aside0.mk (hb); clear HK; clear HB; clear HO_2; have HO257 := n0_; have HK := n1_; have HB := n2_; clear n0_ n1_ n2_; (try clear hb); (try clear hkp); (try clear ho0); have p258 : 0 <= (t233 : Int) := oz; have q258 : t233 < (l0.length : Int) := oz; obtain ⟨ad258, e258, hx258_0, hx258_1, hx258_2⟩ := at_T55 (Kd.C_kept_now HR0.out HK.out) t233 p258 q258; obtain rfl : ad234 = ad258 := (by injection e258); replace p258 := eq_true p258; replace q258 := eq_true q258; obtain ⟨Ao53, co53, eo53⟩ := Kd.R_slice HO257.out; subst eo53) | ((with_reducible refine gate_callee (f := 57) rfl ?_); refine goesL_ (some 101) rfl rfl Tryd.func57 (by kernel_rfl) rfl #[.slice (some ad234) l0.length c0, .int .i64 ((rd_T55 l0 t233).f2), .slice Ao53 t255.length co53] rfl lz ?_; (with_reducible refine (ih kj26 (by have := HJ26.out; omega) _ _ l0 ((rd_T55 l0 t233).f2) (fun k_ => some k_ = (.slice Ao53 t255.length co53 : Value).ownBlock) (.slice Ao53 t255.length co53) t255 t259 t260 w0 _ ?side1 ?side2 ?side3 ?side4 A45.out).mono ?_); (case side1 => repeat (first | (with_reducible first | exact HB.out | apply below_alloc | apply pw_below_drewN | apply below_drew1) | exact HB.out)); (case side2 => exact Kd.C_kept_call HR0.out (by repeat (first | (with_reducible first | exact HK.out | apply Kept.alloc | apply Kept.drewN | apply Kept.drew) | exact HK.out)) (fun k_ hs_ => (fun e_ => (HO257.out.1 k_ e_.symm)) hs_)); (case side3 => exact HC0.out); (case side4 => exact Kd.R_tight rfl HO257.out); rintro e w54 ⟨v261, rfl, ho0, hb, hkp⟩; refine ⟨_, rfl, ?_⟩; have n0_ := Aside0.mk (Kd.R_mono (ok' := fun k_ => (P2_ k_ \/ w.heap.size <= k_)) ho0 (fun k_ hk_ => Or.elim hk_ (fun hs_ => (HO257.out.1 k_ (hs_).symm)) (fun hn_ => (.inr (Nat.le_trans (by first | exact HK.out.1 | exact (show Kept w _ (fun k_ => P2_ k_) from by repeat (first | (with_reducible first | exact HK.out | apply Kept.alloc | apply Kept.drewN | apply Kept.drew) | exact HK.out)).1) hn_))))); have n1_ := Aside0.mk (Kept.then_ (S := (fun k_ => P2_ k_)) (by repeat (first | (with_reducible first | exact HK.out | apply Kept.alloc | apply Kept.drewN | apply Kept.drew) | exact HK.out)) hkp (fun k_ hs_ => (fun e_ => (HO257.out.1 k_ e_.symm)) hs_)); have n2_ := Aside0.mk (hb); clear HK; clear HB; clear HO257; have HO262 := n0_; have HK := n1_; have HB := n2_; clear n0_ n1_ n2_; (try clear hb); (try clear hkp); (try clear ho0); have p263 : 0 <= (t233 : Int) := oz; have q263 : t233 < (l0.length : Int) := oz; obtain ⟨ad263, e263, hx263_0, hx263_1, hx263_2⟩ := at_T55 (Kd.C_kept_now HR0.out HK.out) t233 p263 q263; obtain rfl : ad234 = ad263 := (by injection e263); replace p263 := eq_true p263; replace q263 := eq_true q263))
       go_ret2
       exact ⟨_, gz, by refine rq ?_; exact HO262.out, (bz0 HB.out), by repeat (first | (with_reducible first | exact HK.out | apply Kept.alloc | apply Kept.drewN | apply Kept.drew) | exact HK.out)⟩
      ·rw [if_neg c46] at H
       have c46b0 : (((rd_T55 l0 t233).f0) == 2) = false := beq_eq_false_iff_ne.mpr c46
       have c46b1 : (((rd_T55 l0 t233).f0) != 2) = true := bne_iff_ne.mpr c46
       replace H := iz H
       obtain ⟨c55, H⟩ := H
       have c55b0 := eq_true c55
       have c55b1 : decide (1 + t254.size <= 9223372036854775807) = true := decide_eq_true c55
       try have c55b2 : (9223372036854775807 < 1 + t254.size) = False := eq_false (Nat.not_lt.2 c55)
       replace H := iz H
       obtain ⟨c56, H⟩ := H
       have c56b0 := eq_true c56
       have c56b1 : decide (((⟨#[40]⟩ : ByteArray) ++ t254).size + 3 <= 9223372036854775807) = true := decide_eq_true c56
       try have c56b2 : (9223372036854775807 < ((⟨#[40]⟩ : ByteArray) ++ t254).size + 3) = False := eq_false (Nat.not_lt.2 c56)
       (try (have c56b2z := c56b2; simp only [ByteArray.size_append, show (⟨#[40]⟩ : ByteArray).size = 1 from rfl] at c56b2z))
       replace H := iz H
       obtain ⟨c57, H⟩ := H
       have c57b0 := eq_true c57
       have c57b1 : decide ((((⟨#[40]⟩ : ByteArray) ++ t254) ++ (⟨#[32, 42, 32]⟩ : ByteArray)).size + t259.size <= 9223372036854775807) = true := decide_eq_true c57
       try have c57b2 : (9223372036854775807 < (((⟨#[40]⟩ : ByteArray) ++ t254) ++ (⟨#[32, 42, 32]⟩ : ByteArray)).size + t259.size) = False := eq_false (Nat.not_lt.2 c57)
       (try (have c57b2z := c57b2; simp only [ByteArray.size_append, show (⟨#[32, 42, 32]⟩ : ByteArray).size = 3 from rfl, show (⟨#[40]⟩ : ByteArray).size = 1 from rfl] at c57b2z))
       replace H := iz H
       obtain ⟨c58, H⟩ := H
       have c58b0 := eq_true c58
       have c58b1 : decide (((((⟨#[40]⟩ : ByteArray) ++ t254) ++ (⟨#[32, 42, 32]⟩ : ByteArray)) ++ t259).size + 1 <= 9223372036854775807) = true := decide_eq_true c58
       try have c58b2 : (9223372036854775807 < ((((⟨#[40]⟩ : ByteArray) ++ t254) ++ (⟨#[32, 42, 32]⟩ : ByteArray)) ++ t259).size + 1) = False := eq_false (Nat.not_lt.2 c58)
       (try (have c58b2z := c58b2; simp only [ByteArray.size_append, show (⟨#[32, 42, 32]⟩ : ByteArray).size = 3 from rfl, show (⟨#[40]⟩ : ByteArray).size = 1 from rfl] at c58b2z))
       simp only [Option.some.injEq, Prod.mk.injEq] at H
       obtain ⟨rfl, rfl⟩ := H
       have p253 : 0 <= (t233 : Int) := oz
       have q253 : t233 < (l0.length : Int) := oz
       obtain ⟨ad253, e253, hx253_0, hx253_1, hx253_2⟩ := at_T55 (Kd.C_kept_now HR0.out HK.out) t233 p253 q253
       obtain rfl : ad234 = ad253 := (by injection e253)
       replace p253 := eq_true p253
       replace q253 := eq_true q253
       obtain ⟨Ao59, co59, eo59⟩ := Kd.R_slice HO_2.out
       subst eo59
       go_wp2_with (first | ((with_reducible refine gate_callee (f := 57) rfl ?_); refine goesL_ (some 90) rfl rfl Tryd.func57 (by kernel_rfl) rfl #[.slice (some ad234) l0.length c0, .int .i64 ((rd_T55 l0 t233).f1), .slice Ao59 l2.length co59] rfl lz ?_; (with_reducible refine (ih kj26 (by have := HJ26.out; omega) _ _ l0 ((rd_T55 l0 t233).f1) (fun k_ => some k_ = (.slice Ao59 l2.length co59 : Value).ownBlock) (.slice Ao59 l2.length co59) l2 t254 t255 w0 _ ?side1 ?side2 ?side3 ?side4 A44.out).mono ?_); (case side1 => repeat (first | (with_reducible first | exact HB.out | apply below_alloc | apply pw_below_drewN | apply below_drew1) | exact HB.out)); (case side2 => exact Kd.C_kept_call HR0.out (by repeat (first | (with_reducible first | exact HK.out | apply Kept.alloc | apply Kept.drewN | apply Kept.drew) | exact HK.out)) (fun k_ hs_ => (fun e_ => (HO_2.out.1 k_ e_.symm)) hs_)); (case side3 => exact HC0.out); (case side4 => exact Kd.R_tight rfl HO_2.out); rintro e w60 ⟨v256, rfl, ho0, hb, hkp⟩; refine ⟨_, rfl, ?_⟩; have n0_ := Aside0.mk (Kd.R_mono (ok' := fun k_ => (P2_ k_ \/ w.heap.size <= k_)) ho0 (fun k_ hk_ => Or.elim hk_ (fun hs_ => (HO_2.out.1 k_ (hs_).symm)) (fun hn_ => (.inr (Nat.le_trans (by first | exact HK.out.1 | exact (show Kept w _ (fun k_ => P2_ k_) from by repeat (first | (with_reducible first | exact HK.out | apply Kept.alloc | apply Kept.drewN | apply Kept.drew) | exact HK.out)).1) hn_))))); have n1_ := Aside0.mk (Kept.then_ (S := (fun k_ => P2_ k_)) (by repeat (first | (with_reducible first | exact HK.out | apply Kept.alloc | apply Kept.drewN | apply Kept.drew) | exact HK.out)) hkp (fun k_ hs_ => (fun e_ => (HO_2.out.1 k_ e_.symm)) hs_)); have n2_ := Aside0.mk (hb); clear HK; clear HB; clear HO_2; have HO257 := n0_; have HK := n1_; have HB := n2_; clear n0_ n1_ n2_; (try clear hb); (try clear hkp); (try clear ho0); have p258 : 0 <= (t233 : Int) := oz; have q258 : t233 < (l0.length : Int) := oz; obtain ⟨ad258, e258, hx258_0, hx258_1, hx258_2⟩ := at_T55 (Kd.C_kept_now HR0.out HK.out) t233 p258 q258; obtain rfl : ad234 = ad258 := (by injection e258); replace p258 := eq_true p258; replace q258 := eq_true q258; obtain ⟨Ao61, co61, eo61⟩ := Kd.R_slice HO257.out; subst eo61) | ((with_reducible refine gate_callee (f := 57) rfl ?_); refine goesL_ (some 101) rfl rfl Tryd.func57 (by kernel_rfl) rfl #[.slice (some ad234) l0.length c0, .int .i64 ((rd_T55 l0 t233).f2), .slice Ao61 t255.length co61] rfl lz ?_; (with_reducible refine (ih kj26 (by have := HJ26.out; omega) _ _ l0 ((rd_T55 l0 t233).f2) (fun k_ => some k_ = (.slice Ao61 t255.length co61 : Value).ownBlock) (.slice Ao61 t255.length co61) t255 t259 t260 w0 _ ?side1 ?side2 ?side3 ?side4 A45.out).mono ?_); (case side1 => repeat (first | (with_reducible first | exact HB.out | apply below_alloc | apply pw_below_drewN | apply below_drew1) | exact HB.out)); (case side2 => exact Kd.C_kept_call HR0.out (by repeat (first | (with_reducible first | exact HK.out | apply Kept.alloc | apply Kept.drewN | apply Kept.drew) | exact HK.out)) (fun k_ hs_ => (fun e_ => (HO257.out.1 k_ e_.symm)) hs_)); (case side3 => exact HC0.out); (case side4 => exact Kd.R_tight rfl HO257.out); rintro e w62 ⟨v261, rfl, ho0, hb, hkp⟩; refine ⟨_, rfl, ?_⟩; have n0_ := Aside0.mk (Kd.R_mono (ok' := fun k_ => (P2_ k_ \/ w.heap.size <= k_)) ho0 (fun k_ hk_ => Or.elim hk_ (fun hs_ => (HO257.out.1 k_ (hs_).symm)) (fun hn_ => (.inr (Nat.le_trans (by first | exact HK.out.1 | exact (show Kept w _ (fun k_ => P2_ k_) from by repeat (first | (with_reducible first | exact HK.out | apply Kept.alloc | apply Kept.drewN | apply Kept.drew) | exact HK.out)).1) hn_))))); have n1_ := Aside0.mk (Kept.then_ (S := (fun k_ => P2_ k_)) (by repeat (first | (with_reducible first | exact HK.out | apply Kept.alloc | apply Kept.drewN | apply Kept.drew) | exact HK.out)) hkp (fun k_ hs_ => (fun e_ => (HO257.out.1 k_ e_.symm)) hs_)); have n2_ := Aside0.mk (hb); clear HK; clear HB; clear HO257; have HO262 := n0_; have HK := n1_; have HB := n2_; clear n0_ n1_ n2_; (try clear hb); (try clear hkp); (try clear ho0); have p263 : 0 <= (t233 : Int) := oz; have q263 : t233 < (l0.length : Int) := oz; obtain ⟨ad263, e263, hx263_0, hx263_1, hx263_2⟩ := at_T55 (Kd.C_kept_now HR0.out HK.out) t233 p263 q263; obtain rfl : ad234 = ad263 := (by injection e263); replace p263 := eq_true p263; replace q263 := eq_true q263))
       go_ret2
       exact ⟨_, gz, by refine rq ?_; exact HO262.out, (bz0 HB.out), by repeat (first | (with_reducible first | exact HK.out | apply Kept.alloc | apply Kept.drewN | apply Kept.drew) | exact HK.out)⟩
mutual
def spec_l8In.l0 : Nat -> List (S55) -> Int -> List Int -> Int -> Option (Bool)
 | 0, _, _, _, _ => none
 | k + 1, x0, x1, x7, x8 => if x8 < (x7.length : Int) then (if 0 <= x8 then ((spec_l8In.f k x0 x1 (rd x7 x8)).bind fun t271 => (if t271 = true then (some true) else (spec_l8In.l0 k x0 x1 x7 (wrap64 (x8 + 1))))) else (none)) else (some false)
def spec_l8In.f : Nat -> List (S55) -> Int -> Int -> Option (Bool)
 | 0, _, _, _ => none
 | k + 1, l0, a1, a2 => (spec_l8Find.f k l0 a2).bind fun t264 => (if t264 = a1 then (some true) else (if 0 <= t264 then (if t264 < (l0.length : Int) then (if ((rd_T55 l0 t264).f0) = 0 then (some false) else ((spec_l8Kids.f k ((rd_T55 l0 t264).f0) ((rd_T55 l0 t264).f1) ((rd_T55 l0 t264).f2)).bind fun t267 => (spec_l8In.l0 k l0 a1 t267 0))) else (none)) else (none)))
end
theorem spec_l8In.mono_l : ∀ k, (∀ y0 y1 y2, LeO (spec_l8In.f k y0 y1 y2) (spec_l8In.f (k + 1) y0 y1 y2)) /\ (∀ y0 y1 y2 y3, LeO (spec_l8In.l0 k y0 y1 y2 y3) (spec_l8In.l0 (k + 1) y0 y1 y2 y3))
 | 0 => ⟨fun _ _ _ r h => by simp [spec_l8In.f] at h, fun _ _ _ _ r h => by simp [spec_l8In.l0] at h⟩
 | k + 1 => by
  obtain ⟨ih0, ih1⟩ := spec_l8In.mono_l k
  refine ⟨?_, ?_⟩
  ·intro y0 y1 y2
   unfold spec_l8In.f
   with_reducible repeat' first | exact ih0 _ _ _ | exact ih1 _ _ _ _ | exact spec_l8Find.mono _ _ _ | exact spec_l8Kids.mono _ _ _ _ | exact lrz _ | exact lnz _ | refine liz ?_ ?_ | refine lbz ?_ fun _ => ?_
  ·intro y0 y1 y2 y3
   unfold spec_l8In.l0
   with_reducible repeat' first | exact ih0 _ _ _ | exact ih1 _ _ _ _ | exact spec_l8Find.mono _ _ _ | exact spec_l8Kids.mono _ _ _ _ | exact lrz _ | exact lnz _ | refine liz ?_ ?_ | refine lbz ?_ fun _ => ?_
theorem spec_l8In.mono : ∀ a0 a1 a2 k, LeO (spec_l8In.f k a0 a1 a2) (spec_l8In.f (k + 1) a0 a1 a2) := by
 intro a0 a1 a2 k
 obtain ⟨ih0, ih1⟩ := spec_l8In.mono_l k
 exact ih0 a0 a1 a2
set_option maxHeartbeats 8000000 in
set_option maxRecDepth 100000 in
theorem spec_l8In.calls (k : Nat) : ∀ (A0 : Option Addr) (c0 : Nat) (l0 : List (S55)) (a1 : Int) (a2 : Int) (r : Bool) (w : World) (hr0 : Kd.C k55 w A0 l0.length l0) (hc0 : l0.length <= c0) (h : spec_l8In.f k l0 a1 a2 = some r),
  Calls Tryd.prog 93 #[.slice A0 l0.length c0, .int .i64 a1, .int .i64 a2] w fun e w' => e = .returned (.bool r) /\ Below w.heap.size w w' := by
 induction k using Nat.strongRecOn with
 | _ k ih =>
 intro A0 c0 l0 a1 a2 r w hr0 hc0 h
 cases k with
 | zero => exact absurd h (by simp [spec_l8In.f])
 | succ k =>
 simp only [spec_l8In.f] at h
 have hu55 := Tryd.underlying55
 have HR0 := Aside0.mk hr0
 have HC0 := Aside0.mk hc0
 clear hr0 hc0
 have HB := Aside0.mk (Below.refl w.heap.size w)
 have H : ((spec_l8Find.f k l0 a2).bind fun t264 => (if t264 = a1 then (some true) else (if 0 <= t264 then (if t264 < (l0.length : Int) then (if ((rd_T55 l0 t264).f0) = 0 then (some false) else ((spec_l8Kids.f k ((rd_T55 l0 t264).f0) ((rd_T55 l0 t264).f1) ((rd_T55 l0 t264).f2)).bind fun t267 => (spec_l8In.l0 k l0 a1 t267 0))) else (none)) else (none)))) = some r := h
 clear h
 replace H := bi H
 obtain ⟨t264, A40, H⟩ := H
 try dsimp only at H
 have A4 := Aside0.mk A40
 clear A40
 by_cases c5 : t264 = a1
 ·rw [if_pos c5] at H
  have c5b0 : (t264 == a1) = true := beq_iff_eq.mpr c5
  have c5b1 : (t264 != a1) = false := bne_eq_false_iff_eq.mpr c5
  clear c5
  obtain rfl := Option.some.inj H
  go_enter Tryd.func93, Tryd.ntmps93
  go_wp2_with (first | ((with_reducible refine gate_callee (f := 81) rfl ?_); refine goesL_ (some 11) rfl rfl Tryd.func81 (by kernel_rfl) rfl #[.slice A0 l0.length c0, .int .i64 a2] rfl lz ?_; (with_reducible refine (spec_l8Find.calls k _ _ l0 a2 t264 _ ?side1 ?side2 A4.out).mono ?_); (case side1 => repeat (first | exact HR0.out | (with_reducible refine Kd.C_alloc ?_ _) | (with_reducible refine Kd.C_drewN ?_ _) | (with_reducible refine Kd.C_drew ?_))); (case side2 => exact HC0.out); rintro e w' ⟨rfl, ⟨nd, rfl⟩⟩; refine ⟨_, rfl, ?_⟩))
  go_ret
  exact ⟨gz, (bz0 HB.out)⟩
 ·rw [if_neg c5] at H
  have c5b0 : (t264 == a1) = false := beq_eq_false_iff_ne.mpr c5
  have c5b1 : (t264 != a1) = true := bne_iff_ne.mpr c5
  replace H := iz H
  obtain ⟨c6, H⟩ := H
  have c6b0 := decide_eq_true c6
  clear c6
  replace H := iz H
  obtain ⟨c7, H⟩ := H
  have c7b0 := decide_eq_true c7
  clear c7
  by_cases c8 : ((rd_T55 l0 t264).f0) = 0
  ·rw [if_pos c8] at H
   have c8b0 : (((rd_T55 l0 t264).f0) == 0) = true := beq_iff_eq.mpr c8
   have c8b1 : (((rd_T55 l0 t264).f0) != 0) = false := bne_eq_false_iff_eq.mpr c8
   clear c8
   obtain rfl := Option.some.inj H
   go_enter Tryd.func93, Tryd.ntmps93
   go_wp2_with (first | ((with_reducible refine gate_callee (f := 81) rfl ?_); refine goesL_ (some 11) rfl rfl Tryd.func81 (by kernel_rfl) rfl #[.slice A0 l0.length c0, .int .i64 a2] rfl lz ?_; (with_reducible refine (spec_l8Find.calls k _ _ l0 a2 t264 _ ?side1 ?side2 A4.out).mono ?_); (case side1 => repeat (first | exact HR0.out | (with_reducible refine Kd.C_alloc ?_ _) | (with_reducible refine Kd.C_drewN ?_ _) | (with_reducible refine Kd.C_drew ?_))); (case side2 => exact HC0.out); rintro e w' ⟨rfl, ⟨nd, rfl⟩⟩; refine ⟨_, rfl, ?_⟩; have p265 : 0 <= (t264 : Int) := oz; have q265 : t264 < (l0.length : Int) := oz; obtain ⟨ad265, e265, hx265_0, hx265_1, hx265_2⟩ := at_T55 HR0.out t264 p265 q265; cases e265; replace p265 := eq_true p265; replace q265 := eq_true q265))
   go_ret
   exact ⟨gz, (bz0 HB.out)⟩
  ·rw [if_neg c8] at H
   have c8b0 : (((rd_T55 l0 t264).f0) == 0) = false := beq_eq_false_iff_ne.mpr c8
   have c8b1 : (((rd_T55 l0 t264).f0) != 0) = true := bne_iff_ne.mpr c8
   replace H := bi H
   obtain ⟨t267, A90, H⟩ := H
   try dsimp only at H
   have A9 := Aside0.mk A90
   clear A90
   have H' := Aside0.mk H
   clear H
   go_enter Tryd.func93, Tryd.ntmps93
   go_wp2_with (first | ((with_reducible refine gate_callee (f := 81) rfl ?_); refine goesL_ (some 11) rfl rfl Tryd.func81 (by kernel_rfl) rfl #[.slice A0 l0.length c0, .int .i64 a2] rfl lz ?_; (with_reducible refine (spec_l8Find.calls k _ _ l0 a2 t264 _ ?side1 ?side2 A4.out).mono ?_); (case side1 => repeat (first | exact HR0.out | (with_reducible refine Kd.C_alloc ?_ _) | (with_reducible refine Kd.C_drewN ?_ _) | (with_reducible refine Kd.C_drew ?_))); (case side2 => exact HC0.out); rintro e w' ⟨rfl, ⟨nd, rfl⟩⟩; refine ⟨_, rfl, ?_⟩; have p265 : 0 <= (t264 : Int) := oz; have q265 : t264 < (l0.length : Int) := oz; obtain ⟨ad265, e265, hx265_0, hx265_1, hx265_2⟩ := at_T55 HR0.out t264 p265 q265; cases e265; replace p265 := eq_true p265; replace q265 := eq_true q265; have p266 : 0 <= (t264 : Int) := oz; have q266 : t264 < (l0.length : Int) := oz; obtain ⟨ad266, e266, hx266_0, hx266_1, hx266_2⟩ := at_T55 HR0.out t264 p266 q266; obtain rfl : ad265 = ad266 := (by injection e266); replace p266 := eq_true p266; replace q266 := eq_true q266) | ((with_reducible refine gate_callee (f := 56) rfl ?_); refine goesL_ (some 25) rfl rfl Tryd.func56 (by kernel_rfl) rfl #[.agg #[.int .i64 ((rd_T55 l0 t264).f0), .int .i64 ((rd_T55 l0 t264).f1), .int .i64 ((rd_T55 l0 t264).f2)]] rfl lz ?_; (with_reducible refine (spec_l8Kids.calls k ((rd_T55 l0 t264).f0) ((rd_T55 l0 t264).f1) ((rd_T55 l0 t264).f2) t267 _ A9.out).mono ?_); rintro e w10 ⟨v268, rfl, ho0, hb⟩; refine ⟨_, rfl, ?_⟩; have HO269 := Aside0.mk (Kd.R_lower ho0 (below_size (bz0 HB.out))); replace HB := Aside0.mk (below_step (bz0 HB.out) hb); (try clear hb); (try clear ho0)))
   go_loopg [8] k (fun kq v8 w' => ∃ (x8_1 : Int), v8 = .int .i64 x8_1 /\ Aside0 (spec_l8In.l0 kq l0 a1 t267 x8_1 = some r) /\ Aside0 (kq <= k) /\ Aside0 (Kd.R (Kd.int .i64) 3 w' w.heap.size (fun _ => True) v268 t267) /\ Aside0 (Below w.heap.size w w'))
   case atStart => exact ⟨(0), ez, H', ⟨Nat.le_refl _⟩, ⟨by refine rq ?_; exact HO269.out⟩, ⟨(bz0 HB.out)⟩⟩
   case round =>
    clear H'
    try clear p2
    try clear q2
    try clear hx2
    try clear c5
    try clear c5b0
    try clear c5b1
    try clear c6
    try clear c6b0
    try clear c7
    try clear c7b0
    try clear c8
    try clear c8b0
    try clear c8b1
    try clear c9
    try clear hx265_0
    try clear hx265_1
    try clear hx265_2
    try clear hx266_0
    try clear hx266_1
    try clear hx266_2
    try clear p265
    try clear p266
    try clear q265
    try clear q266
    obtain ⟨x8_1, rfl, HA, HK1, HO_7, HB⟩ := hrel
    cases gk with
    | zero => exact absurd HA.out (by simp [spec_l8In.l0])
    | succ k1 =>
     have H := HA.out
     clear HA
     simp only [spec_l8In.l0] at H
     by_cases c11 : x8_1 < (t267.length : Int)
     ·rw [if_pos c11] at H
      have c11b0 := decide_eq_true c11
      clear c11
      replace H := iz H
      obtain ⟨c12, H⟩ := H
      have c12b0 := decide_eq_true c12
      clear c12
      replace H := bi H
      obtain ⟨t271, A130, H⟩ := H
      try dsimp only at H
      have A13 := Aside0.mk A130
      clear A130
      by_cases c14 : t271 = true
      ·subst c14
       have H1 := hp H
       clear H
       have H := H1
       clear H1
       obtain rfl := Option.some.inj H
       obtain ⟨Ao15, co15, eo15⟩ := Kd.R_slice HO_7.out
       subst eo15
       have p270 : 0 <= (x8_1 : Int) := oz
       have q270 : x8_1 < (t267.length : Int) := oz
       obtain ⟨ad270, e270, hx270_0⟩ := Kd.at_int (Kd.R_reads' HO_7.out).2.2 x8_1 p270 q270
       cases e270
       replace p270 := eq_true p270
       replace q270 := eq_true q270
       go_wp2_with (first | ((with_reducible refine gate_callee (f := 93) rfl ?_); refine goesL_ (some 38) rfl rfl Tryd.func93 (by kernel_rfl) rfl #[.slice (some ad265) l0.length c0, .int .i64 a1, .int .i64 (rd t267 x8_1)] rfl lz ?_; (with_reducible refine (ih k1 (by have := HK1.out; omega) _ _ l0 a1 (rd t267 x8_1) true _ ?side1 ?side2 A13.out).mono ?_); (case side1 => exact cz (Kd.C_below HR0.out HB.out)); (case side2 => exact HC0.out); rintro e w16 ⟨rfl, hb⟩; refine ⟨_, rfl, ?_⟩; replace HO_7 := qz HO_7 hb; replace HB := Aside0.mk (below_step (bz0 HB.out) hb); (try clear hb); (try clear hi)))
       go_ret
       exact ⟨gz, (bz0 HB.out)⟩
      ·replace c14 := Bool.eq_false_iff.mpr c14
       subst c14
       have H1 := hq H
       clear H
       have H := H1
       clear H1
       have H' := Aside0.mk H
       clear H
       obtain ⟨Ao17, co17, eo17⟩ := Kd.R_slice HO_7.out
       subst eo17
       have p270 : 0 <= (x8_1 : Int) := oz
       have q270 : x8_1 < (t267.length : Int) := oz
       obtain ⟨ad270, e270, hx270_0⟩ := Kd.at_int (Kd.R_reads' HO_7.out).2.2 x8_1 p270 q270
       cases e270
       replace p270 := eq_true p270
       replace q270 := eq_true q270
       go_wp2_with (first | ((with_reducible refine gate_callee (f := 93) rfl ?_); refine goesL_ (some 38) rfl rfl Tryd.func93 (by kernel_rfl) rfl #[.slice (some ad265) l0.length c0, .int .i64 a1, .int .i64 (rd t267 x8_1)] rfl lz ?_; (with_reducible refine (ih k1 (by have := HK1.out; omega) _ _ l0 a1 (rd t267 x8_1) false _ ?side1 ?side2 A13.out).mono ?_); (case side1 => exact cz (Kd.C_below HR0.out HB.out)); (case side2 => exact HC0.out); rintro e w18 ⟨rfl, hb⟩; refine ⟨_, rfl, ?_⟩; replace HO_7 := qz HO_7 hb; replace HB := Aside0.mk (below_step (bz0 HB.out) hb); (try clear hb); (try clear hi)))
       go_roundg k1
       case measure => have := HK1.out; omega
       case rel => exact ⟨(wrap64 (x8_1 + 1)), ez, H', ⟨by have := HK1.out; omega⟩, ⟨by refine rq ?_; exact HO_7.out⟩, ⟨(bz0 HB.out)⟩⟩
     ·rw [if_neg c11] at H
      have c11b0 := decide_eq_false c11
      clear c11
      obtain rfl := Option.some.inj H
      obtain ⟨Ao19, co19, eo19⟩ := Kd.R_slice HO_7.out
      subst eo19
      go_wp2
      go_ret
      exact ⟨gz, (bz0 HB.out)⟩
end Go.Proofs.YtlhofeikcaejpaaDoor.PFnExactUnified
