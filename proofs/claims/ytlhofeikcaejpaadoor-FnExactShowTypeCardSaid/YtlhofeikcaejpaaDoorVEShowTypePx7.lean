/- PFnExactShowTypex7, of the words and walks that the law FnExactShowType needs; made by this session's program out of printed texts. -/

import Derived.Test.YtlhofeikcaejpaaDoorVEShowTypePx0
import Derived.Test.YtlhofeikcaejpaaDoorVEShowTypePx4
import Derived.Test.YtlhofeikcaejpaaDoorVEShowTypePx6
namespace Go.Proofs.YtlhofeikcaejpaaDoor.PFnExactShowType
open Go.RowKit Go.Proofs.YtlhofeikcaejpaaDoorW.PrintWords Go.Proofs.YtlhofeikcaejpaaDoorW.PrintLast Go.Proofs.YtlhofeikcaejpaaDoorW.PrintMore
attribute [local go_sem] max2_int min2_int max_two min_two max_three min_three max_four min_four
set_option linter.unusedVariables false
set_option linter.unusedSimpArgs false
mutual
def spec_l8Show.l0 : Nat -> Int -> List Int -> Int -> Option (ByteArray × List Int)
 | 0, _, _, _ => none
 | k + 1, x1, x2, x8 => if x8 < (x2.length : Int) then (if 0 <= x8 then (if (rd x2 x8) = x1 then ((spec_Dec.f k x8).bind fun t223 => (if 1 + t223.size <= 9223372036854775807 then (some ((⟨#[39]⟩ : ByteArray) ++ t223, x2)) else (none))) else (spec_l8Show.l0 k x1 x2 (wrap64 (x8 + 1)))) else (none)) else ((spec_Dec.f k (x2.length : Int)).bind fun t224 => (if 1 + t224.size <= 9223372036854775807 then ((some (([] : List Int) : List Int)).bind fun y225 => (if y225.length + x2.length < 17592186044416 then ((some (y225 ++ x2 : List Int)).bind fun y228 => (if y228.length < 17592186044416 then (some ((⟨#[39]⟩ : ByteArray) ++ t224, (y228 ++ [x1]))) else (none))) else (none))) else (none)))
def spec_l8Show.j1 : Nat -> List (S55) -> Int -> List Int -> Bool -> Option (ByteArray × List Int)
 | 0, _, _, _, _ => none
 | k + 1, x0, x1, x2, x54 => if x54 = true then (if 0 <= x1 then (if x1 < (x0.length : Int) then ((spec_l8Show.f k x0 ((rd_T55 x0 x1).f1) x2).bind fun bt235 => (if ((rd_T55 x0 x1).f0) = 5 then (if 5 + bt235.1.size <= 9223372036854775807 then (if ((⟨#[40, 114, 101, 102, 32]⟩ : ByteArray) ++ bt235.1).size + 1 <= 9223372036854775807 then (some (((⟨#[40, 114, 101, 102, 32]⟩ : ByteArray) ++ bt235.1) ++ (⟨#[41]⟩ : ByteArray), bt235.2)) else (none)) else (none)) else (if 6 + bt235.1.size <= 9223372036854775807 then (if ((⟨#[40, 108, 105, 115, 116, 32]⟩ : ByteArray) ++ bt235.1).size + 1 <= 9223372036854775807 then (some (((⟨#[40, 108, 105, 115, 116, 32]⟩ : ByteArray) ++ bt235.1) ++ (⟨#[41]⟩ : ByteArray), bt235.2)) else (none)) else (none)))) else (none)) else (none)) else (if 0 <= x1 then (if x1 < (x0.length : Int) then ((spec_l8Show.f k x0 ((rd_T55 x0 x1).f1) x2).bind fun bt241 => ((spec_l8Show.f k x0 ((rd_T55 x0 x1).f2) bt241.2).bind fun bt246 => (if ((rd_T55 x0 x1).f0) = 2 then (if 1 + bt241.1.size <= 9223372036854775807 then (if ((⟨#[40]⟩ : ByteArray) ++ bt241.1).size + 4 <= 9223372036854775807 then (if (((⟨#[40]⟩ : ByteArray) ++ bt241.1) ++ (⟨#[32, 45, 62, 32]⟩ : ByteArray)).size + bt246.1.size <= 9223372036854775807 then (if ((((⟨#[40]⟩ : ByteArray) ++ bt241.1) ++ (⟨#[32, 45, 62, 32]⟩ : ByteArray)) ++ bt246.1).size + 1 <= 9223372036854775807 then (some (((((⟨#[40]⟩ : ByteArray) ++ bt241.1) ++ (⟨#[32, 45, 62, 32]⟩ : ByteArray)) ++ bt246.1) ++ (⟨#[41]⟩ : ByteArray), bt246.2)) else (none)) else (none)) else (none)) else (none)) else (if 1 + bt241.1.size <= 9223372036854775807 then (if ((⟨#[40]⟩ : ByteArray) ++ bt241.1).size + 3 <= 9223372036854775807 then (if (((⟨#[40]⟩ : ByteArray) ++ bt241.1) ++ (⟨#[32, 42, 32]⟩ : ByteArray)).size + bt246.1.size <= 9223372036854775807 then (if ((((⟨#[40]⟩ : ByteArray) ++ bt241.1) ++ (⟨#[32, 42, 32]⟩ : ByteArray)) ++ bt246.1).size + 1 <= 9223372036854775807 then (some (((((⟨#[40]⟩ : ByteArray) ++ bt241.1) ++ (⟨#[32, 42, 32]⟩ : ByteArray)) ++ bt246.1) ++ (⟨#[41]⟩ : ByteArray), bt246.2)) else (none)) else (none)) else (none)) else (none))))) else (none)) else (none))
def spec_l8Show.f : Nat -> List (S55) -> Int -> List Int -> Option (ByteArray × List Int)
 | 0, _, _, _ => none
 | k + 1, l0, a1, l2 => (spec_l8Find.f k l0 a1).bind fun t220 => (if 0 <= t220 then (if t220 < (l0.length : Int) then (if ((rd_T55 l0 t220).f0) = 0 then (spec_l8Show.l0 k t220 l2 0) else (if ((rd_T55 l0 t220).f0) = 1 then (some ((⟨#[105, 110, 116]⟩ : ByteArray), l2)) else (if ((rd_T55 l0 t220).f0) = 4 then (spec_l8Show.j1 k l0 t220 l2 (((rd_T55 l0 t220).f0) == 4)) else (spec_l8Show.j1 k l0 t220 l2 (((rd_T55 l0 t220).f0) == 5))))) else (none)) else (none))
end
theorem spec_l8Show.mono_l : ∀ k, (∀ y0 y1 y2, LeO (spec_l8Show.f k y0 y1 y2) (spec_l8Show.f (k + 1) y0 y1 y2)) /\ (∀ y0 y1 y2, LeO (spec_l8Show.l0 k y0 y1 y2) (spec_l8Show.l0 (k + 1) y0 y1 y2)) /\ (∀ y0 y1 y2 y3, LeO (spec_l8Show.j1 k y0 y1 y2 y3) (spec_l8Show.j1 (k + 1) y0 y1 y2 y3))
 | 0 => ⟨fun _ _ _ r h => by simp [spec_l8Show.f] at h, fun _ _ _ r h => by simp [spec_l8Show.l0] at h, fun _ _ _ _ r h => by simp [spec_l8Show.j1] at h⟩
 | k + 1 => by
  obtain ⟨ih0, ih1, ih2⟩ := spec_l8Show.mono_l k
  refine ⟨?_, ?_, ?_⟩
  ·intro y0 y1 y2
   unfold spec_l8Show.f
   with_reducible repeat' first | exact ih0 _ _ _ | exact ih1 _ _ _ | exact ih2 _ _ _ _ | exact spec_Dec.mono _ _ | exact spec_l8Find.mono _ _ _ | exact lrz _ | exact lnz _ | refine liz ?_ ?_ | refine lbz ?_ fun _ => ?_
  ·intro y0 y1 y2
   unfold spec_l8Show.l0
   with_reducible repeat' first | exact ih0 _ _ _ | exact ih1 _ _ _ | exact ih2 _ _ _ _ | exact spec_Dec.mono _ _ | exact spec_l8Find.mono _ _ _ | exact lrz _ | exact lnz _ | refine liz ?_ ?_ | refine lbz ?_ fun _ => ?_
  ·intro y0 y1 y2 y3
   unfold spec_l8Show.j1
   with_reducible repeat' first | exact ih0 _ _ _ | exact ih1 _ _ _ | exact ih2 _ _ _ _ | exact spec_Dec.mono _ _ | exact spec_l8Find.mono _ _ _ | exact lrz _ | exact lnz _ | refine liz ?_ ?_ | refine lbz ?_ fun _ => ?_
theorem spec_l8Show.mono : ∀ a0 a1 a2 k, LeO (spec_l8Show.f k a0 a1 a2) (spec_l8Show.f (k + 1) a0 a1 a2) := by
 intro a0 a1 a2 k
 obtain ⟨ih0, ih1, ih2⟩ := spec_l8Show.mono_l k
 exact ih0 a0 a1 a2
set_option maxHeartbeats 8000000 in
set_option maxRecDepth 100000 in
theorem spec_l8Show.calls (k : Nat) : ∀ (A0 : Option Addr) (c0 : Nat) (l0 : List (S55)) (a1 : Int) (P2_ : Nat -> Prop) (u9000_ : Value) (l2 : List Int) (r1 : ByteArray) (r2 : List Int) (w0 w : World) (hB : Below w0.heap.size w0 w) (hr0 : ∀ W_, Kept w W_ (fun k_ => P2_ k_) -> Kd.C k55 W_ A0 l0.length l0) (hc0 : l0.length <= c0) (ho2 : Kd.R (Kd.int .i64) 3 w w0.heap.size P2_ u9000_ l2) (h : spec_l8Show.f k l0 a1 l2 = some (r1, r2)),
  Calls Tryd.prog 57 #[.slice A0 l0.length c0, .int .i64 a1, u9000_] w fun e w' => ∃ v1_ : Value, e = .returned (.tuple #[.string r1, v1_]) /\ Kd.R (Kd.int .i64) 3 w' w0.heap.size (fun k_ => (P2_ k_ \/ w.heap.size <= k_)) v1_ r2 /\ Below w0.heap.size w0 w' /\ Kept w w' (fun k_ => P2_ k_) := by
 induction k using Nat.strongRecOn with
 | _ k ih =>
 intro A0 c0 l0 a1 P2_ u9000_ l2 r1 r2 w0 w hB hr0 hc0 ho2 h
 cases k with
 | zero => exact absurd h (by simp [spec_l8Show.f])
 | succ k =>
 simp only [spec_l8Show.f] at h
 have HR0 := Aside0.mk hr0
 have HC0 := Aside0.mk hc0
 clear hr0 hc0
 have HO2 := Aside0.mk (show Kd.R (Kd.int .i64) 3 w w0.heap.size (fun k_ => (P2_ k_ \/ w.heap.size <= k_)) u9000_ l2 from Kd.R_mono ho2 (fun k_ hk => (.inl hk)))
 have HK := Aside0.mk (Kept.refl w (fun k_ => P2_ k_))
 have HW0 := Aside0.mk hB.size
 have HB := Aside0.mk hB
 clear hB
 have H : ((spec_l8Find.f k l0 a1).bind fun t220 => (if 0 <= t220 then (if t220 < (l0.length : Int) then (if ((rd_T55 l0 t220).f0) = 0 then (spec_l8Show.l0 k t220 l2 0) else (if ((rd_T55 l0 t220).f0) = 1 then (some ((⟨#[105, 110, 116]⟩ : ByteArray), l2)) else (if ((rd_T55 l0 t220).f0) = 4 then (spec_l8Show.j1 k l0 t220 l2 (((rd_T55 l0 t220).f0) == 4)) else (spec_l8Show.j1 k l0 t220 l2 (((rd_T55 l0 t220).f0) == 5))))) else (none)) else (none))) = some (r1, r2) := h
 clear h
 replace H := bi H
 obtain ⟨t220, A40, H⟩ := H
 try dsimp only at H
 have A4 := Aside0.mk A40
 clear A40
 replace H := iz H
 obtain ⟨c5, H⟩ := H
 have c5b0 := decide_eq_true c5
 clear c5
 replace H := iz H
 obtain ⟨c6, H⟩ := H
 have c6b0 := decide_eq_true c6
 clear c6
 by_cases c7 : ((rd_T55 l0 t220).f0) = 0
 ·rw [if_pos c7] at H
  have c7b0 : (((rd_T55 l0 t220).f0) == 0) = true := beq_iff_eq.mpr c7
  have c7b1 : (((rd_T55 l0 t220).f0) != 0) = false := bne_eq_false_iff_eq.mpr c7
  clear c7
  have H' := Aside0.mk H
  clear H
  go_enter Tryd.func57, Tryd.ntmps57
  go_wp2_with (first | ((with_reducible refine gate_callee (f := 81) rfl ?_); refine goesL_ (some 17) rfl rfl Tryd.func81 (by kernel_rfl) rfl #[.slice A0 l0.length c0, .int .i64 a1] rfl lz ?_; (with_reducible refine (spec_l8Find.calls k _ _ l0 a1 t220 _ ?side1 ?side2 A4.out).mono ?_); (case side1 => exact Kd.C_kept_now HR0.out (by repeat (first | (with_reducible first | exact HK.out | apply Kept.alloc | apply Kept.drewN | apply Kept.drew) | exact HK.out))); (case side2 => exact HC0.out); rintro e w' ⟨rfl, ⟨nd, rfl⟩⟩; refine ⟨_, rfl, ?_⟩; have p221 : 0 <= (t220 : Int) := oz; have q221 : t220 < (l0.length : Int) := oz; obtain ⟨ad221, e221, hx221_0, hx221_1, hx221_2⟩ := at_T55 (Kd.C_kept_now HR0.out HK.out) t220 p221 q221; cases e221; replace p221 := eq_true p221; replace q221 := eq_true q221))
  go_loopg [8] k (fun kq v8 w' => ∃ (x8_1 : Int), v8 = .int .i64 x8_1 /\ Aside0 (spec_l8Show.l0 kq t220 l2 x8_1 = some (r1, r2)) /\ Aside0 (kq <= k) /\ Aside0 (Kd.R (Kd.int .i64) 3 w' w0.heap.size (fun k_ => (P2_ k_ \/ w.heap.size <= k_)) u9000_ l2) /\ Aside0 (Kept w w' (fun k_ => P2_ k_)) /\ Aside0 (Below w0.heap.size w0 w'))
  case atStart => exact ⟨(0), ez, H', ⟨Nat.le_refl _⟩, ⟨by refine rq ?_; exact HO2.out⟩, ⟨by repeat (first | (with_reducible first | exact HK.out | apply Kept.alloc | apply Kept.drewN | apply Kept.drew) | exact HK.out)⟩, ⟨(bz0 HB.out)⟩⟩
  case round =>
   clear H'
   try clear p2
   try clear q2
   try clear hx2
   try clear c5
   try clear c5b0
   try clear c6
   try clear c6b0
   try clear c7
   try clear c7b0
   try clear c7b1
   try clear hx221_0
   try clear hx221_1
   try clear hx221_2
   try clear p221
   try clear q221
   obtain ⟨x8_1, rfl, HA, HK1, HO_2, HK, HB⟩ := hrel
   cases gk with
   | zero => exact absurd HA.out (by simp [spec_l8Show.l0])
   | succ k1 =>
    have H := HA.out
    clear HA
    simp only [spec_l8Show.l0] at H
    by_cases c8 : x8_1 < (l2.length : Int)
    ·rw [if_pos c8] at H
     have c8b0 := decide_eq_true c8
     clear c8
     replace H := iz H
     obtain ⟨c9, H⟩ := H
     have c9b0 := decide_eq_true c9
     clear c9
     by_cases c10 : (rd l2 x8_1) = t220
     ·rw [if_pos c10] at H
      have c10b0 : ((rd l2 x8_1) == t220) = true := beq_iff_eq.mpr c10
      have c10b1 : ((rd l2 x8_1) != t220) = false := bne_eq_false_iff_eq.mpr c10
      clear c10
      replace H := bi H
      obtain ⟨t223, A110, H⟩ := H
      try dsimp only at H
      have A11 := Aside0.mk A110
      clear A110
      replace H := iz H
      obtain ⟨c12, H⟩ := H
      have c12b0 := eq_true c12
      have c12b1 : decide (1 + t223.size <= 9223372036854775807) = true := decide_eq_true c12
      try have c12b2 : (9223372036854775807 < 1 + t223.size) = False := eq_false (Nat.not_lt.2 c12)
      simp only [Option.some.injEq, Prod.mk.injEq] at H
      obtain ⟨rfl, rfl⟩ := H
      obtain ⟨Ao13, co13, eo13⟩ := Kd.R_slice HO_2.out
      subst eo13
      have p222 : 0 <= (x8_1 : Int) := oz
      have q222 : x8_1 < (l2.length : Int) := oz
      obtain ⟨ad222, e222, hx222_0⟩ := Kd.at_int (Kd.R_reads' HO_2.out).2.2 x8_1 p222 q222
      cases e222
      replace p222 := eq_true p222
      replace q222 := eq_true q222
      go_wp2_with (first | ((with_reducible refine gate_callee (f := 83) rfl ?_); refine goesL_ (some 38) rfl rfl Tryd.func83 (by kernel_rfl) rfl #[.int .i64 x8_1] rfl lz ?_; (with_reducible refine (spec_Dec.calls k1 x8_1 t223 _ A11.out).mono ?_); rintro e w14 ⟨rfl, hb⟩; refine ⟨_, rfl, ?_⟩; replace HO_2 := qz HO_2 hb; replace HK := Aside0.mk (Kept.below (S := (fun k_ => P2_ k_)) (by repeat (first | (with_reducible first | exact HK.out | apply Kept.alloc | apply Kept.drewN | apply Kept.drew) | exact HK.out)) hb); replace HB := Aside0.mk (below_step (bz0 HB.out) hb); (try clear hb); (try clear hi)))
      go_ret2
      exact ⟨_, gz, by refine rq ?_; exact HO_2.out, (bz0 HB.out), by repeat (first | (with_reducible first | exact HK.out | apply Kept.alloc | apply Kept.drewN | apply Kept.drew) | exact HK.out)⟩
     ·rw [if_neg c10] at H
      have c10b0 : ((rd l2 x8_1) == t220) = false := beq_eq_false_iff_ne.mpr c10
      have c10b1 : ((rd l2 x8_1) != t220) = true := bne_iff_ne.mpr c10
      have H' := Aside0.mk H
      clear H
      obtain ⟨Ao15, co15, eo15⟩ := Kd.R_slice HO_2.out
      subst eo15
      have p222 : 0 <= (x8_1 : Int) := oz
      have q222 : x8_1 < (l2.length : Int) := oz
      obtain ⟨ad222, e222, hx222_0⟩ := Kd.at_int (Kd.R_reads' HO_2.out).2.2 x8_1 p222 q222
      cases e222
      replace p222 := eq_true p222
      replace q222 := eq_true q222
      go_wp2
      go_roundg k1
      case measure => have := HK1.out; omega
      case rel => exact ⟨(wrap64 (x8_1 + 1)), ez, H', ⟨by have := HK1.out; omega⟩, ⟨by refine rq ?_; exact HO_2.out⟩, ⟨by repeat (first | (with_reducible first | exact HK.out | apply Kept.alloc | apply Kept.drewN | apply Kept.drew) | exact HK.out)⟩, ⟨(bz0 HB.out)⟩⟩
    ·rw [if_neg c8] at H
     have c8b0 := decide_eq_false c8
     clear c8
     replace H := bi H
     obtain ⟨t224, A160, H⟩ := H
     try dsimp only at H
     have A16 := Aside0.mk A160
     clear A160
     replace H := iz H
     obtain ⟨c17, H⟩ := H
     have c17b0 := eq_true c17
     have c17b1 : decide (1 + t224.size <= 9223372036854775807) = true := decide_eq_true c17
     try have c17b2 : (9223372036854775807 < 1 + t224.size) = False := eq_false (Nat.not_lt.2 c17)
     obtain ⟨y225, hy225⟩ : ∃ y_ : List Int, y_ = (([] : List Int)) := ⟨_, rfl⟩
     replace H : (if y225.length + l2.length < 17592186044416 then ((some (y225 ++ l2 : List Int)).bind fun y228 => (if y228.length < 17592186044416 then (some ((⟨#[39]⟩ : ByteArray) ++ t224, (y228 ++ [t220]))) else (none))) else (none)) = some (r1, r2) := yz hy225 H
     have Ny225 := Aside0.mk hy225
     clear hy225
     replace H := iz H
     obtain ⟨c18, H⟩ := H
     have LMc18 := Aside0.mk c18
     clear c18
     obtain ⟨y228, hy228⟩ : ∃ y_ : List Int, y_ = (y225 ++ l2) := ⟨_, rfl⟩
     replace H : (if y228.length < 17592186044416 then (some ((⟨#[39]⟩ : ByteArray) ++ t224, (y228 ++ [t220]))) else (none)) = some (r1, r2) := yz hy228 H
     have Ny228 := Aside0.mk hy228
     clear hy228
     replace H := iz H
     obtain ⟨c19, H⟩ := H
     have LMc19 := Aside0.mk c19
     clear c19
     obtain ⟨y231, hy231⟩ : ∃ y_ : List Int, y_ = (y228 ++ [t220]) := ⟨_, rfl⟩
     replace H : (some ((⟨#[39]⟩ : ByteArray) ++ t224, y231)) = some (r1, r2) := yz hy231 H
     have Ny231 := Aside0.mk hy231
     clear hy231
     simp only [Option.some.injEq, Prod.mk.injEq] at H
     obtain ⟨rfl, rfl⟩ := H
     obtain ⟨Ao20, co20, eo20⟩ := Kd.R_slice HO_2.out
     subst eo20
     go_wp2_with (first | ((with_reducible refine gate_callee (f := 83) rfl ?_); refine goesL_ (some 43) rfl rfl Tryd.func83 (by kernel_rfl) rfl #[.int .i64 (l2.length : Int)] rfl lz ?_; (with_reducible refine (spec_Dec.calls k1 (l2.length : Int) t224 _ A16.out).mono ?_); rintro e w21 ⟨rfl, hb⟩; refine ⟨_, rfl, ?_⟩; replace HO_2 := qz HO_2 hb; replace HK := Aside0.mk (Kept.below (S := (fun k_ => P2_ k_)) (by repeat (first | (with_reducible first | exact HK.out | apply Kept.alloc | apply Kept.drewN | apply Kept.drew) | exact HK.out)) hb); replace HB := Aside0.mk (below_step (bz0 HB.out) hb); (try clear hb); (try clear hk); (try clear hi)) | ((with_reducible refine gate_dst (N := 45) rfl ?_); refine Kd.R_lit (Kd.int .i64) _ 3 ?hg (N := 45) ?hd (xs := ([] : List Int)) (inner := []) (ok := fun _ => True) (okp := fun _ => True) ?hr ?hp (fun _ hk => hk) trivial (Below.refl _ _) (Nat.le_refl _) (by simp) ?_; (case hd => rfl); (case hg => rfl); (case hr => exact vz); (case hp => exact (Reps.none _ _)); intro v226 w22 ho23 hb hg_ hnew_; clear hg_ hnew_; (first | rw [<- Ny225.out] at ho23 | (simp only [Int.reduceToNat] at ho23; rw [<- Ny225.out] at ho23)); have HO227 := Aside0.mk (Kd.R_lower (Kd.R_new' (Kd.R_newM (M := fun k_ => (P2_ k_ \/ w.heap.size <= k_)) ho23 (by first | exact HK.out.1 | exact (show Kept w _ (fun k_ => P2_ k_) from by repeat (first | (with_reducible first | exact HK.out | apply Kept.alloc | apply Kept.drewN | apply Kept.drew) | exact HK.out)).1) (fun k_ h_ => .inr h_)) (Kd.R_lt (rz HO_2.out))) (below_size (bz0 HB.out))); replace HO_2 := Aside0.mk (Kd.R_elder' (rz HO_2.out) (Kd.R_base ho23) hb); replace HK := Aside0.mk (Kept.below (S := (fun k_ => P2_ k_)) (by repeat (first | (with_reducible first | exact HK.out | apply Kept.alloc | apply Kept.drewN | apply Kept.drew) | exact HK.out)) hb); replace HB := Aside0.mk (below_step (bz0 HB.out) hb); clear hb ho23) | ((with_reducible refine gate_builtin (b := .append) (xs := #[.tmp 45, .tmp 46]) rfl ?_); at_builtin; refine Kd.R_append_rows (Kd.int .i64) (w0 := w0) w0.heap.size rfl (.tmp 45) (.tmp 46) 89 3 (.int .i64 0) 8 rfl Tryd.underlying89 info3 rfl (by decide) (by omega) v226 y225 l2 _ _ _ (fun k_ => (P2_ k_ \/ w.heap.size <= k_) /\ some k_ ≠ (.slice Ao20 l2.length co20 : Value).ownBlock) (fun _ => False) rfl rfl ?aO ?aR (fun _ _ h => h) (fun _ h => h.elim) ?aF ?aB ?aS ?aL ?_; (case aR => exact cz (Kd.R_reads' HO_2.out).2.2); (case aB => exact (bz0 HB.out)); (case aF => exact (fun k_ hk => ⟨(.inr (Nat.le_trans (by first | exact HK.out.1 | exact (show Kept w _ (fun k_ => P2_ k_) from by repeat (first | (with_reducible first | exact HK.out | apply Kept.alloc | apply Kept.drewN | apply Kept.drew) | exact HK.out)).1) hk)), Kd.fresh' (Kd.R_lt (rz HO_2.out)) k_ hk⟩)); (case aO => exact (by refine rq ?_; exact Kd.R_mono HO227.out (fun _ hk => ⟨hk.1.1, hk.2⟩))); (case aS => exact (below_size (bz0 HB.out))); (case aL => have := LMc18.out; omega); intro v229 w24 ho hb hg hat; rw [<- Ny228.out] at ho; have n0_ := Aside0.mk (Kd.R_after (ok := (fun k_ => (P2_ k_ \/ w.heap.size <= k_))) (rz HO_2.out) hg hat); have n1_ := Aside0.mk (hb); have n2_ := Aside0.mk (Kept.of_grown (S := (fun k_ => P2_ k_)) hg (by repeat (first | (with_reducible first | exact HK.out | apply Kept.alloc | apply Kept.drewN | apply Kept.drew) | exact HK.out)) (fun k_ e_ => (HO227.out.1 k_ e_).1.1)); have n3_ := Aside0.mk (ho); clear HO_2; clear HB; clear HK; clear HO227; have HO_2 := n0_; have HB := n1_; have HK := n2_; have HO230 := n3_; clear n0_ n1_ n2_ n3_; clear ho hb hg hat) | ((with_reducible refine gate_builtin (b := .append) (xs := #[.tmp 47, .tmp 49]) rfl ?_); at_builtin; refine Kd.R_append (Kd.int .i64) (w0 := w0) w0.heap.size rfl (.tmp 47) (.tmp 49) 89 3 (.int .i64 0) 8 rfl Tryd.underlying89 info3 rfl (by decide) (by omega) v229 y228 t220 [.int .i64 t220] (fun k_ => (P2_ k_ \/ w.heap.size <= k_) /\ some k_ ≠ (.slice Ao20 l2.length co20 : Value).ownBlock) (fun _ => False) rfl rfl ?aP (fun _ hk => hk.elim) ?aF ?aO ?aB ?aS ?aL ?_; (case aP => exact rfl); (case aB => exact (bz0 HB.out)); (case aF => exact (fun k_ hk => ⟨(.inr (Nat.le_trans (by first | exact HK.out.1 | exact (show Kept w _ (fun k_ => P2_ k_) from by repeat (first | (with_reducible first | exact HK.out | apply Kept.alloc | apply Kept.drewN | apply Kept.drew) | exact HK.out)).1) hk)), Kd.fresh' (Kd.R_lt (rz HO_2.out)) k_ hk⟩)); (case aO => exact (rz HO230.out)); (case aS => exact (below_size (bz0 HB.out))); (case aL => have := LMc19.out; omega); intro v232 w25 ho hb hg hat; rw [<- Ny231.out] at ho; have n0_ := Aside0.mk (Kd.R_after (ok := (fun k_ => (P2_ k_ \/ w.heap.size <= k_))) (rz HO_2.out) hg hat); have n1_ := Aside0.mk (hb); have n2_ := Aside0.mk (Kept.of_grown (S := (fun k_ => P2_ k_)) hg (by repeat (first | (with_reducible first | exact HK.out | apply Kept.alloc | apply Kept.drewN | apply Kept.drew) | exact HK.out)) (fun k_ e_ => (HO230.out.1 k_ e_).1)); have n3_ := Aside0.mk (ho); clear HO_2; clear HB; clear HK; clear HO230; have HO_2 := n0_; have HB := n1_; have HK := n2_; have HO233 := n3_; clear n0_ n1_ n2_ n3_; clear ho hb hg hat))
     go_ret2
     exact ⟨_, gz, by refine rq ?_; exact Kd.R_mono HO233.out (fun _ hk => hk.1), (bz0 HB.out), by repeat (first | (with_reducible first | exact HK.out | apply Kept.alloc | apply Kept.drewN | apply Kept.drew) | exact HK.out)⟩
 ·rw [if_neg c7] at H
  have c7b0 : (((rd_T55 l0 t220).f0) == 0) = false := beq_eq_false_iff_ne.mpr c7
  have c7b1 : (((rd_T55 l0 t220).f0) != 0) = true := bne_iff_ne.mpr c7
  by_cases c26 : ((rd_T55 l0 t220).f0) = 1
  ·rw [if_pos c26] at H
   have c26b0 : (((rd_T55 l0 t220).f0) == 1) = true := beq_iff_eq.mpr c26
   have c26b1 : (((rd_T55 l0 t220).f0) != 1) = false := bne_eq_false_iff_eq.mpr c26
   clear c26
   simp only [Option.some.injEq, Prod.mk.injEq] at H
   obtain ⟨rfl, rfl⟩ := H
   go_enter Tryd.func57, Tryd.ntmps57
   go_wp2_with (first | ((with_reducible refine gate_callee (f := 81) rfl ?_); refine goesL_ (some 17) rfl rfl Tryd.func81 (by kernel_rfl) rfl #[.slice A0 l0.length c0, .int .i64 a1] rfl lz ?_; (with_reducible refine (spec_l8Find.calls k _ _ l0 a1 t220 _ ?side1 ?side2 A4.out).mono ?_); (case side1 => exact Kd.C_kept_now HR0.out (by repeat (first | (with_reducible first | exact HK.out | apply Kept.alloc | apply Kept.drewN | apply Kept.drew) | exact HK.out))); (case side2 => exact HC0.out); rintro e w' ⟨rfl, ⟨nd, rfl⟩⟩; refine ⟨_, rfl, ?_⟩; have p221 : 0 <= (t220 : Int) := oz; have q221 : t220 < (l0.length : Int) := oz; obtain ⟨ad221, e221, hx221_0, hx221_1, hx221_2⟩ := at_T55 (Kd.C_kept_now HR0.out HK.out) t220 p221 q221; cases e221; replace p221 := eq_true p221; replace q221 := eq_true q221))
   go_ret2
   exact ⟨_, gz, by refine rq ?_; exact HO2.out, (bz0 HB.out), by repeat (first | (with_reducible first | exact HK.out | apply Kept.alloc | apply Kept.drewN | apply Kept.drew) | exact HK.out)⟩
  ·rw [if_neg c26] at H
   have c26b0 : (((rd_T55 l0 t220).f0) == 1) = false := beq_eq_false_iff_ne.mpr c26
   have c26b1 : (((rd_T55 l0 t220).f0) != 1) = true := bne_iff_ne.mpr c26
   have HC27 := Aside0.mk H
   clear H
   go_enter Tryd.func57, Tryd.ntmps57
   go_upto_if 54 with (first | ((with_reducible refine gate_callee (f := 81) rfl ?_); refine goesL_ (some 17) rfl rfl Tryd.func81 (by kernel_rfl) rfl #[.slice A0 l0.length c0, .int .i64 a1] rfl lz ?_; (with_reducible refine (spec_l8Find.calls k _ _ l0 a1 t220 _ ?side1 ?side2 A4.out).mono ?_); (case side1 => exact Kd.C_kept_now HR0.out (by repeat (first | (with_reducible first | exact HK.out | apply Kept.alloc | apply Kept.drewN | apply Kept.drew) | exact HK.out))); (case side2 => exact HC0.out); rintro e w' ⟨rfl, ⟨nd, rfl⟩⟩; refine ⟨_, rfl, ?_⟩; have p221 : 0 <= (t220 : Int) := oz; have q221 : t220 < (l0.length : Int) := oz; obtain ⟨ad221, e221, hx221_0, hx221_1, hx221_2⟩ := at_T55 (Kd.C_kept_now HR0.out HK.out) t220 p221 q221; cases e221; replace p221 := eq_true p221; replace q221 := eq_true q221))
   (try simp only [Act.put, sz1, sz2, sz3])
   go_cut [54] (fun v54 wc => ∃ (kq : Nat) (x54_26 : Bool), v54 = .bool x54_26 /\ Aside0 (spec_l8Show.j1 kq l0 t220 l2 x54_26 = some (r1, r2)) /\ Aside0 (kq <= k) /\ Aside0 (Kd.R (Kd.int .i64) 3 wc w0.heap.size (fun k_ => (P2_ k_ \/ w.heap.size <= k_)) u9000_ l2) /\ Aside0 (Kept w wc (fun k_ => P2_ k_)) /\ Aside0 (Below w0.heap.size w0 wc))
   case first =>
    have H := HC27.out
    clear HC27
    by_cases c28 : ((rd_T55 l0 t220).f0) = 4
    ·rw [if_pos c28] at H
     have c28b0 : (((rd_T55 l0 t220).f0) == 4) = true := beq_iff_eq.mpr c28
     have c28b1 : (((rd_T55 l0 t220).f0) != 4) = false := bne_eq_false_iff_eq.mpr c28
     clear c28
     (first | rw [c28b0] | (simp only [i64_w, i32_w]; rw [c28b0]) | skip)
     have H' := Aside0.mk H
     clear H
     go_wp2
     go_meet
     case rel => exact ⟨_, ((((rd_T55 l0 t220).f0) == 4)), ez, H', ⟨by first | omega | exact Nat.le_refl _⟩, ⟨by refine rq ?_; exact HO2.out⟩, ⟨by repeat (first | (with_reducible first | exact HK.out | apply Kept.alloc | apply Kept.drewN | apply Kept.drew) | exact HK.out)⟩, ⟨(bz0 HB.out)⟩⟩
    ·rw [if_neg c28] at H
     have c28b0 : (((rd_T55 l0 t220).f0) == 4) = false := beq_eq_false_iff_ne.mpr c28
     have c28b1 : (((rd_T55 l0 t220).f0) != 4) = true := bne_iff_ne.mpr c28
     (first | rw [c28b0] | (simp only [i64_w, i32_w]; rw [c28b0]) | skip)
     have H' := Aside0.mk H
     clear H
     go_wp2
     go_meet
     case rel => exact ⟨_, ((((rd_T55 l0 t220).f0) == 5)), ez, H', ⟨by first | omega | exact Nat.le_refl _⟩, ⟨by refine rq ?_; exact HO2.out⟩, ⟨by repeat (first | (with_reducible first | exact HK.out | apply Kept.alloc | apply Kept.drewN | apply Kept.drew) | exact HK.out)⟩, ⟨(bz0 HB.out)⟩⟩
   case rest =>
    clear HC27
    try clear c1
    try clear c2
    try clear p2
    try clear q2
    try clear hx2
    try clear c5
    try clear c5b0
    try clear c6
    try clear c6b0
    try clear p6
    try clear c7
    try clear c7b0
    try clear c7b1
    try clear c8
    try clear c8b0
    try clear c9
    try clear c9b0
    try clear c10
    try clear c10b0
    try clear c10b1
    try clear c12
    try clear c12b0
    try clear c12b1
    try clear c12b2
    try clear c17
    try clear c17b0
    try clear c17b1
    try clear c17b2
    try clear c18
    try clear c19
    try clear p22
    try clear q22
    try clear hx22
    try clear c26
    try clear c26b0
    try clear c26b1
    try clear c28
    try clear c28b0
    try clear c28b1
    try clear hx221_0
    try clear hx221_1
    try clear hx221_2
    try clear hx222_0
    try clear p2
    try clear p221
    try clear p222
    try clear q2
    try clear q221
    try clear q222
    obtain ⟨kq, x54_26, rfl, HA, HJ26, HO_2, HK, HB⟩ := hcut
    cases kq with
    | zero => exact absurd HA.out (by simp [spec_l8Show.j1])
    | succ kj26 =>
     have H := HA.out
     clear HA
     simp only [spec_l8Show.j1] at H
     by_cases c29 : x54_26 = true
     ·subst c29
      have H1 := hp H
      clear H
      have H := H1
      clear H1
      replace H := iz H
      obtain ⟨c30, H⟩ := H
      have c30b0 := decide_eq_true c30
      clear c30
      replace H := iz H
      obtain ⟨c31, H⟩ := H
      have c31b0 := decide_eq_true c31
      clear c31
      replace H := bi H
      obtain ⟨⟨t235, t236⟩, A320, H⟩ := H
      try dsimp only at H
      have A32 := Aside0.mk A320
      clear A320
      by_cases c33 : ((rd_T55 l0 t220).f0) = 5
      ·rw [if_pos c33] at H
       have c33b0 : (((rd_T55 l0 t220).f0) == 5) = true := beq_iff_eq.mpr c33
       have c33b1 : (((rd_T55 l0 t220).f0) != 5) = false := bne_eq_false_iff_eq.mpr c33
       clear c33
       replace H := iz H
       obtain ⟨c34, H⟩ := H
       have c34b0 := eq_true c34
       have c34b1 : decide (5 + t235.size <= 9223372036854775807) = true := decide_eq_true c34
       try have c34b2 : (9223372036854775807 < 5 + t235.size) = False := eq_false (Nat.not_lt.2 c34)
       replace H := iz H
       obtain ⟨c35, H⟩ := H
       have c35b0 := eq_true c35
       have c35b1 : decide (((⟨#[40, 114, 101, 102, 32]⟩ : ByteArray) ++ t235).size + 1 <= 9223372036854775807) = true := decide_eq_true c35
       try have c35b2 : (9223372036854775807 < ((⟨#[40, 114, 101, 102, 32]⟩ : ByteArray) ++ t235).size + 1) = False := eq_false (Nat.not_lt.2 c35)
       (try (have c35b2z := c35b2; simp only [ByteArray.size_append, show (⟨#[40, 114, 101, 102, 32]⟩ : ByteArray).size = 5 from rfl] at c35b2z))
       simp only [Option.some.injEq, Prod.mk.injEq] at H
       obtain ⟨rfl, rfl⟩ := H
       have p234 : 0 <= (t220 : Int) := oz
       have q234 : t220 < (l0.length : Int) := oz
       obtain ⟨ad234, e234, hx234_0, hx234_1, hx234_2⟩ := at_T55 (Kd.C_kept_now HR0.out HK.out) t220 p234 q234
       obtain rfl : ad221 = ad234 := (by injection e234)
       replace p234 := eq_true p234
       replace q234 := eq_true q234
       obtain ⟨Ao36, co36, eo36⟩ := Kd.R_slice HO_2.out
       subst eo36
       go_wp2_with (first | ((with_reducible refine gate_callee (f := 57) rfl ?_); refine goesL_ (some 65) rfl rfl Tryd.func57 (by kernel_rfl) rfl #[.slice (some ad221) l0.length c0, .int .i64 ((rd_T55 l0 t220).f1), .slice Ao36 l2.length co36] rfl lz ?_; (with_reducible refine (ih kj26 (by have := HJ26.out; omega) _ _ l0 ((rd_T55 l0 t220).f1) (fun k_ => some k_ = (.slice Ao36 l2.length co36 : Value).ownBlock) (.slice Ao36 l2.length co36) l2 t235 t236 w0 _ ?side1 ?side2 ?side3 ?side4 A32.out).mono ?_); (case side1 => repeat (first | (with_reducible first | exact HB.out | apply below_alloc | apply pw_below_drewN | apply below_drew1) | exact HB.out)); (case side2 => exact Kd.C_kept_call HR0.out (by repeat (first | (with_reducible first | exact HK.out | apply Kept.alloc | apply Kept.drewN | apply Kept.drew) | exact HK.out)) (fun k_ hs_ => (fun e_ => (HO_2.out.1 k_ e_.symm)) hs_)); (case side3 => exact HC0.out); (case side4 => exact Kd.R_tight rfl HO_2.out); rintro e w37 ⟨v237, rfl, ho0, hb, hkp⟩; refine ⟨_, rfl, ?_⟩; have n0_ := Aside0.mk (Kd.R_mono (ok' := fun k_ => (P2_ k_ \/ w.heap.size <= k_)) ho0 (fun k_ hk_ => Or.elim hk_ (fun hs_ => (HO_2.out.1 k_ (hs_).symm)) (fun hn_ => (.inr (Nat.le_trans (by first | exact HK.out.1 | exact (show Kept w _ (fun k_ => P2_ k_) from by repeat (first | (with_reducible first | exact HK.out | apply Kept.alloc | apply Kept.drewN | apply Kept.drew) | exact HK.out)).1) hn_))))); have n1_ := Aside0.mk (Kept.then_ (S := (fun k_ => P2_ k_)) (by repeat (first | (with_reducible first | exact HK.out | apply Kept.alloc | apply Kept.drewN | apply Kept.drew) | exact HK.out)) hkp (fun k_ hs_ => (fun e_ => (HO_2.out.1 k_ e_.symm)) hs_)); have n2_ := Aside0.mk (hb); clear HK; clear HB; clear HO_2; have HO238 := n0_; have HK := n1_; have HB := n2_; clear n0_ n1_ n2_; (try clear hb); (try clear hkp); (try clear ho0); have p239 : 0 <= (t220 : Int) := oz; have q239 : t220 < (l0.length : Int) := oz; obtain ⟨ad239, e239, hx239_0, hx239_1, hx239_2⟩ := at_T55 (Kd.C_kept_now HR0.out HK.out) t220 p239 q239; obtain rfl : ad221 = ad239 := (by injection e239); replace p239 := eq_true p239; replace q239 := eq_true q239))
       go_ret2
       exact ⟨_, gz, by refine rq ?_; exact HO238.out, (bz0 HB.out), by repeat (first | (with_reducible first | exact HK.out | apply Kept.alloc | apply Kept.drewN | apply Kept.drew) | exact HK.out)⟩
      ·rw [if_neg c33] at H
       have c33b0 : (((rd_T55 l0 t220).f0) == 5) = false := beq_eq_false_iff_ne.mpr c33
       have c33b1 : (((rd_T55 l0 t220).f0) != 5) = true := bne_iff_ne.mpr c33
       replace H := iz H
       obtain ⟨c38, H⟩ := H
       have c38b0 := eq_true c38
       have c38b1 : decide (6 + t235.size <= 9223372036854775807) = true := decide_eq_true c38
       try have c38b2 : (9223372036854775807 < 6 + t235.size) = False := eq_false (Nat.not_lt.2 c38)
       replace H := iz H
       obtain ⟨c39, H⟩ := H
       have c39b0 := eq_true c39
       have c39b1 : decide (((⟨#[40, 108, 105, 115, 116, 32]⟩ : ByteArray) ++ t235).size + 1 <= 9223372036854775807) = true := decide_eq_true c39
       try have c39b2 : (9223372036854775807 < ((⟨#[40, 108, 105, 115, 116, 32]⟩ : ByteArray) ++ t235).size + 1) = False := eq_false (Nat.not_lt.2 c39)
       (try (have c39b2z := c39b2; simp only [ByteArray.size_append, show (⟨#[40, 108, 105, 115, 116, 32]⟩ : ByteArray).size = 6 from rfl] at c39b2z))
       simp only [Option.some.injEq, Prod.mk.injEq] at H
       obtain ⟨rfl, rfl⟩ := H
       have p234 : 0 <= (t220 : Int) := oz
       have q234 : t220 < (l0.length : Int) := oz
       obtain ⟨ad234, e234, hx234_0, hx234_1, hx234_2⟩ := at_T55 (Kd.C_kept_now HR0.out HK.out) t220 p234 q234
       obtain rfl : ad221 = ad234 := (by injection e234)
       replace p234 := eq_true p234
       replace q234 := eq_true q234
       obtain ⟨Ao40, co40, eo40⟩ := Kd.R_slice HO_2.out
       subst eo40
       go_wp2_with (first | ((with_reducible refine gate_callee (f := 57) rfl ?_); refine goesL_ (some 65) rfl rfl Tryd.func57 (by kernel_rfl) rfl #[.slice (some ad221) l0.length c0, .int .i64 ((rd_T55 l0 t220).f1), .slice Ao40 l2.length co40] rfl lz ?_; (with_reducible refine (ih kj26 (by have := HJ26.out; omega) _ _ l0 ((rd_T55 l0 t220).f1) (fun k_ => some k_ = (.slice Ao40 l2.length co40 : Value).ownBlock) (.slice Ao40 l2.length co40) l2 t235 t236 w0 _ ?side1 ?side2 ?side3 ?side4 A32.out).mono ?_); (case side1 => repeat (first | (with_reducible first | exact HB.out | apply below_alloc | apply pw_below_drewN | apply below_drew1) | exact HB.out)); (case side2 => exact Kd.C_kept_call HR0.out (by repeat (first | (with_reducible first | exact HK.out | apply Kept.alloc | apply Kept.drewN | apply Kept.drew) | exact HK.out)) (fun k_ hs_ => (fun e_ => (HO_2.out.1 k_ e_.symm)) hs_)); (case side3 => exact HC0.out); (case side4 => exact Kd.R_tight rfl HO_2.out); rintro e w41 ⟨v237, rfl, ho0, hb, hkp⟩; refine ⟨_, rfl, ?_⟩; have n0_ := Aside0.mk (Kd.R_mono (ok' := fun k_ => (P2_ k_ \/ w.heap.size <= k_)) ho0 (fun k_ hk_ => Or.elim hk_ (fun hs_ => (HO_2.out.1 k_ (hs_).symm)) (fun hn_ => (.inr (Nat.le_trans (by first | exact HK.out.1 | exact (show Kept w _ (fun k_ => P2_ k_) from by repeat (first | (with_reducible first | exact HK.out | apply Kept.alloc | apply Kept.drewN | apply Kept.drew) | exact HK.out)).1) hn_))))); have n1_ := Aside0.mk (Kept.then_ (S := (fun k_ => P2_ k_)) (by repeat (first | (with_reducible first | exact HK.out | apply Kept.alloc | apply Kept.drewN | apply Kept.drew) | exact HK.out)) hkp (fun k_ hs_ => (fun e_ => (HO_2.out.1 k_ e_.symm)) hs_)); have n2_ := Aside0.mk (hb); clear HK; clear HB; clear HO_2; have HO238 := n0_; have HK := n1_; have HB := n2_; clear n0_ n1_ n2_; (try clear hb); (try clear hkp); (try clear ho0); have p239 : 0 <= (t220 : Int) := oz; have q239 : t220 < (l0.length : Int) := oz; obtain ⟨ad239, e239, hx239_0, hx239_1, hx239_2⟩ := at_T55 (Kd.C_kept_now HR0.out HK.out) t220 p239 q239; obtain rfl : ad221 = ad239 := (by injection e239); replace p239 := eq_true p239; replace q239 := eq_true q239))
       go_ret2
       exact ⟨_, gz, by refine rq ?_; exact HO238.out, (bz0 HB.out), by repeat (first | (with_reducible first | exact HK.out | apply Kept.alloc | apply Kept.drewN | apply Kept.drew) | exact HK.out)⟩
     ·replace c29 := Bool.eq_false_iff.mpr c29
      subst c29
      have H1 := hq H
      clear H
      have H := H1
      clear H1
      replace H := iz H
      obtain ⟨c42, H⟩ := H
      have c42b0 := decide_eq_true c42
      clear c42
      replace H := iz H
      obtain ⟨c43, H⟩ := H
      have c43b0 := decide_eq_true c43
      clear c43
      replace H := bi H
      obtain ⟨⟨t241, t242⟩, A440, H⟩ := H
      try dsimp only at H
      have A44 := Aside0.mk A440
      clear A440
      replace H := bi H
      obtain ⟨⟨t246, t247⟩, A450, H⟩ := H
      try dsimp only at H
      have A45 := Aside0.mk A450
      clear A450
      by_cases c46 : ((rd_T55 l0 t220).f0) = 2
      ·rw [if_pos c46] at H
       have c46b0 : (((rd_T55 l0 t220).f0) == 2) = true := beq_iff_eq.mpr c46
       have c46b1 : (((rd_T55 l0 t220).f0) != 2) = false := bne_eq_false_iff_eq.mpr c46
       clear c46
       replace H := iz H
       obtain ⟨c47, H⟩ := H
       have c47b0 := eq_true c47
       have c47b1 : decide (1 + t241.size <= 9223372036854775807) = true := decide_eq_true c47
       try have c47b2 : (9223372036854775807 < 1 + t241.size) = False := eq_false (Nat.not_lt.2 c47)
       replace H := iz H
       obtain ⟨c48, H⟩ := H
       have c48b0 := eq_true c48
       have c48b1 : decide (((⟨#[40]⟩ : ByteArray) ++ t241).size + 4 <= 9223372036854775807) = true := decide_eq_true c48
       try have c48b2 : (9223372036854775807 < ((⟨#[40]⟩ : ByteArray) ++ t241).size + 4) = False := eq_false (Nat.not_lt.2 c48)
       (try (have c48b2z := c48b2; simp only [ByteArray.size_append, show (⟨#[40]⟩ : ByteArray).size = 1 from rfl] at c48b2z))
       replace H := iz H
       obtain ⟨c49, H⟩ := H
       have c49b0 := eq_true c49
       have c49b1 : decide ((((⟨#[40]⟩ : ByteArray) ++ t241) ++ (⟨#[32, 45, 62, 32]⟩ : ByteArray)).size + t246.size <= 9223372036854775807) = true := decide_eq_true c49
       try have c49b2 : (9223372036854775807 < (((⟨#[40]⟩ : ByteArray) ++ t241) ++ (⟨#[32, 45, 62, 32]⟩ : ByteArray)).size + t246.size) = False := eq_false (Nat.not_lt.2 c49)
       (try (have c49b2z := c49b2; simp only [ByteArray.size_append, show (⟨#[32, 45, 62, 32]⟩ : ByteArray).size = 4 from rfl, show (⟨#[40]⟩ : ByteArray).size = 1 from rfl] at c49b2z))
       replace H := iz H
       obtain ⟨c50, H⟩ := H
       have c50b0 := eq_true c50
       have c50b1 : decide (((((⟨#[40]⟩ : ByteArray) ++ t241) ++ (⟨#[32, 45, 62, 32]⟩ : ByteArray)) ++ t246).size + 1 <= 9223372036854775807) = true := decide_eq_true c50
       try have c50b2 : (9223372036854775807 < ((((⟨#[40]⟩ : ByteArray) ++ t241) ++ (⟨#[32, 45, 62, 32]⟩ : ByteArray)) ++ t246).size + 1) = False := eq_false (Nat.not_lt.2 c50)
       (try (have c50b2z := c50b2; simp only [ByteArray.size_append, show (⟨#[32, 45, 62, 32]⟩ : ByteArray).size = 4 from rfl, show (⟨#[40]⟩ : ByteArray).size = 1 from rfl] at c50b2z))
       simp only [Option.some.injEq, Prod.mk.injEq] at H
       obtain ⟨rfl, rfl⟩ := H
       have p240 : 0 <= (t220 : Int) := oz
       have q240 : t220 < (l0.length : Int) := oz
       obtain ⟨ad240, e240, hx240_0, hx240_1, hx240_2⟩ := at_T55 (Kd.C_kept_now HR0.out HK.out) t220 p240 q240
       obtain rfl : ad221 = ad240 := (by injection e240)
       replace p240 := eq_true p240
       replace q240 := eq_true q240
       obtain ⟨Ao51, co51, eo51⟩ := Kd.R_slice HO_2.out
       subst eo51
       go_wp2_with (first | ((with_reducible refine gate_callee (f := 57) rfl ?_); refine goesL_ (some 90) rfl rfl Tryd.func57 (by kernel_rfl) rfl #[.slice (some ad221) l0.length c0, .int .i64 ((rd_T55 l0 t220).f1), .slice Ao51 l2.length co51] rfl lz ?_; (with_reducible refine (ih kj26 (by have := HJ26.out; omega) _ _ l0 ((rd_T55 l0 t220).f1) (fun k_ => some k_ = (.slice Ao51 l2.length co51 : Value).ownBlock) (.slice Ao51 l2.length co51) l2 t241 t242 w0 _ ?side1 ?side2 ?side3 ?side4 A44.out).mono ?_); (case side1 => repeat (first | (with_reducible first | exact HB.out | apply below_alloc | apply pw_below_drewN | apply below_drew1) | exact HB.out)); (case side2 => exact Kd.C_kept_call HR0.out (by repeat (first | (with_reducible first | exact HK.out | apply Kept.alloc | apply Kept.drewN | apply Kept.drew) | exact HK.out)) (fun k_ hs_ => (fun e_ => (HO_2.out.1 k_ e_.symm)) hs_)); (case side3 => exact HC0.out); (case side4 => exact Kd.R_tight rfl HO_2.out); rintro e w52 ⟨v243, rfl, ho0, hb, hkp⟩; refine ⟨_, rfl, ?_⟩; have n0_ := Aside0.mk (Kd.R_mono (ok' := fun k_ => (P2_ k_ \/ w.heap.size <= k_)) ho0 (fun k_ hk_ => Or.elim hk_ (fun hs_ => (HO_2.out.1 k_ (hs_).symm)) (fun hn_ => (.inr (Nat.le_trans (by first | exact HK.out.1 | exact (show Kept w _ (fun k_ => P2_ k_) from by repeat (first | (with_reducible first | exact HK.out | apply Kept.alloc | apply Kept.drewN | apply Kept.drew) | exact HK.out)).1) hn_))))); have n1_ := Aside0.mk (Kept.then_ (S := (fun k_ => P2_ k_)) (by repeat (first | (with_reducible first | exact HK.out | apply Kept.alloc | apply Kept.drewN | apply Kept.drew) | exact HK.out)) hkp (fun k_ hs_ => (fun e_ => (HO_2.out.1 k_ e_.symm)) hs_)); have n2_ := Aside0.mk (hb); clear HK; clear HB; clear HO_2; have HO244 := n0_; have HK := n1_; have HB := n2_; clear n0_ n1_ n2_; (try clear hb); (try clear hkp); (try clear ho0); have p245 : 0 <= (t220 : Int) := oz; have q245 : t220 < (l0.length : Int) := oz; obtain ⟨ad245, e245, hx245_0, hx245_1, hx245_2⟩ := at_T55 (Kd.C_kept_now HR0.out HK.out) t220 p245 q245; obtain rfl : ad221 = ad245 := (by injection e245); replace p245 := eq_true p245; replace q245 := eq_true q245; obtain ⟨Ao53, co53, eo53⟩ := Kd.R_slice HO244.out; subst eo53) | ((with_reducible refine gate_callee (f := 57) rfl ?_); refine goesL_ (some 101) rfl rfl Tryd.func57 (by kernel_rfl) rfl #[.slice (some ad221) l0.length c0, .int .i64 ((rd_T55 l0 t220).f2), .slice Ao53 t242.length co53] rfl lz ?_; (with_reducible refine (ih kj26 (by have := HJ26.out; omega) _ _ l0 ((rd_T55 l0 t220).f2) (fun k_ => some k_ = (.slice Ao53 t242.length co53 : Value).ownBlock) (.slice Ao53 t242.length co53) t242 t246 t247 w0 _ ?side1 ?side2 ?side3 ?side4 A45.out).mono ?_); (case side1 => repeat (first | (with_reducible first | exact HB.out | apply below_alloc | apply pw_below_drewN | apply below_drew1) | exact HB.out)); (case side2 => exact Kd.C_kept_call HR0.out (by repeat (first | (with_reducible first | exact HK.out | apply Kept.alloc | apply Kept.drewN | apply Kept.drew) | exact HK.out)) (fun k_ hs_ => (fun e_ => (HO244.out.1 k_ e_.symm)) hs_)); (case side3 => exact HC0.out); (case side4 => exact Kd.R_tight rfl HO244.out); rintro e w54 ⟨v248, rfl, ho0, hb, hkp⟩; refine ⟨_, rfl, ?_⟩; have n0_ := Aside0.mk (Kd.R_mono (ok' := fun k_ => (P2_ k_ \/ w.heap.size <= k_)) ho0 (fun k_ hk_ => Or.elim hk_ (fun hs_ => (HO244.out.1 k_ (hs_).symm)) (fun hn_ => (.inr (Nat.le_trans (by first | exact HK.out.1 | exact (show Kept w _ (fun k_ => P2_ k_) from by repeat (first | (with_reducible first | exact HK.out | apply Kept.alloc | apply Kept.drewN | apply Kept.drew) | exact HK.out)).1) hn_))))); have n1_ := Aside0.mk (Kept.then_ (S := (fun k_ => P2_ k_)) (by repeat (first | (with_reducible first | exact HK.out | apply Kept.alloc | apply Kept.drewN | apply Kept.drew) | exact HK.out)) hkp (fun k_ hs_ => (fun e_ => (HO244.out.1 k_ e_.symm)) hs_)); have n2_ := Aside0.mk (hb); clear HK; clear HB; clear HO244; have HO249 := n0_; have HK := n1_; have HB := n2_; clear n0_ n1_ n2_; (try clear hb); (try clear hkp); (try clear ho0); have p250 : 0 <= (t220 : Int) := oz; have q250 : t220 < (l0.length : Int) := oz; obtain ⟨ad250, e250, hx250_0, hx250_1, hx250_2⟩ := at_T55 (Kd.C_kept_now HR0.out HK.out) t220 p250 q250; obtain rfl : ad221 = ad250 := (by injection e250); replace p250 := eq_true p250; replace q250 := eq_true q250))
       go_ret2
       exact ⟨_, gz, by refine rq ?_; exact HO249.out, (bz0 HB.out), by repeat (first | (with_reducible first | exact HK.out | apply Kept.alloc | apply Kept.drewN | apply Kept.drew) | exact HK.out)⟩
      ·rw [if_neg c46] at H
       have c46b0 : (((rd_T55 l0 t220).f0) == 2) = false := beq_eq_false_iff_ne.mpr c46
       have c46b1 : (((rd_T55 l0 t220).f0) != 2) = true := bne_iff_ne.mpr c46
       replace H := iz H
       obtain ⟨c55, H⟩ := H
       have c55b0 := eq_true c55
       have c55b1 : decide (1 + t241.size <= 9223372036854775807) = true := decide_eq_true c55
       try have c55b2 : (9223372036854775807 < 1 + t241.size) = False := eq_false (Nat.not_lt.2 c55)
       replace H := iz H
       obtain ⟨c56, H⟩ := H
       have c56b0 := eq_true c56
       have c56b1 : decide (((⟨#[40]⟩ : ByteArray) ++ t241).size + 3 <= 9223372036854775807) = true := decide_eq_true c56
       try have c56b2 : (9223372036854775807 < ((⟨#[40]⟩ : ByteArray) ++ t241).size + 3) = False := eq_false (Nat.not_lt.2 c56)
       (try (have c56b2z := c56b2; simp only [ByteArray.size_append, show (⟨#[40]⟩ : ByteArray).size = 1 from rfl] at c56b2z))
       replace H := iz H
       obtain ⟨c57, H⟩ := H
       have c57b0 := eq_true c57
       have c57b1 : decide ((((⟨#[40]⟩ : ByteArray) ++ t241) ++ (⟨#[32, 42, 32]⟩ : ByteArray)).size + t246.size <= 9223372036854775807) = true := decide_eq_true c57
       try have c57b2 : (9223372036854775807 < (((⟨#[40]⟩ : ByteArray) ++ t241) ++ (⟨#[32, 42, 32]⟩ : ByteArray)).size + t246.size) = False := eq_false (Nat.not_lt.2 c57)
       (try (have c57b2z := c57b2; simp only [ByteArray.size_append, show (⟨#[32, 42, 32]⟩ : ByteArray).size = 3 from rfl, show (⟨#[40]⟩ : ByteArray).size = 1 from rfl] at c57b2z))
       replace H := iz H
       obtain ⟨c58, H⟩ := H
       have c58b0 := eq_true c58
       have c58b1 : decide (((((⟨#[40]⟩ : ByteArray) ++ t241) ++ (⟨#[32, 42, 32]⟩ : ByteArray)) ++ t246).size + 1 <= 9223372036854775807) = true := decide_eq_true c58
       try have c58b2 : (9223372036854775807 < ((((⟨#[40]⟩ : ByteArray) ++ t241) ++ (⟨#[32, 42, 32]⟩ : ByteArray)) ++ t246).size + 1) = False := eq_false (Nat.not_lt.2 c58)
       (try (have c58b2z := c58b2; simp only [ByteArray.size_append, show (⟨#[32, 42, 32]⟩ : ByteArray).size = 3 from rfl, show (⟨#[40]⟩ : ByteArray).size = 1 from rfl] at c58b2z))
       simp only [Option.some.injEq, Prod.mk.injEq] at H
       obtain ⟨rfl, rfl⟩ := H
       have p240 : 0 <= (t220 : Int) := oz
       have q240 : t220 < (l0.length : Int) := oz
       obtain ⟨ad240, e240, hx240_0, hx240_1, hx240_2⟩ := at_T55 (Kd.C_kept_now HR0.out HK.out) t220 p240 q240
       obtain rfl : ad221 = ad240 := (by injection e240)
       replace p240 := eq_true p240
       replace q240 := eq_true q240
       obtain ⟨Ao59, co59, eo59⟩ := Kd.R_slice HO_2.out
       subst eo59
       go_wp2_with (first | ((with_reducible refine gate_callee (f := 57) rfl ?_); refine goesL_ (some 90) rfl rfl Tryd.func57 (by kernel_rfl) rfl #[.slice (some ad221) l0.length c0, .int .i64 ((rd_T55 l0 t220).f1), .slice Ao59 l2.length co59] rfl lz ?_; (with_reducible refine (ih kj26 (by have := HJ26.out; omega) _ _ l0 ((rd_T55 l0 t220).f1) (fun k_ => some k_ = (.slice Ao59 l2.length co59 : Value).ownBlock) (.slice Ao59 l2.length co59) l2 t241 t242 w0 _ ?side1 ?side2 ?side3 ?side4 A44.out).mono ?_); (case side1 => repeat (first | (with_reducible first | exact HB.out | apply below_alloc | apply pw_below_drewN | apply below_drew1) | exact HB.out)); (case side2 => exact Kd.C_kept_call HR0.out (by repeat (first | (with_reducible first | exact HK.out | apply Kept.alloc | apply Kept.drewN | apply Kept.drew) | exact HK.out)) (fun k_ hs_ => (fun e_ => (HO_2.out.1 k_ e_.symm)) hs_)); (case side3 => exact HC0.out); (case side4 => exact Kd.R_tight rfl HO_2.out); rintro e w60 ⟨v243, rfl, ho0, hb, hkp⟩; refine ⟨_, rfl, ?_⟩; have n0_ := Aside0.mk (Kd.R_mono (ok' := fun k_ => (P2_ k_ \/ w.heap.size <= k_)) ho0 (fun k_ hk_ => Or.elim hk_ (fun hs_ => (HO_2.out.1 k_ (hs_).symm)) (fun hn_ => (.inr (Nat.le_trans (by first | exact HK.out.1 | exact (show Kept w _ (fun k_ => P2_ k_) from by repeat (first | (with_reducible first | exact HK.out | apply Kept.alloc | apply Kept.drewN | apply Kept.drew) | exact HK.out)).1) hn_))))); have n1_ := Aside0.mk (Kept.then_ (S := (fun k_ => P2_ k_)) (by repeat (first | (with_reducible first | exact HK.out | apply Kept.alloc | apply Kept.drewN | apply Kept.drew) | exact HK.out)) hkp (fun k_ hs_ => (fun e_ => (HO_2.out.1 k_ e_.symm)) hs_)); have n2_ := Aside0.mk (hb); clear HK; clear HB; clear HO_2; have HO244 := n0_; have HK := n1_; have HB := n2_; clear n0_ n1_ n2_; (try clear hb); (try clear hkp); (try clear ho0); have p245 : 0 <= (t220 : Int) := oz; have q245 : t220 < (l0.length : Int) := oz; obtain ⟨ad245, e245, hx245_0, hx245_1, hx245_2⟩ := at_T55 (Kd.C_kept_now HR0.out HK.out) t220 p245 q245; obtain rfl : ad221 = ad245 := (by injection e245); replace p245 := eq_true p245; replace q245 := eq_true q245; obtain ⟨Ao61, co61, eo61⟩ := Kd.R_slice HO244.out; subst eo61) | ((with_reducible refine gate_callee (f := 57) rfl ?_); refine goesL_ (some 101) rfl rfl Tryd.func57 (by kernel_rfl) rfl #[.slice (some ad221) l0.length c0, .int .i64 ((rd_T55 l0 t220).f2), .slice Ao61 t242.length co61] rfl lz ?_; (with_reducible refine (ih kj26 (by have := HJ26.out; omega) _ _ l0 ((rd_T55 l0 t220).f2) (fun k_ => some k_ = (.slice Ao61 t242.length co61 : Value).ownBlock) (.slice Ao61 t242.length co61) t242 t246 t247 w0 _ ?side1 ?side2 ?side3 ?side4 A45.out).mono ?_); (case side1 => repeat (first | (with_reducible first | exact HB.out | apply below_alloc | apply pw_below_drewN | apply below_drew1) | exact HB.out)); (case side2 => exact Kd.C_kept_call HR0.out (by repeat (first | (with_reducible first | exact HK.out | apply Kept.alloc | apply Kept.drewN | apply Kept.drew) | exact HK.out)) (fun k_ hs_ => (fun e_ => (HO244.out.1 k_ e_.symm)) hs_)); (case side3 => exact HC0.out); (case side4 => exact Kd.R_tight rfl HO244.out); rintro e w62 ⟨v248, rfl, ho0, hb, hkp⟩; refine ⟨_, rfl, ?_⟩; have n0_ := Aside0.mk (Kd.R_mono (ok' := fun k_ => (P2_ k_ \/ w.heap.size <= k_)) ho0 (fun k_ hk_ => Or.elim hk_ (fun hs_ => (HO244.out.1 k_ (hs_).symm)) (fun hn_ => (.inr (Nat.le_trans (by first | exact HK.out.1 | exact (show Kept w _ (fun k_ => P2_ k_) from by repeat (first | (with_reducible first | exact HK.out | apply Kept.alloc | apply Kept.drewN | apply Kept.drew) | exact HK.out)).1) hn_))))); have n1_ := Aside0.mk (Kept.then_ (S := (fun k_ => P2_ k_)) (by repeat (first | (with_reducible first | exact HK.out | apply Kept.alloc | apply Kept.drewN | apply Kept.drew) | exact HK.out)) hkp (fun k_ hs_ => (fun e_ => (HO244.out.1 k_ e_.symm)) hs_)); have n2_ := Aside0.mk (hb); clear HK; clear HB; clear HO244; have HO249 := n0_; have HK := n1_; have HB := n2_; clear n0_ n1_ n2_; (try clear hb); (try clear hkp); (try clear ho0); have p250 : 0 <= (t220 : Int) := oz; have q250 : t220 < (l0.length : Int) := oz; obtain ⟨ad250, e250, hx250_0, hx250_1, hx250_2⟩ := at_T55 (Kd.C_kept_now HR0.out HK.out) t220 p250 q250; obtain rfl : ad221 = ad250 := (by injection e250); replace p250 := eq_true p250; replace q250 := eq_true q250))
       go_ret2
       exact ⟨_, gz, by refine rq ?_; exact HO249.out, (bz0 HB.out), by repeat (first | (with_reducible first | exact HK.out | apply Kept.alloc | apply Kept.drewN | apply Kept.drew) | exact HK.out)⟩
def spec_ShowType.f (k : Nat) (l0 : List (S55)) (a1 : Int) : Option (ByteArray) := (spec_SizeOf.f k l0 a1).bind fun t251 => ((spec_l1In.f t251 1 60).bind fun t252 => (if t252 = true then ((spec_l8Show.f k l0 a1 (([] : List Int))).bind fun bt256 => (some bt256.1)) else (some (⟨#[]⟩ : ByteArray))))
theorem spec_ShowType.mono : ∀ a0 a1 k, LeO (spec_ShowType.f k a0 a1) (spec_ShowType.f (k + 1) a0 a1) := by
 intro a0 a1 k
 unfold spec_ShowType.f
 with_reducible repeat' first | exact spec_SizeOf.mono _ _ _ | exact spec_l8Show.mono _ _ _ _ | exact lrz _ | exact lnz _ | refine liz ?_ ?_ | refine lbz ?_ fun _ => ?_
set_option maxHeartbeats 8000000 in
set_option maxRecDepth 100000 in
theorem spec_ShowType.calls (k : Nat) (A0 : Option Addr) (c0 : Nat) (l0 : List (S55)) (a1 : Int) (r : ByteArray) (w : World) (hr0 : Kd.C k55 w A0 l0.length l0) (hc0 : l0.length <= c0) (h : spec_ShowType.f k l0 a1 = some r) :
  Calls Tryd.prog 26 #[.slice A0 l0.length c0, .int .i64 a1] w fun e w' => e = .returned (.string r) /\ Below w.heap.size w w' := by
 have HR0 := Aside0.mk hr0
 have HC0 := Aside0.mk hc0
 clear hr0 hc0
 have HB := Aside0.mk (Below.refl w.heap.size w)
 have H : ((spec_SizeOf.f k l0 a1).bind fun t251 => ((spec_l1In.f t251 1 60).bind fun t252 => (if t252 = true then ((spec_l8Show.f k l0 a1 (([] : List Int))).bind fun bt256 => (some bt256.1)) else (some (⟨#[]⟩ : ByteArray))))) = some r := h
 clear h
 replace H := bi H
 obtain ⟨t251, A30, H⟩ := H
 try dsimp only at H
 have A3 := Aside0.mk A30
 clear A30
 replace H := bi H
 obtain ⟨t252, A40, H⟩ := H
 try dsimp only at H
 have A4 := Aside0.mk A40
 clear A40
 by_cases c5 : t252 = true
 ·subst c5
  have H1 := hp H
  clear H
  have H := H1
  clear H1
  obtain ⟨y253, hy253⟩ : ∃ y_ : List Int, y_ = (([] : List Int)) := ⟨_, rfl⟩
  replace H : ((spec_l8Show.f k l0 a1 y253).bind fun bt256 => (some bt256.1)) = some r := yz hy253 H
  have Ny253 := Aside0.mk hy253
  clear hy253
  replace H := bi H
  obtain ⟨⟨t256, t257⟩, A60, H⟩ := H
  try dsimp only at H
  have A6 := Aside0.mk A60
  clear A60
  obtain rfl := Option.some.inj H
  go_enter Tryd.func26, Tryd.ntmps26
  go_wp2_with (first | ((with_reducible refine gate_callee (f := 22) rfl ?_); refine goesL_ (some 9) rfl rfl Tryd.func22 (by kernel_rfl) rfl #[.slice A0 l0.length c0, .int .i64 a1] rfl lz ?_; (with_reducible refine (spec_SizeOf.calls k _ _ l0 a1 t251 _ ?side1 ?side2 A3.out).mono ?_); (case side1 => repeat (first | exact HR0.out | (with_reducible refine Kd.C_alloc ?_ _) | (with_reducible refine Kd.C_drewN ?_ _) | (with_reducible refine Kd.C_drew ?_))); (case side2 => exact HC0.out); rintro e w7 ⟨rfl, hb⟩; refine ⟨_, rfl, ?_⟩; replace HB := Aside0.mk (below_step (bz0 HB.out) hb); (try clear hb); (try clear hk); (try clear hi)) | ((with_reducible refine gate_callee (f := 44) rfl ?_); refine goesL_ (some 10) rfl rfl Tryd.func44 (by kernel_rfl) rfl #[.int .i64 t251, .int .i64 1, .int .i64 60] rfl lz ?_; (with_reducible refine (spec_l1In.calls t251 1 60 true _ A4.out).mono ?_); rintro e w' ⟨rfl, ⟨nd, rfl⟩⟩; refine ⟨_, rfl, ?_⟩) | ((with_reducible refine gate_dst (N := 15) rfl ?_); refine Kd.R_lit (Kd.int .i64) _ 3 ?hg (N := 15) ?hd (xs := ([] : List Int)) (inner := []) (ok := fun _ => True) (okp := fun _ => True) ?hr ?hp (fun _ hk => hk) trivial (Below.refl _ _) (Nat.le_refl _) (by simp) ?_; (case hd => rfl); (case hg => rfl); (case hr => exact vz); (case hp => exact (Reps.none _ _)); intro v254 w8 ho9 hb hg_ hnew_; clear hg_ hnew_; (first | rw [<- Ny253.out] at ho9 | (simp only [Int.reduceToNat] at ho9; rw [<- Ny253.out] at ho9)); have HO255 := Aside0.mk (Kd.R_lower ho9 (below_size (bz0 HB.out))); replace HB := Aside0.mk (below_step (bz0 HB.out) hb); clear hb ho9; obtain ⟨Ao10, co10, eo10⟩ := Kd.R_slice HO255.out; subst eo10) | ((with_reducible refine gate_callee (f := 57) rfl ?_); refine goesL_ (some 16) rfl rfl Tryd.func57 (by kernel_rfl) rfl #[.slice A0 l0.length c0, .int .i64 a1, .slice Ao10 y253.length co10] rfl lz ?_; (with_reducible refine (spec_l8Show.calls k _ _ l0 a1 (fun k_ => some k_ = (.slice Ao10 y253.length co10 : Value).ownBlock) (.slice Ao10 y253.length co10) y253 t256 t257 w _ ?side1 ?side2 ?side3 ?side4 A6.out).mono ?_); (case side1 => repeat (first | (with_reducible first | exact HB.out | apply below_alloc | apply pw_below_drewN | apply below_drew1) | exact HB.out)); (case side2 => exact Kd.C_kept_came k55_heap HR0.out (bz0 HB.out) (fun k_ hs_ => (fun e_ => Kd.R_base HO255.out k_ e_.symm) hs_)); (case side3 => exact HC0.out); (case side4 => exact Kd.R_tight rfl HO255.out); rintro e w11 ⟨v258, rfl, ho0, hb, hkp⟩; refine ⟨_, rfl, ?_⟩; have n0_ := Aside0.mk (Kd.R_mono (ok' := fun k_ => True) ho0 (fun k_ hk_ => trivial)); have n1_ := Aside0.mk (hb); clear HB; clear HO255; have HO259 := n0_; have HB := n1_; clear n0_ n1_; (try clear hb); (try clear hkp); (try clear ho0)))
  go_ret
  exact ⟨gz, (bz0 HB.out)⟩
 ·replace c5 := Bool.eq_false_iff.mpr c5
  subst c5
  have H1 := hq H
  clear H
  have H := H1
  clear H1
  obtain rfl := Option.some.inj H
  go_enter Tryd.func26, Tryd.ntmps26
  go_wp2_with (first | ((with_reducible refine gate_callee (f := 22) rfl ?_); refine goesL_ (some 9) rfl rfl Tryd.func22 (by kernel_rfl) rfl #[.slice A0 l0.length c0, .int .i64 a1] rfl lz ?_; (with_reducible refine (spec_SizeOf.calls k _ _ l0 a1 t251 _ ?side1 ?side2 A3.out).mono ?_); (case side1 => repeat (first | exact HR0.out | (with_reducible refine Kd.C_alloc ?_ _) | (with_reducible refine Kd.C_drewN ?_ _) | (with_reducible refine Kd.C_drew ?_))); (case side2 => exact HC0.out); rintro e w12 ⟨rfl, hb⟩; refine ⟨_, rfl, ?_⟩; replace HB := Aside0.mk (below_step (bz0 HB.out) hb); (try clear hb); (try clear hi)) | ((with_reducible refine gate_callee (f := 44) rfl ?_); refine goesL_ (some 10) rfl rfl Tryd.func44 (by kernel_rfl) rfl #[.int .i64 t251, .int .i64 1, .int .i64 60] rfl lz ?_; (with_reducible refine (spec_l1In.calls t251 1 60 false _ A4.out).mono ?_); rintro e w' ⟨rfl, ⟨nd, rfl⟩⟩; refine ⟨_, rfl, ?_⟩))
  go_ret
  exact ⟨gz, (bz0 HB.out)⟩
def laws_toType.f (a0_0 : Int) (a0_1 : Int) (a0_2 : Int) : Option (Int × Int × Int) := some (a0_0, a0_1, a0_2)
set_option maxHeartbeats 8000000 in
set_option maxRecDepth 100000 in
theorem laws_toType.calls (a0_0 : Int) (a0_1 : Int) (a0_2 : Int) (r1 : Int) (r2 : Int) (r3 : Int) (w : World) (h : laws_toType.f a0_0 a0_1 a0_2 = some (r1, r2, r3)) :
  Calls Tryd.prog 58 #[.agg #[.int .i64 a0_0, .int .i64 a0_1, .int .i64 a0_2]] w fun e w' => e = .returned (.agg #[.int .i64 r1, .int .i64 r2, .int .i64 r3]) /\ Below w.heap.size w w' := by
 have hu99 := Tryd.underlying99
 have hu55 := Tryd.underlying55
 have HB := Aside0.mk (Below.refl w.heap.size w)
 have H : (some (a0_0, a0_1, a0_2)) = some (r1, r2, r3) := h
 clear h
 simp only [Option.some.injEq, Prod.mk.injEq] at H
 obtain ⟨rfl, rfl, rfl⟩ := H
 go_enter Tryd.func58, Tryd.ntmps58
 go_wp2_with (first | ((with_reducible refine gate_dst (N := 1) rfl ?_); refine box_event ?hg (N := 1) ?hd (cs := #[.int .i64 a0_0, .int .i64 a0_1, .int .i64 a0_2]) (t := 99) ?hr ?_; (case hd => rfl); (case hg => rfl); (case hr => exact vz); intro gb260 hg w2 hbox hb; have BK260 := Aside0.mk (hbox); have GW260 := Aside0.mk ((by rw [hg]; exact (below_size (bz0 HB.out)) : w.heap.size <= gb260)); have GE260 := GW260; replace HB := Aside0.mk (below_step (bz0 HB.out) hb); clear hb hbox hg) | ((with_reducible refine gate_dst (N := 2) rfl ?_); refine box_event ?hg (N := 2) ?hd (cs := #[.int .i64 0, .int .i64 0, .int .i64 0]) (t := 55) ?hr ?_; (case hd => rfl); (case hg => rfl); (case hr => exact vz); intro gb261 hg w3 hbox hb; have BK261 := Aside0.mk (hbox); have GW261 := Aside0.mk ((by rw [hg]; exact (below_size (bz1 HB.out GE260.out)) : w.heap.size <= gb261)); have GE261 := GW261; replace HB := Aside0.mk (below_step (bz1 HB.out GE260.out) hb); have NB260_261 := Aside0.mk ((by rw [hg]; exact Nat.ne_of_lt (blk_lt (kz BK260.out)) : gb260 ≠ gb261)); have NB261_260 := Aside0.mk ((by rw [hg]; exact Nat.ne_of_gt (blk_lt (kz BK260.out)) : gb261 ≠ gb260)); replace BK260 := Aside0.mk (blk_below (kz BK260.out) hb); clear hb hbox hg) | ((with_reducible refine gate_dst (N := 3) rfl ?_); refine box_event ?hg (N := 3) ?hd (cs := #[.int .i64 0, .int .i64 0, .int .i64 0]) (t := 55) ?hr ?_; (case hd => rfl); (case hg => rfl); (case hr => exact vz); intro gb262 hg w4 hbox hb; have BK262 := Aside0.mk (hbox); have GW262 := Aside0.mk ((by rw [hg]; exact (below_size (bz2 HB.out GE260.out GE261.out)) : w.heap.size <= gb262)); have GE262 := GW262; replace HB := Aside0.mk (below_step (bz2 HB.out GE260.out GE261.out) hb); have NB260_262 := Aside0.mk ((by rw [hg]; exact Nat.ne_of_lt (blk_lt (kz BK260.out)) : gb260 ≠ gb262)); have NB262_260 := Aside0.mk ((by rw [hg]; exact Nat.ne_of_gt (blk_lt (kz BK260.out)) : gb262 ≠ gb260)); replace BK260 := Aside0.mk (blk_below (kz BK260.out) hb); have NB261_262 := Aside0.mk ((by rw [hg]; exact Nat.ne_of_lt (blk_lt (kz BK261.out)) : gb261 ≠ gb262)); have NB262_261 := Aside0.mk ((by rw [hg]; exact Nat.ne_of_gt (blk_lt (kz BK261.out)) : gb262 ≠ gb261)); replace BK261 := Aside0.mk (blk_below (kz BK261.out) hb); clear hb hbox hg; have hnb5 := NB260_261.out; have hnc5 := NB261_260.out; have hnb6 := NB260_262.out; have hnc6 := NB262_260.out; obtain ⟨hcz7_0, hcz7_1, hcz7_2⟩ := cz3 BK260.out; obtain ⟨hfz7_0, hfz7_1, hfz7_2⟩ := fz3 BK260.out; have hnb8 := NB262_261.out; have hnc8 := NB261_262.out; obtain ⟨hcz9_0, hcz9_1, hcz9_2⟩ := cz3 BK262.out; obtain ⟨hfz9_0, hfz9_1, hfz9_2⟩ := fz3 BK262.out; obtain ⟨hcz10_0, hcz10_1, hcz10_2⟩ := cz3 BK261.out; obtain ⟨hfz10_0, hfz10_1, hfz10_2⟩ := fz3 BK261.out))
 refine bodyPost_ret (results_cell_row rfl _ _ gb261 55 #[.int .i64 a0_0, .int .i64 a0_1, .int .i64 a0_2] (0, 0) _ rfl (by refine kq ?_; refine blk_put (cs := #[.int .i64 a0_0, .int .i64 a0_1, .int .i64 0]) ?_ 2 _ rfl; refine kq ?_; refine blk_put (cs := #[.int .i64 a0_0, .int .i64 0, .int .i64 0]) ?_ 1 _ rfl; refine kq ?_; refine blk_put (cs := #[.int .i64 0, .int .i64 0, .int .i64 0]) ?_ 0 _ rfl; refine kq ?_; refine blk_far ?_ NB261_262.out _; refine kq ?_; refine blk_far ?_ NB261_262.out _; refine kq ?_; refine blk_far ?_ NB261_262.out _; refine kq ?_; exact BK261.out) Tryd.underlying55 rfl (by kernel_rfl)) rfl ?_
 exact ⟨gz, (bz3 HB.out GE260.out GE261.out GE262.out)⟩
def laws_toTypeS.l0 : Nat -> List (S99) -> List (S55) -> Int -> Option ((List (S55)))
 | 0, _, _, _ => none
 | k + 1, x0, x3, x4 => if x4 < (x0.length : Int) then (if 0 <= x4 then ((laws_toType.f ((rd_T99 x0 x4).f0) ((rd_T99 x0 x4).f1) ((rd_T99 x0 x4).f2)).bind fun bt267 => (if x4 < (x3.length : Int) then (laws_toTypeS.l0 k x0 (x3.set (x4 : Int).toNat (⟨bt267.1, bt267.2.1, bt267.2.2⟩ : S55)) (wrap64 (x4 + 1))) else (none))) else (none)) else (some x3)
def laws_toTypeS.f (k : Nat) (l0 : List (S99)) : Option ((List (S55))) := if 0 <= (l0.length : Int) then (if ((l0.length : Int) : Int).toNat <= 11728124029610 then (laws_toTypeS.l0 k l0 (List.replicate ((l0.length : Int) : Int).toNat z55) 0) else (none)) else (none)
theorem laws_toTypeS.mono_l : ∀ k, (∀ y0 y1 y2, LeO (laws_toTypeS.l0 k y0 y1 y2) (laws_toTypeS.l0 (k + 1) y0 y1 y2))
 | 0 => fun _ _ _ r h => by simp [laws_toTypeS.l0] at h
 | k + 1 => by
  have ih0 := laws_toTypeS.mono_l k
  ·intro y0 y1 y2
   unfold laws_toTypeS.l0
   with_reducible repeat' first | exact ih0 _ _ _ | exact lrz _ | exact lnz _ | refine liz ?_ ?_ | refine lbz ?_ fun _ => ?_
theorem laws_toTypeS.mono : ∀ a0 k, LeO (laws_toTypeS.f k a0) (laws_toTypeS.f (k + 1) a0) := by
 intro a0 k
 have ih0 := laws_toTypeS.mono_l k
 unfold laws_toTypeS.f
 with_reducible repeat' first | exact ih0 _ _ _ | exact lrz _ | exact lnz _ | refine liz ?_ ?_ | refine lbz ?_ fun _ => ?_
set_option maxHeartbeats 8000000 in
set_option maxRecDepth 100000 in
theorem laws_toTypeS.calls (k : Nat) (A0 : Option Addr) (c0 : Nat) (l0 : List (S99)) (r : List (S55)) (w : World) (hr0 : Kd.C k99 w A0 l0.length l0) (hc0 : l0.length <= c0) (h : laws_toTypeS.f k l0 = some r) :
  Calls Tryd.prog 27 #[.slice A0 l0.length c0] w fun e w' => ∃ v0_ : Value, e = .returned (v0_) /\ Kd.R k55 55 w' w.heap.size (fun _ => True) v0_ r /\ Below w.heap.size w w' := by
 have hu99 := Tryd.underlying99
 have hu55 := Tryd.underlying55
 have HR0 := Aside0.mk hr0
 have HC0 := Aside0.mk hc0
 clear hr0 hc0
 have HB := Aside0.mk (Below.refl w.heap.size w)
 have H : (if 0 <= (l0.length : Int) then (if ((l0.length : Int) : Int).toNat <= 11728124029610 then (laws_toTypeS.l0 k l0 (List.replicate ((l0.length : Int) : Int).toNat z55) 0) else (none)) else (none)) = some r := h
 clear h
 replace H := iz H
 obtain ⟨c2, H⟩ := H
 have c2b0 := eq_true c2
 have c2b1 : decide (0 <= (l0.length : Int)) = true := decide_eq_true c2
 clear c2
 replace H := iz H
 obtain ⟨c3, H⟩ := H
 have c3b0 := eq_true c3
 have c3b1 : decide (((l0.length : Int) : Int).toNat <= 11728124029610) = true := decide_eq_true c3
 clear c3
 obtain ⟨y263, hy263⟩ : ∃ y_ : List (S55), y_ = (List.replicate ((l0.length : Int) : Int).toNat z55) := ⟨_, rfl⟩
 replace H : (laws_toTypeS.l0 k l0 y263 0) = some r := yz hy263 H
 have Ny263 := Aside0.mk hy263
 clear hy263
 have H' := Aside0.mk H
 clear H
 go_enter Tryd.func27, Tryd.ntmps27
 go_wp2_with (first | ((with_reducible refine gate_dst (N := 7) rfl ?_); refine Kd.R_make k55 _ 55 rfl (N := 7) rfl 48 _ _ rfl (l0.length : Int) rfl rfl Tryd.underlying48 (.agg #[(.int .i64 0), (.int .i64 0), (.int .i64 0)]) 24 info55 rfl (by decide) (by omega) z55 (ok := fun _ => True) (okp := fun _ => True) (k55_mkM _ _ _ z55 ) (fun _ hk => hk) trivial (of_decide_eq_true az) (Nat.le_trans (Nat.mul_le_mul_right _ (of_decide_eq_true az : (l0.length : Int).toNat <= 11728124029610)) (by omega)) (Below.refl _ _) (Nat.le_refl _) ?_; intro v264 w4 ho5 hb hg_ hnew_; clear hg_ hnew_; (first | rw [<- Ny263.out] at ho5 | (simp only [Int.reduceToNat] at ho5; rw [<- Ny263.out] at ho5)); have HO265 := Aside0.mk (Kd.R_lower ho5 (below_size (bz0 HB.out))); replace HB := Aside0.mk (below_step (bz0 HB.out) hb); clear hb ho5))
 (try simp only [Act.put, sz1, sz2, sz3])
 go_loopg [4] k (fun kq v4 w' => ∃ (x3_1 : List (S55)) (x4_1 : Int), v4 = .int .i64 x4_1 /\ Aside0 (laws_toTypeS.l0 kq l0 x3_1 x4_1 = some r) /\ Aside0 (kq <= k) /\ Aside0 (Kd.R k55 55 w' w.heap.size (fun _ => True) v264 x3_1) /\ Aside0 (Below w.heap.size w w'))
 case atStart => exact ⟨(y263), (0), ez, H', ⟨Nat.le_refl _⟩, ⟨by refine rq ?_; exact HO265.out⟩, ⟨(bz0 HB.out)⟩⟩
 case round =>
  clear H'
  try clear c2
  try clear c2b0
  try clear c2b1
  try clear p2
  try clear c3
  try clear c3b0
  try clear c3b1
  obtain ⟨x3_1, x4_1, rfl, HA, HK1, HO_3, HB⟩ := hrel
  cases gk with
  | zero => exact absurd HA.out (by simp [laws_toTypeS.l0])
  | succ k1 =>
   have H := HA.out
   clear HA
   simp only [laws_toTypeS.l0] at H
   by_cases c6 : x4_1 < (l0.length : Int)
   ·rw [if_pos c6] at H
    have c6b0 := decide_eq_true c6
    clear c6
    replace H := iz H
    obtain ⟨c7, H⟩ := H
    have c7b0 := decide_eq_true c7
    clear c7
    replace H := bi H
    obtain ⟨⟨t267, t268, t269⟩, A80, H⟩ := H
    try dsimp only at H
    have A8 := Aside0.mk A80
    clear A80
    replace H := iz H
    obtain ⟨c9, H⟩ := H
    have c9b0 := decide_eq_true c9
    clear c9
    obtain ⟨y270, hy270⟩ : ∃ y_ : List (S55), y_ = (x3_1.set (x4_1 : Int).toNat (⟨t267, t268, t269⟩ : S55)) := ⟨_, rfl⟩
    replace H : (laws_toTypeS.l0 k1 l0 y270 (wrap64 (x4_1 + 1))) = some r := yz hy270 H
    have Ny270 := Aside0.mk hy270
    clear hy270
    have H' := Aside0.mk H
    clear H
    have p266 : 0 <= (x4_1 : Int) := oz
    have q266 : x4_1 < (l0.length : Int) := oz
    obtain ⟨ad266, e266, hx266_0, hx266_1, hx266_2⟩ := at_T99 (Kd.C_below HR0.out HB.out) x4_1 p266 q266
    cases e266
    replace p266 := eq_true p266
    replace q266 := eq_true q266
    go_wp2_with (first | ((with_reducible refine gate_callee (f := 58) rfl ?_); refine goesL_ (some 20) rfl rfl Tryd.func58 (by kernel_rfl) rfl #[.agg #[.int .i64 ((rd_T99 l0 x4_1).f0), .int .i64 ((rd_T99 l0 x4_1).f1), .int .i64 ((rd_T99 l0 x4_1).f2)]] rfl lz ?_; (with_reducible refine (laws_toType.calls ((rd_T99 l0 x4_1).f0) ((rd_T99 l0 x4_1).f1) ((rd_T99 l0 x4_1).f2) t267 t268 t269 _ A8.out).mono ?_); rintro e w11 ⟨rfl, hb⟩; refine ⟨_, rfl, ?_⟩; replace HO_3 := qz HO_3 hb; replace HB := Aside0.mk (below_step (bz0 HB.out) hb); (try clear hb); (try clear hk); have p10 : 0 <= (x4_1 : Int) := oz; have q10 : (x4_1 : Int) < ((x3_1.length : Int) : Int) := oz; obtain ⟨go10, co10, eo10, gb10, gl10, cl10, HG10⟩ := Kd.R_form HO_3.out (by omega); (first | cases eo10 | (injection eo10 with ea_ en_ ec_; (first | subst ea_ | (injection ea_ with ea_; subst ea_)); subst ec_; clear en_)); have GB10 := Aside0.mk gb10; have GG10 := Aside0.mk HG10; clear gb10 gl10 HG10; obtain ⟨ce10, hcl10, hM10, hcc10, hfr10⟩ := Kd.R_elem HO_3.out z55 (x4_1 : Int) p10 q10; obtain rfl := k55_openM hM10; have hx10_0 : w11.cell? ⟨go10, (x4_1 : Int).toNat * 3, none⟩ = some (.int .i64 ((rd_T55 x3_1 x4_1).f0)) := hcc10 0 _ rfl; have hx10_1 : w11.cell? ⟨go10, (x4_1 : Int).toNat * 3 + 1, none⟩ = some (.int .i64 ((rd_T55 x3_1 x4_1).f1)) := hcc10 1 _ rfl; have hx10_2 : w11.cell? ⟨go10, (x4_1 : Int).toNat * 3 + 2, none⟩ = some (.int .i64 ((rd_T55 x3_1 x4_1).f2)) := hcc10 2 _ rfl; have hf10_0 : w11.frozen? ⟨go10, (x4_1 : Int).toNat * 3, none⟩ = false := hfr10 0; have hf10_1 : w11.frozen? ⟨go10, (x4_1 : Int).toNat * 3 + 1, none⟩ = false := hfr10 1; have hf10_2 : w11.frozen? ⟨go10, (x4_1 : Int).toNat * 3 + 2, none⟩ = false := hfr10 2; clear hcl10 hcc10 hfr10 hM10; replace p10 := eq_true p10; replace q10 := eq_true q10; have HX12 := Aside0.mk (show Kd.R k55 55 w11 w.heap.size (fun _ => True) (.slice (some ⟨go10, 0, none⟩) x3_1.length co10) x3_1 from (rz HO_3.out)); obtain ⟨ce12, hcl12, hM12, hcc12, hfr12⟩ := Kd.R_elem HX12.out z55 (x4_1 : Int) (of_decide_eq_true az) (by have h_ : (x4_1 : Int) < ((x3_1.length : Int) : Int) := oz; first | exact h_ | (have e_ := (Kd.R_reads' HO_3.out).1; omega) | simpa using h_); obtain rfl := k55_openM hM12; have HP12 := Kd.R_seg HX12.out (x4_1 : Int) (of_decide_eq_true az) (by have h_ : (x4_1 : Int) < ((x3_1.length : Int) : Int) := oz; first | exact h_ | (have e_ := (Kd.R_reads' HO_3.out).1; omega) | simpa using h_) (seg := [.int .i64 t267, .int .i64 t268, .int .i64 t269]) (j := 0) hcl12 hcc12 (show 3 <= 3 from by decide) (x' := (⟨t267, t268, t269⟩ : S55)) (k55_mkM _ _ _ (⟨t267, t268, t269⟩ : S55) ) (fun _ hk => hk); have hx12_0 := hcc12 0 _ rfl; (try simp only [show (k55).sz = 3 from rfl, Nat.mul_one, Nat.add_zero] at hx12_0); have hf12_0 := hfr12 0; (try simp only [show (k55).sz = 3 from rfl, Nat.mul_one, Nat.add_zero] at hf12_0); have hx12_1 := hcc12 1 _ rfl; (try simp only [show (k55).sz = 3 from rfl, Nat.mul_one, Nat.add_zero] at hx12_1); have hf12_1 := hfr12 1; (try simp only [show (k55).sz = 3 from rfl, Nat.mul_one, Nat.add_zero] at hf12_1); have hx12_2 := hcc12 2 _ rfl; (try simp only [show (k55).sz = 3 from rfl, Nat.mul_one, Nat.add_zero] at hx12_2); have hf12_2 := hfr12 2; (try simp only [show (k55).sz = 3 from rfl, Nat.mul_one, Nat.add_zero] at hf12_2); clear hcl12 hcc12 hfr12 hM12) | ((with_reducible refine gate_store (t := 55) (p := 21) rfl ?_); refine store_event (t := 55) (p := 21) (v := ?vo_w13) (w1 := (((w11.setCell ⟨go10, (x4_1 : Int).toNat * 3, none⟩ (.int .i64 t267)).setCell ⟨go10, (x4_1 : Int).toNat * 3 + 1, none⟩ (.int .i64 t268)).setCell ⟨go10, (x4_1 : Int).toNat * 3 + 2, none⟩ (.int .i64 t269))) ?hg ?ho ?hn ?hr ?_; (case ho => rfl); (case hg => rfl); (case hn => rfl); (case hr => exact vz); intro w13 hw; have hg : w11.grownBy w13 (some go10) := (by rw [hw]; exact HP12.2); have hp_ : Kd.R k55 55 w13 w.heap.size (fun _ => True) (.slice (some ⟨go10, 0, none⟩) x3_1.length co10) y270 := (by rw [hw, Ny270.out]; exact HP12.1); clear HP12; replace HO_3 := Aside0.mk (hp_); replace HB := Aside0.mk ((by rw [hw]; exact below_set (below_set (below_set (HB.out) GB10.out) GB10.out) GB10.out : Below w.heap.size w w13)); clear hg hw hp_))
    go_roundg k1
    case measure => have := HK1.out; omega
    case rel => exact ⟨(y270), (wrap64 (x4_1 + 1)), ez, H', ⟨by have := HK1.out; omega⟩, ⟨by refine rq ?_; exact HO_3.out⟩, ⟨(bz0 HB.out)⟩⟩
   ·rw [if_neg c6] at H
    have c6b0 := decide_eq_false c6
    clear c6
    obtain rfl := Option.some.inj H
    go_wp2
    go_ret
    exact ⟨_, gz, by refine rq ?_; exact HO_3.out, (bz0 HB.out)⟩
def laws_eqType.f (a0_0 : Int) (a0_1 : Int) (a0_2 : Int) (a1_0 : Int) (a1_1 : Int) (a1_2 : Int) : Option (Bool) := if a0_0 = a1_0 then (if a0_1 = a1_1 then (if a0_2 = a1_2 then (some true) else (some false)) else (some false)) else (some false)
set_option maxHeartbeats 8000000 in
set_option maxRecDepth 100000 in
theorem laws_eqType.calls (a0_0 : Int) (a0_1 : Int) (a0_2 : Int) (a1_0 : Int) (a1_1 : Int) (a1_2 : Int) (r : Bool) (w : World) (h : laws_eqType.f a0_0 a0_1 a0_2 a1_0 a1_1 a1_2 = some r) :
  Calls Tryd.prog 59 #[.agg #[.int .i64 a0_0, .int .i64 a0_1, .int .i64 a0_2], .agg #[.int .i64 a1_0, .int .i64 a1_1, .int .i64 a1_2]] w fun e w' => e = .returned (.bool r) /\ Below w.heap.size w w' := by
 have hu55 := Tryd.underlying55
 have HB := Aside0.mk (Below.refl w.heap.size w)
 have H : (if a0_0 = a1_0 then (if a0_1 = a1_1 then (if a0_2 = a1_2 then (some true) else (some false)) else (some false)) else (some false)) = some r := h
 clear h
 by_cases c3 : a0_0 = a1_0
 ·rw [if_pos c3] at H
  have c3b0 : (a0_0 == a1_0) = true := beq_iff_eq.mpr c3
  have c3b1 : (a0_0 != a1_0) = false := bne_eq_false_iff_eq.mpr c3
  clear c3
  by_cases c4 : a0_1 = a1_1
  ·rw [if_pos c4] at H
   have c4b0 : (a0_1 == a1_1) = true := beq_iff_eq.mpr c4
   have c4b1 : (a0_1 != a1_1) = false := bne_eq_false_iff_eq.mpr c4
   clear c4
   by_cases c5 : a0_2 = a1_2
   ·rw [if_pos c5] at H
    have c5b0 : (a0_2 == a1_2) = true := beq_iff_eq.mpr c5
    have c5b1 : (a0_2 != a1_2) = false := bne_eq_false_iff_eq.mpr c5
    clear c5
    obtain rfl := Option.some.inj H
    go_enter Tryd.func59, Tryd.ntmps59
    go_wp2_with (first | ((with_reducible refine gate_dst (N := 2) rfl ?_); refine box_event ?hg (N := 2) ?hd (cs := #[.int .i64 a0_0, .int .i64 a0_1, .int .i64 a0_2]) (t := 55) ?hr ?_; (case hd => rfl); (case hg => rfl); (case hr => exact vz); intro gb271 hg w6 hbox hb; have BK271 := Aside0.mk (hbox); have GW271 := Aside0.mk ((by rw [hg]; exact (below_size (bz0 HB.out)) : w.heap.size <= gb271)); have GE271 := GW271; replace HB := Aside0.mk (below_step (bz0 HB.out) hb); clear hb hbox hg) | ((with_reducible refine gate_dst (N := 3) rfl ?_); refine box_event ?hg (N := 3) ?hd (cs := #[.int .i64 a1_0, .int .i64 a1_1, .int .i64 a1_2]) (t := 55) ?hr ?_; (case hd => rfl); (case hg => rfl); (case hr => exact vz); intro gb272 hg w7 hbox hb; have BK272 := Aside0.mk (hbox); have GW272 := Aside0.mk ((by rw [hg]; exact (below_size (bz1 HB.out GE271.out)) : w.heap.size <= gb272)); have GE272 := GW272; replace HB := Aside0.mk (below_step (bz1 HB.out GE271.out) hb); have NB271_272 := Aside0.mk ((by rw [hg]; exact Nat.ne_of_lt (blk_lt (kz BK271.out)) : gb271 ≠ gb272)); have NB272_271 := Aside0.mk ((by rw [hg]; exact Nat.ne_of_gt (blk_lt (kz BK271.out)) : gb272 ≠ gb271)); replace BK271 := Aside0.mk (blk_below (kz BK271.out) hb); clear hb hbox hg; have hnb8 := NB271_272.out; have hnc8 := NB272_271.out; obtain ⟨hcz9_0, hcz9_1, hcz9_2⟩ := cz3 BK271.out; obtain ⟨hfz9_0, hfz9_1, hfz9_2⟩ := fz3 BK271.out; obtain ⟨hcz10_0, hcz10_1, hcz10_2⟩ := cz3 BK272.out; obtain ⟨hfz10_0, hfz10_1, hfz10_2⟩ := fz3 BK272.out))
    go_ret
    exact ⟨gz, (bz2 HB.out GE271.out GE272.out)⟩
   ·rw [if_neg c5] at H
    have c5b0 : (a0_2 == a1_2) = false := beq_eq_false_iff_ne.mpr c5
    have c5b1 : (a0_2 != a1_2) = true := bne_iff_ne.mpr c5
    obtain rfl := Option.some.inj H
    go_enter Tryd.func59, Tryd.ntmps59
    go_wp2_with (first | ((with_reducible refine gate_dst (N := 2) rfl ?_); refine box_event ?hg (N := 2) ?hd (cs := #[.int .i64 a0_0, .int .i64 a0_1, .int .i64 a0_2]) (t := 55) ?hr ?_; (case hd => rfl); (case hg => rfl); (case hr => exact vz); intro gb271 hg w11 hbox hb; have BK271 := Aside0.mk (hbox); have GW271 := Aside0.mk ((by rw [hg]; exact (below_size (bz0 HB.out)) : w.heap.size <= gb271)); have GE271 := GW271; replace HB := Aside0.mk (below_step (bz0 HB.out) hb); clear hb hbox hg) | ((with_reducible refine gate_dst (N := 3) rfl ?_); refine box_event ?hg (N := 3) ?hd (cs := #[.int .i64 a1_0, .int .i64 a1_1, .int .i64 a1_2]) (t := 55) ?hr ?_; (case hd => rfl); (case hg => rfl); (case hr => exact vz); intro gb272 hg w12 hbox hb; have BK272 := Aside0.mk (hbox); have GW272 := Aside0.mk ((by rw [hg]; exact (below_size (bz1 HB.out GE271.out)) : w.heap.size <= gb272)); have GE272 := GW272; replace HB := Aside0.mk (below_step (bz1 HB.out GE271.out) hb); have NB271_272 := Aside0.mk ((by rw [hg]; exact Nat.ne_of_lt (blk_lt (kz BK271.out)) : gb271 ≠ gb272)); have NB272_271 := Aside0.mk ((by rw [hg]; exact Nat.ne_of_gt (blk_lt (kz BK271.out)) : gb272 ≠ gb271)); replace BK271 := Aside0.mk (blk_below (kz BK271.out) hb); clear hb hbox hg; have hnb13 := NB271_272.out; have hnc13 := NB272_271.out; obtain ⟨hcz14_0, hcz14_1, hcz14_2⟩ := cz3 BK271.out; obtain ⟨hfz14_0, hfz14_1, hfz14_2⟩ := fz3 BK271.out; obtain ⟨hcz15_0, hcz15_1, hcz15_2⟩ := cz3 BK272.out; obtain ⟨hfz15_0, hfz15_1, hfz15_2⟩ := fz3 BK272.out))
    go_ret
    exact ⟨gz, (bz2 HB.out GE271.out GE272.out)⟩
  ·rw [if_neg c4] at H
   have c4b0 : (a0_1 == a1_1) = false := beq_eq_false_iff_ne.mpr c4
   have c4b1 : (a0_1 != a1_1) = true := bne_iff_ne.mpr c4
   obtain rfl := Option.some.inj H
   go_enter Tryd.func59, Tryd.ntmps59
   go_wp2_with (first | ((with_reducible refine gate_dst (N := 2) rfl ?_); refine box_event ?hg (N := 2) ?hd (cs := #[.int .i64 a0_0, .int .i64 a0_1, .int .i64 a0_2]) (t := 55) ?hr ?_; (case hd => rfl); (case hg => rfl); (case hr => exact vz); intro gb271 hg w16 hbox hb; have BK271 := Aside0.mk (hbox); have GW271 := Aside0.mk ((by rw [hg]; exact (below_size (bz0 HB.out)) : w.heap.size <= gb271)); have GE271 := GW271; replace HB := Aside0.mk (below_step (bz0 HB.out) hb); clear hb hbox hg) | ((with_reducible refine gate_dst (N := 3) rfl ?_); refine box_event ?hg (N := 3) ?hd (cs := #[.int .i64 a1_0, .int .i64 a1_1, .int .i64 a1_2]) (t := 55) ?hr ?_; (case hd => rfl); (case hg => rfl); (case hr => exact vz); intro gb272 hg w17 hbox hb; have BK272 := Aside0.mk (hbox); have GW272 := Aside0.mk ((by rw [hg]; exact (below_size (bz1 HB.out GE271.out)) : w.heap.size <= gb272)); have GE272 := GW272; replace HB := Aside0.mk (below_step (bz1 HB.out GE271.out) hb); have NB271_272 := Aside0.mk ((by rw [hg]; exact Nat.ne_of_lt (blk_lt (kz BK271.out)) : gb271 ≠ gb272)); have NB272_271 := Aside0.mk ((by rw [hg]; exact Nat.ne_of_gt (blk_lt (kz BK271.out)) : gb272 ≠ gb271)); replace BK271 := Aside0.mk (blk_below (kz BK271.out) hb); clear hb hbox hg; have hnb18 := NB271_272.out; have hnc18 := NB272_271.out; obtain ⟨hcz19_0, hcz19_1, hcz19_2⟩ := cz3 BK271.out; obtain ⟨hfz19_0, hfz19_1, hfz19_2⟩ := fz3 BK271.out; obtain ⟨hcz20_0, hcz20_1, hcz20_2⟩ := cz3 BK272.out; obtain ⟨hfz20_0, hfz20_1, hfz20_2⟩ := fz3 BK272.out))
   go_ret
   exact ⟨gz, (bz2 HB.out GE271.out GE272.out)⟩
 ·rw [if_neg c3] at H
  have c3b0 : (a0_0 == a1_0) = false := beq_eq_false_iff_ne.mpr c3
  have c3b1 : (a0_0 != a1_0) = true := bne_iff_ne.mpr c3
  obtain rfl := Option.some.inj H
  go_enter Tryd.func59, Tryd.ntmps59
  go_wp2_with (first | ((with_reducible refine gate_dst (N := 2) rfl ?_); refine box_event ?hg (N := 2) ?hd (cs := #[.int .i64 a0_0, .int .i64 a0_1, .int .i64 a0_2]) (t := 55) ?hr ?_; (case hd => rfl); (case hg => rfl); (case hr => exact vz); intro gb271 hg w21 hbox hb; have BK271 := Aside0.mk (hbox); have GW271 := Aside0.mk ((by rw [hg]; exact (below_size (bz0 HB.out)) : w.heap.size <= gb271)); have GE271 := GW271; replace HB := Aside0.mk (below_step (bz0 HB.out) hb); clear hb hbox hg) | ((with_reducible refine gate_dst (N := 3) rfl ?_); refine box_event ?hg (N := 3) ?hd (cs := #[.int .i64 a1_0, .int .i64 a1_1, .int .i64 a1_2]) (t := 55) ?hr ?_; (case hd => rfl); (case hg => rfl); (case hr => exact vz); intro gb272 hg w22 hbox hb; have BK272 := Aside0.mk (hbox); have GW272 := Aside0.mk ((by rw [hg]; exact (below_size (bz1 HB.out GE271.out)) : w.heap.size <= gb272)); have GE272 := GW272; replace HB := Aside0.mk (below_step (bz1 HB.out GE271.out) hb); have NB271_272 := Aside0.mk ((by rw [hg]; exact Nat.ne_of_lt (blk_lt (kz BK271.out)) : gb271 ≠ gb272)); have NB272_271 := Aside0.mk ((by rw [hg]; exact Nat.ne_of_gt (blk_lt (kz BK271.out)) : gb272 ≠ gb271)); replace BK271 := Aside0.mk (blk_below (kz BK271.out) hb); clear hb hbox hg; have hnb23 := NB271_272.out; have hnc23 := NB272_271.out; obtain ⟨hcz24_0, hcz24_1, hcz24_2⟩ := cz3 BK271.out; obtain ⟨hfz24_0, hfz24_1, hfz24_2⟩ := fz3 BK271.out; obtain ⟨hcz25_0, hcz25_1, hcz25_2⟩ := cz3 BK272.out; obtain ⟨hfz25_0, hfz25_1, hfz25_2⟩ := fz3 BK272.out))
  go_ret
  exact ⟨gz, (bz2 HB.out GE271.out GE272.out)⟩
end Go.Proofs.YtlhofeikcaejpaaDoor.PFnExactShowType
