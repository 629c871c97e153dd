/- PFnLexedx1, of the words and walks that the law FnLexed needs; made by this session's program out of printed texts. -/

import Derived.Test.YtdjamdnjkdllgaaDoorVFnLexedPx0
namespace Go.Proofs.YtdjamdnjkdllgaaDoor.PFnLexed
open Go.RowKit Go.Proofs.YtdjamdnjkdllgaaDoorW.PrintWords Go.Proofs.YtdjamdnjkdllgaaDoorW.PrintLast Go.Proofs.YtdjamdnjkdllgaaDoorW.PrintMore
attribute [local go_sem] max2_int min2_int max_two min_two max_three min_three max_four min_four
set_option linter.unusedVariables false
set_option linter.unusedSimpArgs false
def laws_big.f (l0 : List Int) : Option (Bool) := some (decide ((l0.length : Int) > 1048576))
set_option maxHeartbeats 8000000 in
set_option maxRecDepth 100000 in
theorem laws_big.calls (A0 : Option Addr) (c0 : Nat) (l0 : List Int) (r : Bool) (w : World) (hr0 : Kd.C (Kd.int .u8) w A0 l0.length l0) (hc0 : l0.length <= c0) (h : laws_big.f l0 = some r) :
  Calls Tryd.prog 9 #[.slice A0 l0.length c0] w fun e w' => e = .returned (.bool r) /\ Drawn0 w w' := by
 have HR0 := Aside0.mk hr0
 have HC0 := Aside0.mk hc0
 clear hr0 hc0
 have H : (some (decide ((l0.length : Int) > 1048576))) = some r := h
 clear h
 obtain rfl := Option.some.inj H
 go_enter Tryd.func9, Tryd.ntmps9
 go_wp2
 go_ret
 exact ⟨e2z, dz⟩
def strconv_Itoa_34.f (a0 : Int) : Option (ByteArray) := if -9223372036854775808 <= a0 then (if a0 <= 9223372036854775807 then (some (⟨(Lib.itoa a0).toArray⟩ : ByteArray)) else (none)) else (none)
theorem strconv_Itoa_34.calls (a0 : Int) (r : ByteArray) (w : World) (h : strconv_Itoa_34.f a0 = some r) (hT_ : PW w) :
  Calls Tryd.prog 34 #[.int .i64 a0] w fun e w' => e = .returned (.string r) /\ Below w.heap.size w w' := by
 unfold strconv_Itoa_34.f at h
 split at h
 ·split at h
  ·rename_i h0 h1
   obtain rfl := Option.some.inj h
   exact (Tryd.strconv_Itoa a0 h0 h1 w hT_.tab).mono fun e w' ⟨h1, n, os, h2⟩ => ⟨h1, by rw [h2]; exact below_grow _ _ _⟩
  ·cases h
 ·cases h
def impl_Dec.f (a0 : Int) : Option (ByteArray) := (strconv_Itoa_34.f a0).bind fun t101 => (some t101)
set_option maxHeartbeats 8000000 in
set_option maxRecDepth 100000 in
theorem impl_Dec.calls (a0 : Int) (r : ByteArray) (w : World) (h : impl_Dec.f a0 = some r) (hT_ : PW w) :
  Calls Tryd.prog 16 #[.int .i64 a0] w fun e w' => e = .returned (.string r) /\ Below w.heap.size w w' := by
 have HB := Aside0.mk (Below.refl w.heap.size w)
 have H : ((strconv_Itoa_34.f a0).bind fun t101 => (some t101)) = some r := h
 clear h
 replace H := bi H
 obtain ⟨t101, A20, H⟩ := H
 try dsimp only at H
 have A2 := Aside0.mk A20
 clear A20
 obtain rfl := Option.some.inj H
 go_enter Tryd.func16, Tryd.ntmps16
 go_wp2_with (first | ((with_reducible refine gate_callee (f := 34) rfl ?_); refine goesL_ (some 4) rfl rfl Tryd.func34 (by kernel_rfl) rfl #[.int .i64 a0] rfl lz ?_; (with_reducible refine (strconv_Itoa_34.calls a0 t101 _ A2.out ?hT_).mono ?_); (case hT_ => exact PW.below hT_ (bz0 HB.out)); rintro e w3 ⟨rfl, hb⟩; refine ⟨_, rfl, ?_⟩; replace HB := Aside0.mk (below_step (bz0 HB.out) hb); (try clear hb); (try clear hi)))
 go_ret
 exact ⟨gz, (bz0 HB.out)⟩
def spec_Dec.l0 : Nat -> Int -> ByteArray -> Bool -> Option (ByteArray)
 | 0, _, _, _ => none
 | k + 1, x0, x3, x4 => if x0 = 0 then (if x4 = true then (if 1 + x3.size <= 9223372036854775807 then (some ((⟨#[45]⟩ : ByteArray) ++ x3)) else (none)) else (some x3)) else (if (Int.tmod x0 10) < 0 then ((some (([(wrap64 (48 + (wrap64 (-(Int.tmod x0 10))))) % 256] : List Int) : List Int)).bind fun y102 => (if (strOfNums y102).size + x3.size <= 9223372036854775807 then (spec_Dec.l0 k (wrap64 (Int.tdiv x0 10)) ((strOfNums y102) ++ x3) x4) else (none))) else ((some (([(wrap64 (48 + (Int.tmod x0 10))) % 256] : List Int) : List Int)).bind fun y105 => (if (strOfNums y105).size + x3.size <= 9223372036854775807 then (spec_Dec.l0 k (wrap64 (Int.tdiv x0 10)) ((strOfNums y105) ++ x3) x4) else (none))))
def spec_Dec.f (k : Nat) (a0 : Int) : Option (ByteArray) := if a0 = 0 then (some (⟨#[48]⟩ : ByteArray)) else (spec_Dec.l0 k a0 (⟨#[]⟩ : ByteArray) (decide (a0 < 0)))
theorem spec_Dec.mono_l : ∀ k, (∀ y0 y1 y2, LeO (spec_Dec.l0 k y0 y1 y2) (spec_Dec.l0 (k + 1) y0 y1 y2))
 | 0 => fun _ _ _ r h => by simp [spec_Dec.l0] at h
 | k + 1 => by
  have ih0 := spec_Dec.mono_l k
  ·intro y0 y1 y2
   unfold spec_Dec.l0
   with_reducible repeat' first | exact ih0 _ _ _ | exact lrz _ | exact lnz _ | refine liz ?_ ?_ | refine lbz ?_ fun _ => ?_
theorem spec_Dec.mono : ∀ a0 k, LeO (spec_Dec.f k a0) (spec_Dec.f (k + 1) a0) := by
 intro a0 k
 have ih0 := spec_Dec.mono_l k
 unfold spec_Dec.f
 with_reducible repeat' first | exact ih0 _ _ _ | exact lrz _ | exact lnz _ | refine liz ?_ ?_ | refine lbz ?_ fun _ => ?_
set_option maxHeartbeats 8000000 in
set_option maxRecDepth 100000 in
theorem spec_Dec.calls (k : Nat) (a0 : Int) (r : ByteArray) (w : World) (h : spec_Dec.f k a0 = some r) :
  Calls Tryd.prog 28 #[.int .i64 a0] w fun e w' => e = .returned (.string r) /\ Below w.heap.size w w' := by
 have HB := Aside0.mk (Below.refl w.heap.size w)
 have H : (if a0 = 0 then (some (⟨#[48]⟩ : ByteArray)) else (spec_Dec.l0 k a0 (⟨#[]⟩ : ByteArray) (decide (a0 < 0)))) = some r := h
 clear h
 by_cases c2 : a0 = 0
 ·rw [if_pos c2] at H
  have c2b0 : (a0 == 0) = true := beq_iff_eq.mpr c2
  have c2b1 : (a0 != 0) = false := bne_eq_false_iff_eq.mpr c2
  clear c2
  obtain rfl := Option.some.inj H
  go_enter Tryd.func28, Tryd.ntmps28
  go_wp2
  go_ret
  exact ⟨gz, (bz0 HB.out)⟩
 ·rw [if_neg c2] at H
  have c2b0 : (a0 == 0) = false := beq_eq_false_iff_ne.mpr c2
  have c2b1 : (a0 != 0) = true := bne_iff_ne.mpr c2
  have H' := Aside0.mk H
  clear H
  go_enter Tryd.func28, Tryd.ntmps28
  go_wp2
  go_loopg [0, 3] k (fun kq v0 v3 w' => ∃ (x0_1 : Int) (x3_1 : ByteArray), v0 = .int .i64 x0_1 /\ v3 = .string x3_1 /\ Aside0 (spec_Dec.l0 kq x0_1 x3_1 (decide (a0 < 0)) = some r) /\ Aside0 (kq <= k) /\ Aside0 (Below w.heap.size w w'))
  case atStart => exact ⟨(a0), ((⟨#[]⟩ : ByteArray)), ez, ez, H', ⟨Nat.le_refl _⟩, ⟨(bz0 HB.out)⟩⟩
  case round =>
   clear H'
   try clear c2
   try clear c2b0
   try clear c2b1
   try clear p2
   obtain ⟨x0_1, x3_1, rfl, rfl, HA, HK1, HB⟩ := hrel
   cases gk with
   | zero => exact absurd HA.out (by simp [spec_Dec.l0])
   | succ k1 =>
    have H := HA.out
    clear HA
    simp only [spec_Dec.l0] at H
    by_cases c3 : x0_1 = 0
    ·rw [if_pos c3] at H
     have c3b0 : (x0_1 == 0) = true := beq_iff_eq.mpr c3
     have c3b1 : (x0_1 != 0) = false := bne_eq_false_iff_eq.mpr c3
     clear c3
     by_cases c4 : (decide (a0 < 0)) = true
     ·rw [if_pos c4] at H
      have c4b0 : (decide (a0 < 0)) = true := c4
      clear c4
      (try simp only [c4b0])
      replace H := iz H
      obtain ⟨c5, H⟩ := H
      have c5b0 := eq_true c5
      have c5b1 : decide (1 + x3_1.size <= 9223372036854775807) = true := decide_eq_true c5
      try have c5b2 : (9223372036854775807 < 1 + x3_1.size) = False := eq_false (Nat.not_lt.2 c5)
      obtain rfl := Option.some.inj H
      go_wp2
      go_ret
      exact ⟨gz, (bz0 HB.out)⟩
     ·rw [if_neg c4] at H
      have c4b0 : (decide (a0 < 0)) = false := by simpa using c4
      clear c4
      (try simp only [c4b0])
      obtain rfl := Option.some.inj H
      go_wp2
      go_ret
      exact ⟨gz, (bz0 HB.out)⟩
    ·rw [if_neg c3] at H
     have c3b0 : (x0_1 == 0) = false := beq_eq_false_iff_ne.mpr c3
     have c3b1 : (x0_1 != 0) = true := bne_iff_ne.mpr c3
     by_cases c6 : (Int.tmod x0_1 10) < 0
     ·rw [if_pos c6] at H
      have c6b0 := decide_eq_true c6
      clear c6
      obtain ⟨y102, hy102⟩ : ∃ y_ : List Int, y_ = (([(wrap64 (48 + (wrap64 (-(Int.tmod x0_1 10))))) % 256] : List Int)) := ⟨_, rfl⟩
      replace H : (if (strOfNums y102).size + x3_1.size <= 9223372036854775807 then (spec_Dec.l0 k1 (wrap64 (Int.tdiv x0_1 10)) ((strOfNums y102) ++ x3_1) (decide (a0 < 0))) else (none)) = some r := yz hy102 H
      have Ny102 := Aside0.mk hy102
      clear hy102
      replace H := iz H
      obtain ⟨c7, H⟩ := H
      have c7b0 := eq_true c7
      have c7b1 : decide ((strOfNums y102).size + x3_1.size <= 9223372036854775807) = true := decide_eq_true c7
      try have c7b2 : (9223372036854775807 < (strOfNums y102).size + x3_1.size) = False := eq_false (Nat.not_lt.2 c7)
      have H' := Aside0.mk H
      clear H
      go_wp2_with (first | ((with_reducible refine gate_dst (N := 21) rfl ?_); refine Kd.R_lit (Kd.int .u8) _ 5 ?hg (N := 21) ?hd (xs := ([(wrap64 (48 + (wrap64 (-(Int.tmod x0_1 10))))) % 256] : List Int)) (inner := [.int .u8 ((wrap64 (48 + (wrap64 (-(Int.tmod x0_1 10))))) % 256)]) (ok := fun _ => True) (okp := fun _ => True) ?hr ?hp (fun _ hk => hk) trivial (Below.refl _ _) (Nat.le_refl _) (by simp) ?_; (case hd => rfl); (case hg => rfl); (case hr => exact vz); (case hp => exact (Reps.one (show Kd.M (Kd.int .u8) _ _ _ ((wrap64 (48 + (wrap64 (-(Int.tmod x0_1 10))))) % 256) [.int .u8 ((wrap64 (48 + (wrap64 (-(Int.tmod x0_1 10))))) % 256)] from rfl) (Reps.none _ _))); intro v103 w8 ho9 hb hg_ hnew_; clear hg_ hnew_; (first | rw [<- Ny102.out] at ho9 | (simp only [Int.reduceToNat] at ho9; rw [<- Ny102.out] at ho9)); have HO104 := Aside0.mk (Kd.R_lower ho9 (below_size (bz0 HB.out))); replace HB := Aside0.mk (below_step (bz0 HB.out) hb); clear hb ho9; have hcv10 := own_string (P := Tryd.prog) Tryd.underlying25 Tryd.underlying5 Tryd.underlying9 (Kd.own_of_R HO104.out)))
      go_roundg k1
      case measure => have := HK1.out; omega
      case rel => exact ⟨(wrap64 (Int.tdiv x0_1 10)), ((strOfNums y102) ++ x3_1), ez, ez, H', ⟨by have := HK1.out; omega⟩, ⟨(bz0 HB.out)⟩⟩
     ·rw [if_neg c6] at H
      have c6b0 := decide_eq_false c6
      clear c6
      obtain ⟨y105, hy105⟩ : ∃ y_ : List Int, y_ = (([(wrap64 (48 + (Int.tmod x0_1 10))) % 256] : List Int)) := ⟨_, rfl⟩
      replace H : (if (strOfNums y105).size + x3_1.size <= 9223372036854775807 then (spec_Dec.l0 k1 (wrap64 (Int.tdiv x0_1 10)) ((strOfNums y105) ++ x3_1) (decide (a0 < 0))) else (none)) = some r := yz hy105 H
      have Ny105 := Aside0.mk hy105
      clear hy105
      replace H := iz H
      obtain ⟨c11, H⟩ := H
      have c11b0 := eq_true c11
      have c11b1 : decide ((strOfNums y105).size + x3_1.size <= 9223372036854775807) = true := decide_eq_true c11
      try have c11b2 : (9223372036854775807 < (strOfNums y105).size + x3_1.size) = False := eq_false (Nat.not_lt.2 c11)
      have H' := Aside0.mk H
      clear H
      go_wp2_with (first | ((with_reducible refine gate_dst (N := 21) rfl ?_); refine Kd.R_lit (Kd.int .u8) _ 5 ?hg (N := 21) ?hd (xs := ([(wrap64 (48 + (Int.tmod x0_1 10))) % 256] : List Int)) (inner := [.int .u8 ((wrap64 (48 + (Int.tmod x0_1 10))) % 256)]) (ok := fun _ => True) (okp := fun _ => True) ?hr ?hp (fun _ hk => hk) trivial (Below.refl _ _) (Nat.le_refl _) (by simp) ?_; (case hd => rfl); (case hg => rfl); (case hr => exact vz); (case hp => exact (Reps.one (show Kd.M (Kd.int .u8) _ _ _ ((wrap64 (48 + (Int.tmod x0_1 10))) % 256) [.int .u8 ((wrap64 (48 + (Int.tmod x0_1 10))) % 256)] from rfl) (Reps.none _ _))); intro v106 w12 ho13 hb hg_ hnew_; clear hg_ hnew_; (first | rw [<- Ny105.out] at ho13 | (simp only [Int.reduceToNat] at ho13; rw [<- Ny105.out] at ho13)); have HO107 := Aside0.mk (Kd.R_lower ho13 (below_size (bz0 HB.out))); replace HB := Aside0.mk (below_step (bz0 HB.out) hb); clear hb ho13; have hcv14 := own_string (P := Tryd.prog) Tryd.underlying25 Tryd.underlying5 Tryd.underlying9 (Kd.own_of_R HO107.out)))
      go_roundg k1
      case measure => have := HK1.out; omega
      case rel => exact ⟨(wrap64 (Int.tdiv x0_1 10)), ((strOfNums y105) ++ x3_1), ez, ez, H', ⟨by have := HK1.out; omega⟩, ⟨(bz0 HB.out)⟩⟩
mutual
def spec_ReadDec.l0 : Nat -> ByteArray -> Int -> Int -> Int -> Option (Int × Bool)
 | 0, _, _, _, _ => none
 | k + 1, x0, x4, x5, x6 => if x6 < (x0.size : Int) then (spec_ReadDec.j1 k x0 x4 x5 x6 (decide (x6 < 11))) else (spec_ReadDec.j1 k x0 x4 x5 x6 false)
def spec_ReadDec.j1 : Nat -> ByteArray -> Int -> Int -> Int -> Bool -> Option (Int × Bool)
 | 0, _, _, _, _, _ => none
 | k + 1, x0, x4, x5, x6, x14 => if x14 = true then (if 0 <= x6 then (if x6 < (x0.size : Int) then (if (bt x0 x6) ≥ 48 then (if (bt x0 x6) <= 57 then (spec_ReadDec.l0 k x0 (wrap64 ((wrap64 (x4 * 10)) + (((bt x0 x6) - 48) % 256))) (wrap64 (x5 + 1)) (wrap64 (x6 + 1))) else (spec_ReadDec.l0 k x0 x4 x5 (wrap64 (x6 + 1)))) else (spec_ReadDec.l0 k x0 x4 x5 (wrap64 (x6 + 1)))) else (none)) else (none)) else (if (x0.size : Int) > 0 then (if 0 < (x0.size : Int) then (spec_ReadDec.j2 k x0 x4 x5 ((bt x0 0) == 45)) else (none)) else (spec_ReadDec.j2 k x0 x4 x5 false))
def spec_ReadDec.j2 : Nat -> ByteArray -> Int -> Int -> Bool -> Option (Int × Bool)
 | 0, _, _, _, _ => none
 | k + 1, x0, x4, x5, x44 => if x44 = true then (if x5 > 9 then (some (0, false)) else (if (x0.size : Int) > 10 then (some (0, false)) else ((spec_Dec.f k (wrap64 (-x4))).bind fun t108 => (if t108.toList = x0.toList then (some (wrap64 (-x4), true)) else (some (0, false)))))) else (if x5 > 9 then (some (0, false)) else (if (x0.size : Int) > 10 then (some (0, false)) else ((spec_Dec.f k x4).bind fun t109 => (if t109.toList = x0.toList then (some (x4, true)) else (some (0, false))))))
end
def spec_ReadDec.f (k : Nat) (a0 : ByteArray) : Option (Int × Bool) := spec_ReadDec.l0 k a0 0 0 0
theorem spec_ReadDec.mono_l : ∀ k, (∀ y0 y1 y2 y3, LeO (spec_ReadDec.l0 k y0 y1 y2 y3) (spec_ReadDec.l0 (k + 1) y0 y1 y2 y3)) /\ (∀ y0 y1 y2 y3 y4, LeO (spec_ReadDec.j1 k y0 y1 y2 y3 y4) (spec_ReadDec.j1 (k + 1) y0 y1 y2 y3 y4)) /\ (∀ y0 y1 y2 y3, LeO (spec_ReadDec.j2 k y0 y1 y2 y3) (spec_ReadDec.j2 (k + 1) y0 y1 y2 y3))
 | 0 => ⟨fun _ _ _ _ r h => by simp [spec_ReadDec.l0] at h, fun _ _ _ _ _ r h => by simp [spec_ReadDec.j1] at h, fun _ _ _ _ r h => by simp [spec_ReadDec.j2] at h⟩
 | k + 1 => by
  obtain ⟨ih0, ih1, ih2⟩ := spec_ReadDec.mono_l k
  refine ⟨?_, ?_, ?_⟩
  ·intro y0 y1 y2 y3
   unfold spec_ReadDec.l0
   with_reducible repeat' first | exact ih0 _ _ _ _ | exact ih1 _ _ _ _ _ | exact ih2 _ _ _ _ | exact spec_Dec.mono _ _ | exact lrz _ | exact lnz _ | refine liz ?_ ?_ | refine lbz ?_ fun _ => ?_
  ·intro y0 y1 y2 y3 y4
   unfold spec_ReadDec.j1
   with_reducible repeat' first | exact ih0 _ _ _ _ | exact ih1 _ _ _ _ _ | exact ih2 _ _ _ _ | exact spec_Dec.mono _ _ | exact lrz _ | exact lnz _ | refine liz ?_ ?_ | refine lbz ?_ fun _ => ?_
  ·intro y0 y1 y2 y3
   unfold spec_ReadDec.j2
   with_reducible repeat' first | exact ih0 _ _ _ _ | exact ih1 _ _ _ _ _ | exact ih2 _ _ _ _ | exact spec_Dec.mono _ _ | exact lrz _ | exact lnz _ | refine liz ?_ ?_ | refine lbz ?_ fun _ => ?_
theorem spec_ReadDec.mono : ∀ a0 k, LeO (spec_ReadDec.f k a0) (spec_ReadDec.f (k + 1) a0) := by
 intro a0 k
 obtain ⟨ih0, ih1, ih2⟩ := spec_ReadDec.mono_l k
 unfold spec_ReadDec.f
 with_reducible repeat' first | exact ih0 _ _ _ _ | exact ih1 _ _ _ _ _ | exact ih2 _ _ _ _ | exact spec_Dec.mono _ _ | exact lrz _ | exact lnz _ | refine liz ?_ ?_ | refine lbz ?_ fun _ => ?_
set_option maxHeartbeats 8000000 in
set_option maxRecDepth 100000 in
theorem spec_ReadDec.calls (k : Nat) (a0 : ByteArray) (r1 : Int) (r2 : Bool) (w : World) (h : spec_ReadDec.f k a0 = some (r1, r2)) :
  Calls Tryd.prog 7 #[.string a0] w fun e w' => e = .returned (.tuple #[.int .i64 r1, .bool r2]) /\ Below w.heap.size w w' := by
 have HB := Aside0.mk (Below.refl w.heap.size w)
 have H : (spec_ReadDec.l0 k a0 0 0 0) = some (r1, r2) := h
 clear h
 have H' := Aside0.mk H
 clear H
 go_enter Tryd.func7, Tryd.ntmps7
 go_wp2
 go_loopg [4, 5, 6] k (fun kq v4 v5 v6 w' => ∃ (x4_1 : Int) (x5_1 : Int) (x6_1 : Int), v4 = .int .i64 x4_1 /\ v5 = .int .i64 x5_1 /\ v6 = .int .i64 x6_1 /\ Aside0 (spec_ReadDec.l0 kq a0 x4_1 x5_1 x6_1 = some (r1, r2)) /\ Aside0 (kq <= k) /\ Aside0 (Below w.heap.size w w'))
 case atStart => exact ⟨(0), (0), (0), ez, ez, ez, H', ⟨Nat.le_refl _⟩, ⟨(bz0 HB.out)⟩⟩
 case round =>
  clear H'
  obtain ⟨x4_1, x5_1, x6_1, rfl, rfl, rfl, HA, HK1, HB⟩ := hrel
  cases gk with
  | zero => exact absurd HA.out (by simp [spec_ReadDec.l0])
  | succ k1 =>
   have H := HA.out
   clear HA
   simp only [spec_ReadDec.l0] at H
   have HC2 := Aside0.mk H
   clear H
   go_upto_region 4 with (fail)
   go_cut [14] (fun v14 wc => ∃ (kq : Nat) (x14_1 : Bool), v14 = .bool x14_1 /\ Aside0 (spec_ReadDec.j1 kq a0 x4_1 x5_1 x6_1 x14_1 = some (r1, r2)) /\ Aside0 (kq <= k1) /\ Aside0 (Below w.heap.size w wc))
   case first =>
    have H := HC2.out
    clear HC2
    by_cases c3 : x6_1 < (a0.size : Int)
    ·rw [if_pos c3] at H
     have c3b0 := decide_eq_true c3
     clear c3
     (first | rw [c3b0] | (simp only [i64_w, i32_w]; rw [c3b0]) | skip)
     have H' := Aside0.mk H
     clear H
     go_wp2
     go_meet
     case rel => exact ⟨_, (decide (x6_1 < 11)), ez, H', ⟨by have := HK1.out; first | omega | exact Nat.le_refl _⟩, ⟨(bz0 HB.out)⟩⟩
    ·rw [if_neg c3] at H
     have c3b0 := decide_eq_false c3
     clear c3
     (first | rw [c3b0] | (simp only [i64_w, i32_w]; rw [c3b0]) | skip)
     have H' := Aside0.mk H
     clear H
     go_wp2
     go_meet
     case rel => exact ⟨_, (false), ez, H', ⟨by have := HK1.out; first | omega | exact Nat.le_refl _⟩, ⟨(bz0 HB.out)⟩⟩
   case rest =>
    clear HC2
    try clear p2
    try clear c3
    try clear c3b0
    obtain ⟨kq, x14_1, rfl, HA, HJ1, HB⟩ := hcut
    cases kq with
    | zero => exact absurd HA.out (by simp [spec_ReadDec.j1])
    | succ kj1 =>
     have H := HA.out
     clear HA
     simp only [spec_ReadDec.j1] at H
     by_cases c4 : x14_1 = true
     ·subst c4
      have H1 := hp H
      clear H
      have H := H1
      clear H1
      replace H := iz H
      obtain ⟨c5, H⟩ := H
      have c5b0 := decide_eq_true c5
      clear c5
      replace H := iz H
      obtain ⟨c6, H⟩ := H
      have c6b0 := decide_eq_true c6
      clear c6
      by_cases c8 : (bt a0 x6_1) ≥ 48
      ·rw [if_pos c8] at H
       have c8b0 : decide (48 <= (bt a0 x6_1)) = true := decide_eq_true c8
       clear c8
       by_cases c10 : (bt a0 x6_1) <= 57
       ·rw [if_pos c10] at H
        have c10b0 := decide_eq_true c10
        clear c10
        have H' := Aside0.mk H
        clear H
        have p7 : 0 <= (x6_1 : Int) := oz
        have q7 : x6_1 < (a0.size : Int) := oz
        have hx7 := bt_at a0 x6_1
        replace p7 := eq_true p7
        replace q7 := eq_true q7
        have p9 : 0 <= (x6_1 : Int) := oz
        have q9 : x6_1 < (a0.size : Int) := oz
        have hx9 := bt_at a0 x6_1
        replace p9 := eq_true p9
        replace q9 := eq_true q9
        have p11 : 0 <= (x6_1 : Int) := oz
        have q11 : x6_1 < (a0.size : Int) := oz
        have hx11 := bt_at a0 x6_1
        replace p11 := eq_true p11
        replace q11 := eq_true q11
        go_wp2
        go_roundg kj1
        case measure => have := HK1.out; have := HJ1.out; omega
        case rel => exact ⟨(wrap64 ((wrap64 (x4_1 * 10)) + (((bt a0 x6_1) - 48) % 256))), (wrap64 (x5_1 + 1)), (wrap64 (x6_1 + 1)), ez, ez, ez, H', ⟨by have := HK1.out; have := HJ1.out; omega⟩, ⟨(bz0 HB.out)⟩⟩
       ·rw [if_neg c10] at H
        have c10b0 := decide_eq_false c10
        clear c10
        have H' := Aside0.mk H
        clear H
        have p7 : 0 <= (x6_1 : Int) := oz
        have q7 : x6_1 < (a0.size : Int) := oz
        have hx7 := bt_at a0 x6_1
        replace p7 := eq_true p7
        replace q7 := eq_true q7
        have p9 : 0 <= (x6_1 : Int) := oz
        have q9 : x6_1 < (a0.size : Int) := oz
        have hx9 := bt_at a0 x6_1
        replace p9 := eq_true p9
        replace q9 := eq_true q9
        go_wp2
        go_roundg kj1
        case measure => have := HK1.out; have := HJ1.out; omega
        case rel => exact ⟨(x4_1), (x5_1), (wrap64 (x6_1 + 1)), ez, ez, ez, H', ⟨by have := HK1.out; have := HJ1.out; omega⟩, ⟨(bz0 HB.out)⟩⟩
      ·rw [if_neg c8] at H
       have c8b0 : decide (48 <= (bt a0 x6_1)) = false := decide_eq_false c8
       clear c8
       have H' := Aside0.mk H
       clear H
       have p7 : 0 <= (x6_1 : Int) := oz
       have q7 : x6_1 < (a0.size : Int) := oz
       have hx7 := bt_at a0 x6_1
       replace p7 := eq_true p7
       replace q7 := eq_true q7
       go_wp2
       go_roundg kj1
       case measure => have := HK1.out; have := HJ1.out; omega
       case rel => exact ⟨(x4_1), (x5_1), (wrap64 (x6_1 + 1)), ez, ez, ez, H', ⟨by have := HK1.out; have := HJ1.out; omega⟩, ⟨(bz0 HB.out)⟩⟩
     ·replace c4 := Bool.eq_false_iff.mpr c4
      subst c4
      have H1 := hq H
      clear H
      have H := H1
      clear H1
      have HC12 := Aside0.mk H
      clear H
      go_upto_region 9 with (fail)
      go_cut [44] (fun v44 wc => ∃ (kq : Nat) (x44_11 : Bool), v44 = .bool x44_11 /\ Aside0 (spec_ReadDec.j2 kq a0 x4_1 x5_1 x44_11 = some (r1, r2)) /\ Aside0 (kq <= kj1) /\ Aside0 (Below w.heap.size w wc))
      case first =>
       have H := HC12.out
       clear HC12
       by_cases c13 : (a0.size : Int) > 0
       ·rw [if_pos c13] at H
        have c13b0 : decide (0 < (a0.size : Int)) = true := decide_eq_true c13
        have c13b1 : decide (0 < a0.size) = true := decide_eq_true (by omega)
        clear c13
        (first | rw [c13b0] | (simp only [i64_w, i32_w]; rw [c13b0]) | skip)
        replace H := iz H
        obtain ⟨c14, H⟩ := H
        have c14b0 := decide_eq_true c14
        have c14b1 : decide (0 < a0.size) = true := decide_eq_true (by omega)
        clear c14
        have H' := Aside0.mk H
        clear H
        have p15 : 0 <= (0 : Int) := (by omega)
        have q15 : 0 < a0.size := (by have : (0 : Int) < (a0.size : Int) := oz; omega)
        have hx15 : ∀ h : 0 < a0.size, ((a0[0]'h).toNat : Int) = bt a0 0 := bt_at a0 0
        clear p15
        have qi15 : (0 < (a0.size : Int)) = True := eq_true (of_decide_eq_true az)
        replace q15 := eq_true q15
        go_wp2
        go_meet
        case rel => exact ⟨_, (((bt a0 0) == 45)), ez, H', ⟨by have := HK1.out; have := HJ1.out; first | omega | exact Nat.le_refl _⟩, ⟨(bz0 HB.out)⟩⟩
       ·rw [if_neg c13] at H
        have c13b0 : decide (0 < (a0.size : Int)) = false := decide_eq_false c13
        have c13b1 : decide (0 < a0.size) = false := decide_eq_false (by omega)
        clear c13
        (first | rw [c13b0] | (simp only [i64_w, i32_w]; rw [c13b0]) | skip)
        have H' := Aside0.mk H
        clear H
        go_wp2
        go_meet
        case rel => exact ⟨_, (false), ez, H', ⟨by have := HK1.out; have := HJ1.out; first | omega | exact Nat.le_refl _⟩, ⟨(bz0 HB.out)⟩⟩
      case rest =>
       clear HC12
       try clear c1
       try clear p1
       try clear q1
       try clear hx1
       try clear qi1
       try clear p2
       try clear c3
       try clear c3b0
       try clear c4
       try clear c5
       try clear c5b0
       try clear c6
       try clear c6b0
       try clear p6
       try clear c7
       try clear p7
       try clear q7
       try clear hx7
       try clear c8
       try clear c8b0
       try clear p9
       try clear q9
       try clear hx9
       try clear c10
       try clear c10b0
       try clear p11
       try clear q11
       try clear hx11
       try clear c13
       try clear c13b0
       try clear c13b1
       try clear c14
       try clear c14b0
       try clear c14b1
       try clear p15
       try clear q15
       try clear hx15
       try clear qi15
       try clear p11
       try clear p15
       try clear p2
       try clear p7
       try clear p9
       try clear q11
       try clear q15
       try clear q7
       try clear q9
       obtain ⟨kq, x44_11, rfl, HA, HJ11, HB⟩ := hcut
       cases kq with
       | zero => exact absurd HA.out (by simp [spec_ReadDec.j2])
       | succ kj11 =>
        have H := HA.out
        clear HA
        simp only [spec_ReadDec.j2] at H
        by_cases c16 : x44_11 = true
        ·subst c16
         have H1 := hp H
         clear H
         have H := H1
         clear H1
         by_cases c17 : x5_1 > 9
         ·rw [if_pos c17] at H
          have c17b0 : decide (9 < x5_1) = true := decide_eq_true c17
          clear c17
          simp only [Option.some.injEq, Prod.mk.injEq] at H
          obtain ⟨rfl, rfl⟩ := H
          go_wp2
          go_ret2
          exact ⟨gz, (bz0 HB.out)⟩
         ·rw [if_neg c17] at H
          have c17b0 : decide (9 < x5_1) = false := decide_eq_false c17
          clear c17
          by_cases c18 : (a0.size : Int) > 10
          ·rw [if_pos c18] at H
           have c18b0 : decide (10 < (a0.size : Int)) = true := decide_eq_true c18
           have c18b1 : decide (10 < a0.size) = true := decide_eq_true (by omega)
           clear c18
           simp only [Option.some.injEq, Prod.mk.injEq] at H
           obtain ⟨rfl, rfl⟩ := H
           go_wp2
           go_ret2
           exact ⟨gz, (bz0 HB.out)⟩
          ·rw [if_neg c18] at H
           have c18b0 : decide (10 < (a0.size : Int)) = false := decide_eq_false c18
           have c18b1 : decide (10 < a0.size) = false := decide_eq_false (by omega)
           clear c18
           replace H := bi H
           obtain ⟨t108, A190, H⟩ := H
           try dsimp only at H
           have A19 := Aside0.mk A190
           clear A190
           by_cases c20 : t108.toList = a0.toList
           ·rw [if_pos c20] at H
            have c20b0 : (t108.toList == a0.toList) = true := beq_iff_eq.mpr c20
            have c20b1 : (t108.toList != a0.toList) = false := bne_eq_false_iff_eq.mpr c20
            clear c20
            simp only [Option.some.injEq, Prod.mk.injEq] at H
            obtain ⟨rfl, rfl⟩ := H
            go_wp2_with (first | (go_at_call 28; (with_reducible refine (spec_Dec.calls kj11 (wrap64 (-x4_1)) t108 _ A19.out).mono ?_); rintro e w21 ⟨rfl, hb⟩; replace HB := Aside0.mk (below_step (bz0 HB.out) hb); (try clear hb); (try clear hi)))
            go_ret2
            exact ⟨gz, (bz0 HB.out)⟩
           ·rw [if_neg c20] at H
            have c20b0 : (t108.toList == a0.toList) = false := beq_eq_false_iff_ne.mpr c20
            have c20b1 : (t108.toList != a0.toList) = true := bne_iff_ne.mpr c20
            simp only [Option.some.injEq, Prod.mk.injEq] at H
            obtain ⟨rfl, rfl⟩ := H
            go_wp2_with (first | (go_at_call 28; (with_reducible refine (spec_Dec.calls kj11 (wrap64 (-x4_1)) t108 _ A19.out).mono ?_); rintro e w22 ⟨rfl, hb⟩; replace HB := Aside0.mk (below_step (bz0 HB.out) hb); (try clear hb); (try clear hi)))
            go_ret2
            exact ⟨gz, (bz0 HB.out)⟩
        ·replace c16 := Bool.eq_false_iff.mpr c16
         subst c16
         have H1 := hq H
         clear H
         have H := H1
         clear H1
         by_cases c23 : x5_1 > 9
         ·rw [if_pos c23] at H
          have c23b0 : decide (9 < x5_1) = true := decide_eq_true c23
          clear c23
          simp only [Option.some.injEq, Prod.mk.injEq] at H
          obtain ⟨rfl, rfl⟩ := H
          go_wp2
          go_ret2
          exact ⟨gz, (bz0 HB.out)⟩
         ·rw [if_neg c23] at H
          have c23b0 : decide (9 < x5_1) = false := decide_eq_false c23
          clear c23
          by_cases c24 : (a0.size : Int) > 10
          ·rw [if_pos c24] at H
           have c24b0 : decide (10 < (a0.size : Int)) = true := decide_eq_true c24
           have c24b1 : decide (10 < a0.size) = true := decide_eq_true (by omega)
           clear c24
           simp only [Option.some.injEq, Prod.mk.injEq] at H
           obtain ⟨rfl, rfl⟩ := H
           go_wp2
           go_ret2
           exact ⟨gz, (bz0 HB.out)⟩
          ·rw [if_neg c24] at H
           have c24b0 : decide (10 < (a0.size : Int)) = false := decide_eq_false c24
           have c24b1 : decide (10 < a0.size) = false := decide_eq_false (by omega)
           clear c24
           replace H := bi H
           obtain ⟨t109, A250, H⟩ := H
           try dsimp only at H
           have A25 := Aside0.mk A250
           clear A250
           by_cases c26 : t109.toList = a0.toList
           ·rw [if_pos c26] at H
            have c26b0 : (t109.toList == a0.toList) = true := beq_iff_eq.mpr c26
            have c26b1 : (t109.toList != a0.toList) = false := bne_eq_false_iff_eq.mpr c26
            clear c26
            simp only [Option.some.injEq, Prod.mk.injEq] at H
            obtain ⟨rfl, rfl⟩ := H
            go_wp2_with (first | (go_at_call 28; (with_reducible refine (spec_Dec.calls kj11 x4_1 t109 _ A25.out).mono ?_); rintro e w27 ⟨rfl, hb⟩; replace HB := Aside0.mk (below_step (bz0 HB.out) hb); (try clear hb); (try clear hi)))
            go_ret2
            exact ⟨gz, (bz0 HB.out)⟩
           ·rw [if_neg c26] at H
            have c26b0 : (t109.toList == a0.toList) = false := beq_eq_false_iff_ne.mpr c26
            have c26b1 : (t109.toList != a0.toList) = true := bne_iff_ne.mpr c26
            simp only [Option.some.injEq, Prod.mk.injEq] at H
            obtain ⟨rfl, rfl⟩ := H
            go_wp2_with (first | (go_at_call 28; (with_reducible refine (spec_Dec.calls kj11 x4_1 t109 _ A25.out).mono ?_); rintro e w28 ⟨rfl, hb⟩; replace HB := Aside0.mk (below_step (bz0 HB.out) hb); (try clear hb); (try clear hi)))
            go_ret2
            exact ⟨gz, (bz0 HB.out)⟩
def spec_l2Letter.f (a0 : Int) : Option (Bool) := if a0 ≥ 97 then (some (decide (a0 <= 122))) else (some false)
set_option maxHeartbeats 8000000 in
set_option maxRecDepth 100000 in
theorem spec_l2Letter.calls (a0 : Int) (r : Bool) (w : World) (h : spec_l2Letter.f a0 = some r) :
  Calls Tryd.prog 39 #[.int .u8 a0] w fun e w' => e = .returned (.bool r) /\ Drawn0 w w' := by
 have H : (if a0 ≥ 97 then (some (decide (a0 <= 122))) else (some false)) = some r := h
 clear h
 by_cases c2 : a0 ≥ 97
 ·rw [if_pos c2] at H
  have c2b0 : decide (97 <= a0) = true := decide_eq_true c2
  clear c2
  obtain rfl := Option.some.inj H
  go_enter Tryd.func39, Tryd.ntmps39
  go_wp2
  go_ret
  exact ⟨e2z, dz⟩
 ·rw [if_neg c2] at H
  have c2b0 : decide (97 <= a0) = false := decide_eq_false c2
  clear c2
  obtain rfl := Option.some.inj H
  go_enter Tryd.func39, Tryd.ntmps39
  go_wp2
  go_ret
  exact ⟨e2z, dz⟩
def spec_l2Digit.f (a0 : Int) : Option (Bool) := if a0 ≥ 48 then (some (decide (a0 <= 57))) else (some false)
set_option maxHeartbeats 8000000 in
set_option maxRecDepth 100000 in
theorem spec_l2Digit.calls (a0 : Int) (r : Bool) (w : World) (h : spec_l2Digit.f a0 = some r) :
  Calls Tryd.prog 42 #[.int .u8 a0] w fun e w' => e = .returned (.bool r) /\ Drawn0 w w' := by
 have H : (if a0 ≥ 48 then (some (decide (a0 <= 57))) else (some false)) = some r := h
 clear h
 by_cases c2 : a0 ≥ 48
 ·rw [if_pos c2] at H
  have c2b0 : decide (48 <= a0) = true := decide_eq_true c2
  clear c2
  obtain rfl := Option.some.inj H
  go_enter Tryd.func42, Tryd.ntmps42
  go_wp2
  go_ret
  exact ⟨e2z, dz⟩
 ·rw [if_neg c2] at H
  have c2b0 : decide (48 <= a0) = false := decide_eq_false c2
  clear c2
  obtain rfl := Option.some.inj H
  go_enter Tryd.func42, Tryd.ntmps42
  go_wp2
  go_ret
  exact ⟨e2z, dz⟩
def spec_l2Run.l0 : Nat -> ByteArray -> Int -> Bool -> Option (Int)
 | 0, _, _, _ => none
 | k + 1, x0, x1, x2 => if x1 < (x0.size : Int) then (if x2 = true then (if 0 <= x1 then ((spec_l2Letter.f (bt x0 x1)).bind fun t110 => (if t110 = true then (spec_l2Run.l0 k x0 (wrap64 (x1 + 1)) x2) else (some x1))) else (none)) else (if 0 <= x1 then ((spec_l2Digit.f (bt x0 x1)).bind fun t111 => (if t111 = true then (spec_l2Run.l0 k x0 (wrap64 (x1 + 1)) x2) else (some x1))) else (none))) else (some x1)
def spec_l2Run.f (k : Nat) (a0 : ByteArray) (a1 : Int) (a2 : Bool) : Option (Int) := spec_l2Run.l0 k a0 a1 a2
theorem spec_l2Run.mono_l : ∀ k, (∀ y0 y1 y2, LeO (spec_l2Run.l0 k y0 y1 y2) (spec_l2Run.l0 (k + 1) y0 y1 y2))
 | 0 => fun _ _ _ r h => by simp [spec_l2Run.l0] at h
 | k + 1 => by
  have ih0 := spec_l2Run.mono_l k
  ·intro y0 y1 y2
   unfold spec_l2Run.l0
   with_reducible repeat' first | exact ih0 _ _ _ | exact lrz _ | exact lnz _ | refine liz ?_ ?_ | refine lbz ?_ fun _ => ?_
theorem spec_l2Run.mono : ∀ a0 a1 a2 k, LeO (spec_l2Run.f k a0 a1 a2) (spec_l2Run.f (k + 1) a0 a1 a2) := by
 intro a0 a1 a2 k
 have ih0 := spec_l2Run.mono_l k
 unfold spec_l2Run.f
 with_reducible repeat' first | exact ih0 _ _ _ | exact lrz _ | exact lnz _ | refine liz ?_ ?_ | refine lbz ?_ fun _ => ?_
set_option maxHeartbeats 8000000 in
set_option maxRecDepth 100000 in
theorem spec_l2Run.calls (k : Nat) (a0 : ByteArray) (a1 : Int) (a2 : Bool) (r : Int) (w : World) (h : spec_l2Run.f k a0 a1 a2 = some r) :
  Calls Tryd.prog 40 #[.string a0, .int .i64 a1, .bool a2] w fun e w' => e = .returned (.int .i64 r) /\ Drawn0 w w' := by
 have H : (spec_l2Run.l0 k a0 a1 a2) = some r := h
 clear h
 have H' := Aside0.mk H
 clear H
 go_enter Tryd.func40, Tryd.ntmps40
 go_wp2
 go_loopg [1] k (fun kq v1 w' => ∃ (x1_1 : Int), v1 = .int .i64 x1_1 /\ Aside0 (spec_l2Run.l0 kq a0 x1_1 a2 = some r) /\ Aside0 (kq <= k) /\ Drawn0 w w')
 case atStart => exact ⟨(a1), ez, H', ⟨Nat.le_refl _⟩, dz⟩
 case round =>
  clear H'
  try clear p2
  obtain ⟨x1_1, rfl, HA, HK1, ⟨m1, rfl⟩⟩ := hrel
  cases gk with
  | zero => exact absurd HA.out (by simp [spec_l2Run.l0])
  | succ k1 =>
   have H := HA.out
   clear HA
   simp only [spec_l2Run.l0] at H
   by_cases c4 : x1_1 < (a0.size : Int)
   ·rw [if_pos c4] at H
    have c4b0 := decide_eq_true c4
    clear c4
    by_cases c5 : a2 = true
    ·subst c5
     have H1 := hp H
     clear H
     have H := H1
     clear H1
     replace H := iz H
     obtain ⟨c6, H⟩ := H
     have c6b0 := decide_eq_true c6
     clear c6
     replace H := bi H
     obtain ⟨t110, A80, H⟩ := H
     try dsimp only at H
     have A8 := Aside0.mk A80
     clear A80
     by_cases c9 : t110 = true
     ·subst c9
      have H1 := hp H
      clear H
      have H := H1
      clear H1
      have H' := Aside0.mk H
      clear H
      have p7 : 0 <= (x1_1 : Int) := oz
      have q7 : x1_1 < (a0.size : Int) := oz
      have hx7 := bt_at a0 x1_1
      replace p7 := eq_true p7
      replace q7 := eq_true q7
      go_wp2_with (first | (go_at_call 39; (with_reducible refine (spec_l2Letter.calls (bt a0 x1_1) true _ A8.out).mono ?_); rintro e w' ⟨rfl, ⟨nd, rfl⟩⟩))
      go_roundg k1
      case measure => have := HK1.out; omega
      case rel => exact ⟨(wrap64 (x1_1 + 1)), ez, H', ⟨by have := HK1.out; omega⟩, dz⟩
     ·replace c9 := Bool.eq_false_iff.mpr c9
      subst c9
      have H1 := hq H
      clear H
      have H := H1
      clear H1
      obtain rfl := Option.some.inj H
      have p7 : 0 <= (x1_1 : Int) := oz
      have q7 : x1_1 < (a0.size : Int) := oz
      have hx7 := bt_at a0 x1_1
      replace p7 := eq_true p7
      replace q7 := eq_true q7
      go_wp2_with (first | (go_at_call 39; (with_reducible refine (spec_l2Letter.calls (bt a0 x1_1) false _ A8.out).mono ?_); rintro e w' ⟨rfl, ⟨nd, rfl⟩⟩))
      go_ret
      exact ⟨e2z, dz⟩
    ·replace c5 := Bool.eq_false_iff.mpr c5
     subst c5
     have H1 := hq H
     clear H
     have H := H1
     clear H1
     replace H := iz H
     obtain ⟨c10, H⟩ := H
     have c10b0 := decide_eq_true c10
     clear c10
     replace H := bi H
     obtain ⟨t111, A120, H⟩ := H
     try dsimp only at H
     have A12 := Aside0.mk A120
     clear A120
     by_cases c13 : t111 = true
     ·subst c13
      have H1 := hp H
      clear H
      have H := H1
      clear H1
      have H' := Aside0.mk H
      clear H
      have p11 : 0 <= (x1_1 : Int) := oz
      have q11 : x1_1 < (a0.size : Int) := oz
      have hx11 := bt_at a0 x1_1
      replace p11 := eq_true p11
      replace q11 := eq_true q11
      go_wp2_with (first | (go_at_call 42; (with_reducible refine (spec_l2Digit.calls (bt a0 x1_1) true _ A12.out).mono ?_); rintro e w' ⟨rfl, ⟨nd, rfl⟩⟩))
      go_roundg k1
      case measure => have := HK1.out; omega
      case rel => exact ⟨(wrap64 (x1_1 + 1)), ez, H', ⟨by have := HK1.out; omega⟩, dz⟩
     ·replace c13 := Bool.eq_false_iff.mpr c13
      subst c13
      have H1 := hq H
      clear H
      have H := H1
      clear H1
      obtain rfl := Option.some.inj H
      have p11 : 0 <= (x1_1 : Int) := oz
      have q11 : x1_1 < (a0.size : Int) := oz
      have hx11 := bt_at a0 x1_1
      replace p11 := eq_true p11
      replace q11 := eq_true q11
      go_wp2_with (first | (go_at_call 42; (with_reducible refine (spec_l2Digit.calls (bt a0 x1_1) false _ A12.out).mono ?_); rintro e w' ⟨rfl, ⟨nd, rfl⟩⟩))
      go_ret
      exact ⟨e2z, dz⟩
   ·rw [if_neg c4] at H
    have c4b0 := decide_eq_false c4
    clear c4
    obtain rfl := Option.some.inj H
    go_wp2
    go_ret
    exact ⟨e2z, dz⟩
def spec_l1In.f (a0 : Int) (a1 : Int) (a2 : Int) : Option (Bool) := if a0 ≥ a1 then (some (decide (a0 <= a2))) else (some false)
set_option maxHeartbeats 8000000 in
set_option maxRecDepth 100000 in
theorem spec_l1In.calls (a0 : Int) (a1 : Int) (a2 : Int) (r : Bool) (w : World) (h : spec_l1In.f a0 a1 a2 = some r) :
  Calls Tryd.prog 55 #[.int .i64 a0, .int .i64 a1, .int .i64 a2] w fun e w' => e = .returned (.bool r) /\ Drawn0 w w' := by
 have H : (if a0 ≥ a1 then (some (decide (a0 <= a2))) else (some false)) = some r := h
 clear h
 by_cases c4 : a0 ≥ a1
 ·rw [if_pos c4] at H
  have c4b0 : decide (a1 <= a0) = true := decide_eq_true c4
  clear c4
  obtain rfl := Option.some.inj H
  go_enter Tryd.func55, Tryd.ntmps55
  go_wp2
  go_ret
  exact ⟨e2z, dz⟩
 ·rw [if_neg c4] at H
  have c4b0 : decide (a1 <= a0) = false := decide_eq_false c4
  clear c4
  obtain rfl := Option.some.inj H
  go_enter Tryd.func55, Tryd.ntmps55
  go_wp2
  go_ret
  exact ⟨e2z, dz⟩
end Go.Proofs.YtdjamdnjkdllgaaDoor.PFnLexed
