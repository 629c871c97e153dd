/- PFnExactDecx1, of the words and walks that the law FnExactDec needs; made by this session's program out of printed texts. -/

import Derived.Test.YtpbdfmalilmfcaaDoorVEDecPx0
namespace Go.Proofs.YtpbdfmalilmfcaaDoor.PFnExactDec
open Go.RowKit Go.Proofs.YtpbdfmalilmfcaaDoorW.PrintWords Go.Proofs.YtpbdfmalilmfcaaDoorW.PrintLast Go.Proofs.YtpbdfmalilmfcaaDoorW.PrintMore
attribute [local go_sem] max2_int min2_int max_two min_two max_three min_three max_four min_four
set_option linter.unusedVariables false
set_option linter.unusedSimpArgs false
def spec_Dec.l0 : Nat -> Int -> ByteArray -> Bool -> Option (ByteArray)
 | 0, _, _, _ => none
 | k + 1, x0, x3, x4 => if x0 = 0 then (if x4 = true then (if 1 + x3.size <= 9223372036854775807 then (some ((⟨#[45]⟩ : ByteArray) ++ x3)) else (none)) else (some x3)) else (if (Int.tmod x0 10) < 0 then ((some (([(wrap64 (48 + (wrap64 (-(Int.tmod x0 10))))) % 256] : List Int) : List Int)).bind fun y101 => (if (strOfNums y101).size + x3.size <= 9223372036854775807 then (spec_Dec.l0 k (wrap64 (Int.tdiv x0 10)) ((strOfNums y101) ++ x3) x4) else (none))) else ((some (([(wrap64 (48 + (Int.tmod x0 10))) % 256] : List Int) : List Int)).bind fun y104 => (if (strOfNums y104).size + x3.size <= 9223372036854775807 then (spec_Dec.l0 k (wrap64 (Int.tdiv x0 10)) ((strOfNums y104) ++ x3) x4) else (none))))
def spec_Dec.f (k : Nat) (a0 : Int) : Option (ByteArray) := if a0 = 0 then (some (⟨#[48]⟩ : ByteArray)) else (spec_Dec.l0 k a0 (⟨#[]⟩ : ByteArray) (decide (a0 < 0)))
theorem spec_Dec.mono_l : ∀ k, (∀ y0 y1 y2, LeO (spec_Dec.l0 k y0 y1 y2) (spec_Dec.l0 (k + 1) y0 y1 y2))
 | 0 => fun _ _ _ r h => by simp [spec_Dec.l0] at h
 | k + 1 => by
  have ih0 := spec_Dec.mono_l k
  ·intro y0 y1 y2
   unfold spec_Dec.l0
   with_reducible repeat' first | exact ih0 _ _ _ | exact lrz _ | exact lnz _ | refine liz ?_ ?_ | refine lbz ?_ fun _ => ?_
theorem spec_Dec.mono : ∀ a0 k, LeO (spec_Dec.f k a0) (spec_Dec.f (k + 1) a0) := by
 intro a0 k
 have ih0 := spec_Dec.mono_l k
 unfold spec_Dec.f
 with_reducible repeat' first | exact ih0 _ _ _ | exact lrz _ | exact lnz _ | refine liz ?_ ?_ | refine lbz ?_ fun _ => ?_
set_option maxHeartbeats 8000000 in
set_option maxRecDepth 100000 in
theorem spec_Dec.calls (k : Nat) (a0 : Int) (r : ByteArray) (w : World) (h : spec_Dec.f k a0 = some r) :
  Calls Tryd.prog 4 #[.int .i64 a0] w fun e w' => e = .returned (.string r) /\ Below w.heap.size w w' := by
 have HB := Aside0.mk (Below.refl w.heap.size w)
 have H : (if a0 = 0 then (some (⟨#[48]⟩ : ByteArray)) else (spec_Dec.l0 k a0 (⟨#[]⟩ : ByteArray) (decide (a0 < 0)))) = some r := h
 clear h
 by_cases c2 : a0 = 0
 ·rw [if_pos c2] at H
  have c2b0 : (a0 == 0) = true := beq_iff_eq.mpr c2
  have c2b1 : (a0 != 0) = false := bne_eq_false_iff_eq.mpr c2
  clear c2
  obtain rfl := Option.some.inj H
  go_enter Tryd.func4, Tryd.ntmps4
  go_wp2
  go_ret
  exact ⟨gz, (bz0 HB.out)⟩
 ·rw [if_neg c2] at H
  have c2b0 : (a0 == 0) = false := beq_eq_false_iff_ne.mpr c2
  have c2b1 : (a0 != 0) = true := bne_iff_ne.mpr c2
  have H' := Aside0.mk H
  clear H
  go_enter Tryd.func4, Tryd.ntmps4
  go_wp2
  go_loopg [0, 3] k (fun kq v0 v3 w' => ∃ (x0_1 : Int) (x3_1 : ByteArray), v0 = .int .i64 x0_1 /\ v3 = .string x3_1 /\ Aside0 (spec_Dec.l0 kq x0_1 x3_1 (decide (a0 < 0)) = some r) /\ Aside0 (kq <= k) /\ Aside0 (Below w.heap.size w w'))
  case atStart => exact ⟨(a0), ((⟨#[]⟩ : ByteArray)), ez, ez, H', ⟨Nat.le_refl _⟩, ⟨(bz0 HB.out)⟩⟩
  case round =>
   clear H'
   try clear c2
   try clear c2b0
   try clear c2b1
   try clear p2
   obtain ⟨x0_1, x3_1, rfl, rfl, HA, HK1, HB⟩ := hrel
   cases gk with
   | zero => exact absurd HA.out (by simp [spec_Dec.l0])
   | succ k1 =>
    have H := HA.out
    clear HA
    simp only [spec_Dec.l0] at H
    by_cases c3 : x0_1 = 0
    ·rw [if_pos c3] at H
     have c3b0 : (x0_1 == 0) = true := beq_iff_eq.mpr c3
     have c3b1 : (x0_1 != 0) = false := bne_eq_false_iff_eq.mpr c3
     clear c3
     by_cases c4 : (decide (a0 < 0)) = true
     ·rw [if_pos c4] at H
      have c4b0 : (decide (a0 < 0)) = true := c4
      clear c4
      (try simp only [c4b0])
      replace H := iz H
      obtain ⟨c5, H⟩ := H
      have c5b0 := eq_true c5
      have c5b1 : decide (1 + x3_1.size <= 9223372036854775807) = true := decide_eq_true c5
      try have c5b2 : (9223372036854775807 < 1 + x3_1.size) = False := eq_false (Nat.not_lt.2 c5)
      obtain rfl := Option.some.inj H
      go_wp2
      go_ret
      exact ⟨gz, (bz0 HB.out)⟩
     ·rw [if_neg c4] at H
      have c4b0 : (decide (a0 < 0)) = false := by simpa using c4
      clear c4
      (try simp only [c4b0])
      obtain rfl := Option.some.inj H
      go_wp2
      go_ret
      exact ⟨gz, (bz0 HB.out)⟩
    ·rw [if_neg c3] at H
     have c3b0 : (x0_1 == 0) = false := beq_eq_false_iff_ne.mpr c3
     have c3b1 : (x0_1 != 0) = true := bne_iff_ne.mpr c3
     by_cases c6 : (Int.tmod x0_1 10) < 0
     ·rw [if_pos c6] at H
      have c6b0 := decide_eq_true c6
      clear c6
      obtain ⟨y101, hy101⟩ : ∃ y_ : List Int, y_ = (([(wrap64 (48 + (wrap64 (-(Int.tmod x0_1 10))))) % 256] : List Int)) := ⟨_, rfl⟩
      replace H : (if (strOfNums y101).size + x3_1.size <= 9223372036854775807 then (spec_Dec.l0 k1 (wrap64 (Int.tdiv x0_1 10)) ((strOfNums y101) ++ x3_1) (decide (a0 < 0))) else (none)) = some r := yz hy101 H
      have Ny101 := Aside0.mk hy101
      clear hy101
      replace H := iz H
      obtain ⟨c7, H⟩ := H
      have c7b0 := eq_true c7
      have c7b1 : decide ((strOfNums y101).size + x3_1.size <= 9223372036854775807) = true := decide_eq_true c7
      try have c7b2 : (9223372036854775807 < (strOfNums y101).size + x3_1.size) = False := eq_false (Nat.not_lt.2 c7)
      have H' := Aside0.mk H
      clear H
      go_wp2_with (first | ((with_reducible refine gate_dst (N := 21) rfl ?_); refine Kd.R_lit (Kd.int .u8) _ 5 ?hg (N := 21) ?hd (xs := ([(wrap64 (48 + (wrap64 (-(Int.tmod x0_1 10))))) % 256] : List Int)) (inner := [.int .u8 ((wrap64 (48 + (wrap64 (-(Int.tmod x0_1 10))))) % 256)]) (ok := fun _ => True) (okp := fun _ => True) ?hr ?hp (fun _ hk => hk) trivial (Below.refl _ _) (Nat.le_refl _) (by simp) ?_; (case hd => rfl); (case hg => rfl); (case hr => exact vz); (case hp => exact (Reps.one (show Kd.M (Kd.int .u8) _ _ _ ((wrap64 (48 + (wrap64 (-(Int.tmod x0_1 10))))) % 256) [.int .u8 ((wrap64 (48 + (wrap64 (-(Int.tmod x0_1 10))))) % 256)] from rfl) (Reps.none _ _))); intro v102 w8 ho9 hb hg_ hnew_; clear hg_ hnew_; (first | rw [<- Ny101.out] at ho9 | (simp only [Int.reduceToNat] at ho9; rw [<- Ny101.out] at ho9)); have HO103 := Aside0.mk (Kd.R_lower ho9 (below_size (bz0 HB.out))); replace HB := Aside0.mk (below_step (bz0 HB.out) hb); clear hb ho9; have hcv10 := own_string (P := Tryd.prog) Tryd.underlying24 Tryd.underlying5 Tryd.underlying9 (Kd.own_of_R HO103.out)))
      go_roundg k1
      case measure => have := HK1.out; omega
      case rel => exact ⟨(wrap64 (Int.tdiv x0_1 10)), ((strOfNums y101) ++ x3_1), ez, ez, H', ⟨by have := HK1.out; omega⟩, ⟨(bz0 HB.out)⟩⟩
     ·rw [if_neg c6] at H
      have c6b0 := decide_eq_false c6
      clear c6
      obtain ⟨y104, hy104⟩ : ∃ y_ : List Int, y_ = (([(wrap64 (48 + (Int.tmod x0_1 10))) % 256] : List Int)) := ⟨_, rfl⟩
      replace H : (if (strOfNums y104).size + x3_1.size <= 9223372036854775807 then (spec_Dec.l0 k1 (wrap64 (Int.tdiv x0_1 10)) ((strOfNums y104) ++ x3_1) (decide (a0 < 0))) else (none)) = some r := yz hy104 H
      have Ny104 := Aside0.mk hy104
      clear hy104
      replace H := iz H
      obtain ⟨c11, H⟩ := H
      have c11b0 := eq_true c11
      have c11b1 : decide ((strOfNums y104).size + x3_1.size <= 9223372036854775807) = true := decide_eq_true c11
      try have c11b2 : (9223372036854775807 < (strOfNums y104).size + x3_1.size) = False := eq_false (Nat.not_lt.2 c11)
      have H' := Aside0.mk H
      clear H
      go_wp2_with (first | ((with_reducible refine gate_dst (N := 21) rfl ?_); refine Kd.R_lit (Kd.int .u8) _ 5 ?hg (N := 21) ?hd (xs := ([(wrap64 (48 + (Int.tmod x0_1 10))) % 256] : List Int)) (inner := [.int .u8 ((wrap64 (48 + (Int.tmod x0_1 10))) % 256)]) (ok := fun _ => True) (okp := fun _ => True) ?hr ?hp (fun _ hk => hk) trivial (Below.refl _ _) (Nat.le_refl _) (by simp) ?_; (case hd => rfl); (case hg => rfl); (case hr => exact vz); (case hp => exact (Reps.one (show Kd.M (Kd.int .u8) _ _ _ ((wrap64 (48 + (Int.tmod x0_1 10))) % 256) [.int .u8 ((wrap64 (48 + (Int.tmod x0_1 10))) % 256)] from rfl) (Reps.none _ _))); intro v105 w12 ho13 hb hg_ hnew_; clear hg_ hnew_; (first | rw [<- Ny104.out] at ho13 | (simp only [Int.reduceToNat] at ho13; rw [<- Ny104.out] at ho13)); have HO106 := Aside0.mk (Kd.R_lower ho13 (below_size (bz0 HB.out))); replace HB := Aside0.mk (below_step (bz0 HB.out) hb); clear hb ho13; have hcv14 := own_string (P := Tryd.prog) Tryd.underlying24 Tryd.underlying5 Tryd.underlying9 (Kd.own_of_R HO106.out)))
      go_roundg k1
      case measure => have := HK1.out; omega
      case rel => exact ⟨(wrap64 (Int.tdiv x0_1 10)), ((strOfNums y104) ++ x3_1), ez, ez, H', ⟨by have := HK1.out; omega⟩, ⟨(bz0 HB.out)⟩⟩
def strconv_Itoa_6.f (a0 : Int) : Option (ByteArray) := if -9223372036854775808 <= a0 then (if a0 <= 9223372036854775807 then (some (⟨(Lib.itoa a0).toArray⟩ : ByteArray)) else (none)) else (none)
theorem strconv_Itoa_6.calls (a0 : Int) (r : ByteArray) (w : World) (h : strconv_Itoa_6.f a0 = some r) (hT_ : PW w) :
  Calls Tryd.prog 6 #[.int .i64 a0] w fun e w' => e = .returned (.string r) /\ Below w.heap.size w w' := by
 unfold strconv_Itoa_6.f at h
 split at h
 ·split at h
  ·rename_i h0 h1
   obtain rfl := Option.some.inj h
   exact (Tryd.strconv_Itoa a0 h0 h1 w hT_).mono fun e w' ⟨h1, n, os, h2⟩ => ⟨h1, by rw [h2]; exact below_grow _ _ _⟩
  ·cases h
 ·cases h
def impl_Dec.f (a0 : Int) : Option (ByteArray) := (strconv_Itoa_6.f a0).bind fun t107 => (some t107)
set_option maxHeartbeats 8000000 in
set_option maxRecDepth 100000 in
theorem impl_Dec.calls (a0 : Int) (r : ByteArray) (w : World) (h : impl_Dec.f a0 = some r) (hT_ : PW w) :
  Calls Tryd.prog 5 #[.int .i64 a0] w fun e w' => e = .returned (.string r) /\ Below w.heap.size w w' := by
 have HB := Aside0.mk (Below.refl w.heap.size w)
 have H : ((strconv_Itoa_6.f a0).bind fun t107 => (some t107)) = some r := h
 clear h
 replace H := bi H
 obtain ⟨t107, A20, H⟩ := H
 try dsimp only at H
 have A2 := Aside0.mk A20
 clear A20
 obtain rfl := Option.some.inj H
 go_enter Tryd.func5, Tryd.ntmps5
 go_wp2_with (first | ((with_reducible refine gate_callee (f := 6) rfl ?_); refine goesL_ (some 4) rfl rfl Tryd.func6 (by kernel_rfl) rfl #[.int .i64 a0] rfl lz ?_; (with_reducible refine (strconv_Itoa_6.calls a0 t107 _ A2.out ?hT_).mono ?_); (case hT_ => exact PW.below hT_ (bz0 HB.out)); rintro e w3 ⟨rfl, hb⟩; refine ⟨_, rfl, ?_⟩; replace HB := Aside0.mk (below_step (bz0 HB.out) hb); (try clear hb); (try clear hi)))
 go_ret
 exact ⟨gz, (bz0 HB.out)⟩
def laws_FnExactDec.f (k : Nat) (a0 : Int) : Option (Bool) := (spec_Dec.f k a0).bind fun t108 => ((impl_Dec.f a0).bind fun t109 => (if t109.toList = t108.toList then (some true) else (some false)))
theorem laws_FnExactDec.mono : ∀ a0 k, LeO (laws_FnExactDec.f k a0) (laws_FnExactDec.f (k + 1) a0) := by
 intro a0 k
 unfold laws_FnExactDec.f
 with_reducible repeat' first | exact spec_Dec.mono _ _ | exact lrz _ | exact lnz _ | refine liz ?_ ?_ | refine lbz ?_ fun _ => ?_
set_option maxHeartbeats 8000000 in
set_option maxRecDepth 100000 in
theorem laws_FnExactDec.calls (k : Nat) (a0 : Int) (r : Bool) (w : World) (h : laws_FnExactDec.f k a0 = some r) (hT_ : PW w) :
  Calls Tryd.prog 3 #[.int .i64 a0] w fun e w' => e = .returned (.bool r) /\ Below w.heap.size w w' := by
 have HB := Aside0.mk (Below.refl w.heap.size w)
 have H : ((spec_Dec.f k a0).bind fun t108 => ((impl_Dec.f a0).bind fun t109 => (if t109.toList = t108.toList then (some true) else (some false)))) = some r := h
 clear h
 replace H := bi H
 obtain ⟨t108, A20, H⟩ := H
 try dsimp only at H
 have A2 := Aside0.mk A20
 clear A20
 replace H := bi H
 obtain ⟨t109, A30, H⟩ := H
 try dsimp only at H
 have A3 := Aside0.mk A30
 clear A30
 by_cases c4 : t109.toList = t108.toList
 ·rw [if_pos c4] at H
  have c4b0 : (t109.toList == t108.toList) = true := beq_iff_eq.mpr c4
  have c4b1 : (t109.toList != t108.toList) = false := bne_eq_false_iff_eq.mpr c4
  clear c4
  obtain rfl := Option.some.inj H
  go_enter Tryd.func3, Tryd.ntmps3
  go_wp2_with (first | ((with_reducible refine gate_callee (f := 4) rfl ?_); refine goesL_ (some 6) rfl rfl Tryd.func4 (by kernel_rfl) rfl #[.int .i64 a0] rfl lz ?_; (with_reducible refine (spec_Dec.calls k a0 t108 _ A2.out).mono ?_); rintro e w5 ⟨rfl, hb⟩; refine ⟨_, rfl, ?_⟩; replace HB := Aside0.mk (below_step (bz0 HB.out) hb); (try clear hb); (try clear hi)) | ((with_reducible refine gate_callee (f := 5) rfl ?_); refine goesL_ (some 8) rfl rfl Tryd.func5 (by kernel_rfl) rfl #[.int .i64 a0] rfl lz ?_; (with_reducible refine (impl_Dec.calls a0 t109 _ A3.out ?hT_).mono ?_); (case hT_ => exact PW.below hT_ (bz0 HB.out)); rintro e w6 ⟨rfl, hb⟩; refine ⟨_, rfl, ?_⟩; replace HB := Aside0.mk (below_step (bz0 HB.out) hb); (try clear hb); (try clear hi)))
  go_ret
  exact ⟨gz, (bz0 HB.out)⟩
 ·rw [if_neg c4] at H
  have c4b0 : (t109.toList == t108.toList) = false := beq_eq_false_iff_ne.mpr c4
  have c4b1 : (t109.toList != t108.toList) = true := bne_iff_ne.mpr c4
  obtain rfl := Option.some.inj H
  go_enter Tryd.func3, Tryd.ntmps3
  go_wp2_with (first | ((with_reducible refine gate_callee (f := 4) rfl ?_); refine goesL_ (some 6) rfl rfl Tryd.func4 (by kernel_rfl) rfl #[.int .i64 a0] rfl lz ?_; (with_reducible refine (spec_Dec.calls k a0 t108 _ A2.out).mono ?_); rintro e w7 ⟨rfl, hb⟩; refine ⟨_, rfl, ?_⟩; replace HB := Aside0.mk (below_step (bz0 HB.out) hb); (try clear hb); (try clear hi)) | ((with_reducible refine gate_callee (f := 5) rfl ?_); refine goesL_ (some 8) rfl rfl Tryd.func5 (by kernel_rfl) rfl #[.int .i64 a0] rfl lz ?_; (with_reducible refine (impl_Dec.calls a0 t109 _ A3.out ?hT_).mono ?_); (case hT_ => exact PW.below hT_ (bz0 HB.out)); rintro e w8 ⟨rfl, hb⟩; refine ⟨_, rfl, ?_⟩; replace HB := Aside0.mk (below_step (bz0 HB.out) hb); (try clear hb); (try clear hi)))
  go_ret
  exact ⟨gz, (bz0 HB.out)⟩
def laws_FnExactDec.Pure : Prop := ∀ (a0 : Int), (Lit.int .i64 a0).wf = true -> ∃ k, laws_FnExactDec.f k a0 = some true
end Go.Proofs.YtpbdfmalilmfcaaDoor.PFnExactDec
