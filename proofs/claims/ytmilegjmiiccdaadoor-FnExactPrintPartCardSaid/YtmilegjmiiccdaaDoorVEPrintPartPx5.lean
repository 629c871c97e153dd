/- PFnExactPrintPartx5, of the words and walks that the law FnExactPrintPart needs; made by this session's program out of printed texts. -/

import Derived.Test.YtmilegjmiiccdaaDoorVEPrintPartPx0
import Derived.Test.YtmilegjmiiccdaaDoorVEPrintPartPx1
import Derived.Test.YtmilegjmiiccdaaDoorVEPrintPartPx2
import Derived.Test.YtmilegjmiiccdaaDoorVEPrintPartPx4
namespace Go.Proofs.YtmilegjmiiccdaaDoor.PFnExactPrintPart
open Go.RowKit Go.Proofs.YtmilegjmiiccdaaDoorW.PrintWords Go.Proofs.YtmilegjmiiccdaaDoorW.PrintLast Go.Proofs.YtmilegjmiiccdaaDoorW.PrintMore
attribute [local go_sem] max2_int min2_int max_two min_two max_three min_three max_four min_four
set_option linter.unusedVariables false
set_option linter.unusedSimpArgs false
mutual
def spec_l3Starts.l0 : Nat -> List (S43) -> List Int -> Int -> Option (List Int × Bool)
 | 0, _, _, _ => none
 | k + 1, x0, x4, x5 => if x5 < (x0.length : Int) then (if 0 <= x5 then ((spec_l3Fields.f k ((rd_T43 x0 x5).f0) ((rd_T43 x0 x5).f1) ((rd_T43 x0 x5).f2) ((rd_T43 x0 x5).f3) ((rd_T43 x0 x5).f4) ((rd_T43 x0 x5).f5) ((rd_T43 x0 x5).f6)).bind fun t156 => (if t156 = true then ((spec_Kids.f k ((rd_T43 x0 x5).f0) ((rd_T43 x0 x5).f1) ((rd_T43 x0 x5).f2) ((rd_T43 x0 x5).f3) ((rd_T43 x0 x5).f4) ((rd_T43 x0 x5).f5) ((rd_T43 x0 x5).f6)).bind fun t161 => (spec_l3Starts.l1 k x0 x4 x5 x5 t161 (wrap64 ((t161.length : Int) - 1)))) else (some ((([] : List Int)), false)))) else (none)) else (some (x4, true))
def spec_l3Starts.l1 : Nat -> List (S43) -> List Int -> Int -> Int -> List Int -> Int -> Option (List Int × Bool)
 | 0, _, _, _, _, _, _ => none
 | k + 1, x0, x4, x5, x6, x7, x8 => if x8 ≥ 0 then (if 0 <= x8 then (if x8 < (x7.length : Int) then (if (rd x7 x8) = (wrap64 (x6 - 1)) then (if (rd x7 x8) < 0 then (some ((([] : List Int)), false)) else (if 0 <= (rd x7 x8) then (if (rd x7 x8) < (x4.length : Int) then (spec_l3Starts.l1 k x0 x4 x5 (rd x4 (rd x7 x8)) x7 (wrap64 (x8 - 1))) else (none)) else (none))) else (some ((([] : List Int)), false))) else (none)) else (none)) else (if x4.length < 17592186044416 then (spec_l3Starts.l0 k x0 (x4 ++ [x6]) (wrap64 (x5 + 1))) else (none))
end
def spec_l3Starts.f (k : Nat) (l0 : List (S43)) : Option (List Int × Bool) := spec_l3Starts.l0 k l0 (([] : List Int)) 0
theorem spec_l3Starts.mono_l : ∀ k, (∀ y0 y1 y2, LeO (spec_l3Starts.l0 k y0 y1 y2) (spec_l3Starts.l0 (k + 1) y0 y1 y2)) /\ (∀ y0 y1 y2 y3 y4 y5, LeO (spec_l3Starts.l1 k y0 y1 y2 y3 y4 y5) (spec_l3Starts.l1 (k + 1) y0 y1 y2 y3 y4 y5))
 | 0 => ⟨fun _ _ _ r h => by simp [spec_l3Starts.l0] at h, fun _ _ _ _ _ _ r h => by simp [spec_l3Starts.l1] at h⟩
 | k + 1 => by
  obtain ⟨ih0, ih1⟩ := spec_l3Starts.mono_l k
  refine ⟨?_, ?_⟩
  ·intro y0 y1 y2
   unfold spec_l3Starts.l0
   with_reducible repeat' first | exact ih0 _ _ _ | exact ih1 _ _ _ _ _ _ | exact spec_Kids.mono _ _ _ _ _ _ _ _ | exact spec_l3Fields.mono _ _ _ _ _ _ _ _ | exact lrz _ | exact lnz _ | refine liz ?_ ?_ | refine lbz ?_ fun _ => ?_
  ·intro y0 y1 y2 y3 y4 y5
   unfold spec_l3Starts.l1
   with_reducible repeat' first | exact ih0 _ _ _ | exact ih1 _ _ _ _ _ _ | exact spec_Kids.mono _ _ _ _ _ _ _ _ | exact spec_l3Fields.mono _ _ _ _ _ _ _ _ | exact lrz _ | exact lnz _ | refine liz ?_ ?_ | refine lbz ?_ fun _ => ?_
theorem spec_l3Starts.mono : ∀ a0 k, LeO (spec_l3Starts.f k a0) (spec_l3Starts.f (k + 1) a0) := by
 intro a0 k
 obtain ⟨ih0, ih1⟩ := spec_l3Starts.mono_l k
 unfold spec_l3Starts.f
 with_reducible repeat' first | exact ih0 _ _ _ | exact ih1 _ _ _ _ _ _ | exact spec_Kids.mono _ _ _ _ _ _ _ _ | exact spec_l3Fields.mono _ _ _ _ _ _ _ _ | exact lrz _ | exact lnz _ | refine liz ?_ ?_ | refine lbz ?_ fun _ => ?_
set_option maxHeartbeats 8000000 in
set_option maxRecDepth 100000 in
theorem spec_l3Starts.calls (k : Nat) (A0 : Option Addr) (c0 : Nat) (l0 : List (S43)) (r1 : List Int) (r2 : Bool) (w : World) (hr0 : Kd.C k43 w A0 l0.length l0) (hc0 : l0.length <= c0) (h : spec_l3Starts.f k l0 = some (r1, r2)) :
  Calls Tryd.prog 63 #[.slice A0 l0.length c0] w fun e w' => ∃ v0_ : Value, e = .returned (.tuple #[v0_, .bool r2]) /\ Kd.R (Kd.int .i64) 3 w' w.heap.size (fun _ => True) v0_ r1 /\ Below w.heap.size w w' := by
 have hu43 := Tryd.underlying43
 have HR0 := Aside0.mk hr0
 have HC0 := Aside0.mk hc0
 clear hr0 hc0
 have HB := Aside0.mk (Below.refl w.heap.size w)
 have H : (spec_l3Starts.l0 k l0 (([] : List Int)) 0) = some (r1, r2) := h
 clear h
 obtain ⟨y152, hy152⟩ : ∃ y_ : List Int, y_ = (([] : List Int)) := ⟨_, rfl⟩
 replace H : (spec_l3Starts.l0 k l0 y152 0) = some (r1, r2) := yz hy152 H
 have Ny152 := Aside0.mk hy152
 clear hy152
 have H' := Aside0.mk H
 clear H
 go_enter Tryd.func63, Tryd.ntmps63
 go_wp2_with (first | ((with_reducible refine gate_dst (N := 9) rfl ?_); refine Kd.R_lit (Kd.int .i64) _ 3 ?hg (N := 9) ?hd (xs := ([] : List Int)) (inner := []) (ok := fun _ => True) (okp := fun _ => True) ?hr ?hp (fun _ hk => hk) trivial (Below.refl _ _) (Nat.le_refl _) (by simp) ?_; (case hd => rfl); (case hg => rfl); (case hr => exact vz); (case hp => exact (Reps.none _ _)); intro v153 w2 ho3 hb hg_ hnew_; clear hg_ hnew_; (first | rw [<- Ny152.out] at ho3 | (simp only [Int.reduceToNat] at ho3; rw [<- Ny152.out] at ho3)); have HO154 := Aside0.mk (Kd.R_lower ho3 (below_size (bz0 HB.out))); replace HB := Aside0.mk (below_step (bz0 HB.out) hb); clear hb ho3))
 (try simp only [Act.put, sz1, sz2, sz3])
 go_loopg [4, 5] k (fun kq v4 v5 w' => ∃ (x4_1 : List Int) (x5_1 : Int), v5 = .int .i64 x5_1 /\ Aside0 (spec_l3Starts.l0 kq l0 x4_1 x5_1 = some (r1, r2)) /\ Aside0 (kq <= k) /\ Aside0 (Kd.R (Kd.int .i64) 3 w' w.heap.size (fun _ => True) v4 x4_1) /\ Aside0 (Below w.heap.size w w'))
 case atStart => exact ⟨(y152), (0), ez, H', ⟨Nat.le_refl _⟩, ⟨by refine rq ?_; exact HO154.out⟩, ⟨(bz0 HB.out)⟩⟩
 case round =>
  clear H'
  try clear p2
  obtain ⟨x4_1, x5_1, rfl, HA, HK1, HO_4, HB⟩ := hrel
  cases gk with
  | zero => exact absurd HA.out (by simp [spec_l3Starts.l0])
  | succ k1 =>
   have H := HA.out
   clear HA
   simp only [spec_l3Starts.l0] at H
   by_cases c4 : x5_1 < (l0.length : Int)
   ·rw [if_pos c4] at H
    have c4b0 := decide_eq_true c4
    clear c4
    replace H := iz H
    obtain ⟨c5, H⟩ := H
    have c5b0 := decide_eq_true c5
    clear c5
    replace H := bi H
    obtain ⟨t156, A60, H⟩ := H
    try dsimp only at H
    have A6 := Aside0.mk A60
    clear A60
    by_cases c7 : t156 = true
    ·subst c7
     have H1 := hp H
     clear H
     have H := H1
     clear H1
     replace H := bi H
     obtain ⟨t161, A80, H⟩ := H
     try dsimp only at H
     have A8 := Aside0.mk A80
     clear A80
     have H' := Aside0.mk H
     clear H
     have p155 : 0 <= (x5_1 : Int) := oz
     have q155 : x5_1 < (l0.length : Int) := oz
     obtain ⟨ad155, e155, hx155_0, hx155_1, hx155_2, hx155_3, hx155_4, hx155_5, hx155_6⟩ := at_T43 (Kd.C_below HR0.out HB.out) x5_1 p155 q155
     cases e155
     replace p155 := eq_true p155
     replace q155 := eq_true q155
     go_wp2_with (first | ((with_reducible refine gate_callee (f := 79) rfl ?_); refine goesL_ (some 20) rfl rfl Tryd.func79 (by kernel_rfl) rfl #[.agg #[.int .i64 ((rd_T43 l0 x5_1).f0), .int .i64 ((rd_T43 l0 x5_1).f1), .int .i64 ((rd_T43 l0 x5_1).f2), .int .i64 ((rd_T43 l0 x5_1).f3), .int .i64 ((rd_T43 l0 x5_1).f4), .string ((rd_T43 l0 x5_1).f5), .string ((rd_T43 l0 x5_1).f6)]] rfl lz ?_; (with_reducible refine (spec_l3Fields.calls k1 ((rd_T43 l0 x5_1).f0) ((rd_T43 l0 x5_1).f1) ((rd_T43 l0 x5_1).f2) ((rd_T43 l0 x5_1).f3) ((rd_T43 l0 x5_1).f4) ((rd_T43 l0 x5_1).f5) ((rd_T43 l0 x5_1).f6) true _ A6.out).mono ?_); rintro e w9 ⟨rfl, hb⟩; refine ⟨_, rfl, ?_⟩; replace HO_4 := qz HO_4 hb; replace HB := Aside0.mk (below_step (bz0 HB.out) hb); (try clear hb); have p160 : 0 <= (x5_1 : Int) := oz; have q160 : x5_1 < (l0.length : Int) := oz; obtain ⟨ad160, e160, hx160_0, hx160_1, hx160_2, hx160_3, hx160_4, hx160_5, hx160_6⟩ := at_T43 HR0.out x5_1 p160 q160; obtain rfl : ad155 = ad160 := (by injection e160); replace hx160_0 := hz HB.out hx160_0; replace hx160_1 := hz HB.out hx160_1; replace hx160_2 := hz HB.out hx160_2; replace hx160_3 := hz HB.out hx160_3; replace hx160_4 := hz HB.out hx160_4; replace hx160_5 := hz HB.out hx160_5; replace hx160_6 := hz HB.out hx160_6; replace p160 := eq_true p160; replace q160 := eq_true q160) | ((with_reducible refine gate_callee (f := 67) rfl ?_); refine goesL_ (some 28) rfl rfl Tryd.func67 (by kernel_rfl) rfl #[.agg #[.int .i64 ((rd_T43 l0 x5_1).f0), .int .i64 ((rd_T43 l0 x5_1).f1), .int .i64 ((rd_T43 l0 x5_1).f2), .int .i64 ((rd_T43 l0 x5_1).f3), .int .i64 ((rd_T43 l0 x5_1).f4), .string ((rd_T43 l0 x5_1).f5), .string ((rd_T43 l0 x5_1).f6)]] rfl lz ?_; (with_reducible refine (spec_Kids.calls k1 ((rd_T43 l0 x5_1).f0) ((rd_T43 l0 x5_1).f1) ((rd_T43 l0 x5_1).f2) ((rd_T43 l0 x5_1).f3) ((rd_T43 l0 x5_1).f4) ((rd_T43 l0 x5_1).f5) ((rd_T43 l0 x5_1).f6) t161 _ A8.out).mono ?_); rintro e w10 ⟨v162, rfl, ho0, hb⟩; refine ⟨_, rfl, ?_⟩; have HO163 := Aside0.mk (Kd.R_lower (Kd.R_new' ho0 (Kd.R_lt (rz HO_4.out))) (below_size (bz0 HB.out))); replace HO_4 := Aside0.mk (Kd.R_elder' (rz HO_4.out) (Kd.R_base ho0) hb); replace HB := Aside0.mk (below_step (bz0 HB.out) hb); (try clear hb); (try clear ho0); obtain ⟨Ao11, co11, eo11⟩ := Kd.R_slice HO163.out; subst eo11))
     go_loopg [6, 8] k1 (fun kq v6 v8 w' => ∃ (x6_2 : Int) (x8_2 : Int), v6 = .int .i64 x6_2 /\ v8 = .int .i64 x8_2 /\ Aside0 (spec_l3Starts.l1 kq l0 x4_1 x5_1 x6_2 t161 x8_2 = some (r1, r2)) /\ Aside0 (kq <= k1) /\ Aside0 (Kd.R (Kd.int .i64) 3 w' w.heap.size (fun k_ => some k_ ≠ ((.slice Ao11 t161.length co11) : Value).ownBlock) u4 x4_1) /\ Aside0 (Kd.R (Kd.int .i64) 3 w' w.heap.size (fun k_ => some k_ ≠ (u4 : Value).ownBlock) (.slice Ao11 t161.length co11) t161) /\ Aside0 (Below w.heap.size w w'))
     case atStart => exact ⟨(x5_1), (wrap64 ((t161.length : Int) - 1)), ez, ez, H', ⟨Nat.le_refl _⟩, ⟨by refine rq ?_; exact Kd.R_mono HO_4.out (fun _ hk => hk.2)⟩, ⟨by refine rq ?_; exact Kd.R_mono HO163.out (fun _ hk => hk.2)⟩, ⟨(bz0 HB.out)⟩⟩
     case round =>
      clear H'
      try clear p1
      try clear q1
      try clear hx1
      try clear p2
      try clear c4
      try clear c4b0
      try clear c5
      try clear c5b0
      try clear c6
      try clear p6
      try clear c7
      try clear hx155_0
      try clear hx155_1
      try clear hx155_2
      try clear hx155_3
      try clear hx155_4
      try clear hx155_5
      try clear hx155_6
      try clear hx160_0
      try clear hx160_1
      try clear hx160_2
      try clear hx160_3
      try clear hx160_4
      try clear hx160_5
      try clear hx160_6
      try clear p155
      try clear p160
      try clear p2
      try clear q155
      try clear q160
      obtain ⟨x6_2, x8_2, rfl, rfl, HA, HK2, HO_4, HO_7, HB⟩ := hrel
      cases gk with
      | zero => exact absurd HA.out (by simp [spec_l3Starts.l1])
      | succ k2 =>
       have H := HA.out
       clear HA
       simp only [spec_l3Starts.l1] at H
       by_cases c12 : x8_2 ≥ 0
       ·rw [if_pos c12] at H
        have c12b0 : decide (0 <= x8_2) = true := decide_eq_true c12
        clear c12
        replace H := iz H
        obtain ⟨c13, H⟩ := H
        have c13b0 := decide_eq_true c13
        clear c13
        replace H := iz H
        obtain ⟨c14, H⟩ := H
        have c14b0 := decide_eq_true c14
        clear c14
        by_cases c15 : (rd t161 x8_2) = (wrap64 (x6_2 - 1))
        ·rw [if_pos c15] at H
         have c15b0 : ((rd t161 x8_2) == (wrap64 (x6_2 - 1))) = true := beq_iff_eq.mpr c15
         have c15b1 : ((rd t161 x8_2) != (wrap64 (x6_2 - 1))) = false := bne_eq_false_iff_eq.mpr c15
         clear c15
         by_cases c16 : (rd t161 x8_2) < 0
         ·rw [if_pos c16] at H
          have c16b0 := decide_eq_true c16
          clear c16
          obtain ⟨y166, hy166⟩ : ∃ y_ : List Int, y_ = (([] : List Int)) := ⟨_, rfl⟩
          replace H : (some (y166, false)) = some (r1, r2) := yz hy166 H
          have Ny166 := Aside0.mk hy166
          clear hy166
          simp only [Option.some.injEq, Prod.mk.injEq] at H
          obtain ⟨rfl, rfl⟩ := H
          have p164 : 0 <= (x8_2 : Int) := oz
          have q164 : x8_2 < (t161.length : Int) := oz
          obtain ⟨ad164, e164, hx164_0⟩ := Kd.at_int (Kd.R_reads' HO_7.out).2.2 x8_2 p164 q164
          cases e164
          replace p164 := eq_true p164
          replace q164 := eq_true q164
          have p165 : 0 <= (x8_2 : Int) := oz
          have q165 : x8_2 < (t161.length : Int) := oz
          obtain ⟨ad165, e165, hx165_0⟩ := Kd.at_int (Kd.R_reads' HO_7.out).2.2 x8_2 p165 q165
          obtain rfl : ad164 = ad165 := (by injection e165)
          replace p165 := eq_true p165
          replace q165 := eq_true q165
          go_wp2_with (first | ((with_reducible refine gate_dst (N := 50) rfl ?_); refine Kd.R_lit (Kd.int .i64) _ 3 ?hg (N := 50) ?hd (xs := ([] : List Int)) (inner := []) (ok := fun _ => True) (okp := fun _ => True) ?hr ?hp (fun _ hk => hk) trivial (Below.refl _ _) (Nat.le_refl _) (by simp) ?_; (case hd => rfl); (case hg => rfl); (case hr => exact vz); (case hp => exact (Reps.none _ _)); intro v167 w17 ho18 hb hg_ hnew_; clear hg_ hnew_; (first | rw [<- Ny166.out] at ho18 | (simp only [Int.reduceToNat] at ho18; rw [<- Ny166.out] at ho18)); have HO168 := Aside0.mk (Kd.R_lower (Kd.R_new' (Kd.R_new' ho18 (Kd.R_lt (rz HO_4.out))) (Kd.R_lt (rz HO_7.out))) (below_size (bz0 HB.out))); replace HO_4 := Aside0.mk (Kd.R_elder' (rz HO_4.out) (Kd.R_base ho18) hb); replace HO_7 := Aside0.mk (Kd.R_elder' (rz HO_7.out) (Kd.R_base ho18) hb); replace HB := Aside0.mk (below_step (bz0 HB.out) hb); clear hb ho18))
          go_ret2
          exact ⟨_, gz, by refine rq ?_; exact Kd.R_mono HO168.out (fun _ hk => trivial), (bz0 HB.out)⟩
         ·rw [if_neg c16] at H
          have c16b0 := decide_eq_false c16
          clear c16
          replace H := iz H
          obtain ⟨c19, H⟩ := H
          have c19b0 := decide_eq_true c19
          clear c19
          replace H := iz H
          obtain ⟨c20, H⟩ := H
          have c20b0 := decide_eq_true c20
          clear c20
          have H' := Aside0.mk H
          clear H
          have p164 : 0 <= (x8_2 : Int) := oz
          have q164 : x8_2 < (t161.length : Int) := oz
          obtain ⟨ad164, e164, hx164_0⟩ := Kd.at_int (Kd.R_reads' HO_7.out).2.2 x8_2 p164 q164
          cases e164
          replace p164 := eq_true p164
          replace q164 := eq_true q164
          have p165 : 0 <= (x8_2 : Int) := oz
          have q165 : x8_2 < (t161.length : Int) := oz
          obtain ⟨ad165, e165, hx165_0⟩ := Kd.at_int (Kd.R_reads' HO_7.out).2.2 x8_2 p165 q165
          obtain rfl : ad164 = ad165 := (by injection e165)
          replace p165 := eq_true p165
          replace q165 := eq_true q165
          have p169 : 0 <= (x8_2 : Int) := oz
          have q169 : x8_2 < (t161.length : Int) := oz
          obtain ⟨ad169, e169, hx169_0⟩ := Kd.at_int (Kd.R_reads' HO_7.out).2.2 x8_2 p169 q169
          obtain rfl : ad164 = ad169 := (by injection e169)
          replace p169 := eq_true p169
          replace q169 := eq_true q169
          obtain ⟨Ao21, co21, eo21⟩ := Kd.R_slice HO_4.out
          subst eo21
          have p170 : 0 <= ((rd t161 x8_2) : Int) := oz
          have q170 : (rd t161 x8_2) < (x4_1.length : Int) := oz
          obtain ⟨ad170, e170, hx170_0⟩ := Kd.at_int (Kd.R_reads' HO_4.out).2.2 (rd t161 x8_2) p170 q170
          cases e170
          replace p170 := eq_true p170
          replace q170 := eq_true q170
          go_wp2
          go_roundg k2
          case measure => have := HK1.out; have := HK2.out; omega
          case rel => exact ⟨(rd x4_1 (rd t161 x8_2)), (wrap64 (x8_2 - 1)), ez, ez, H', ⟨by have := HK1.out; have := HK2.out; omega⟩, ⟨by refine rq ?_; exact HO_4.out⟩, ⟨by refine rq ?_; exact HO_7.out⟩, ⟨(bz0 HB.out)⟩⟩
        ·rw [if_neg c15] at H
         have c15b0 : ((rd t161 x8_2) == (wrap64 (x6_2 - 1))) = false := beq_eq_false_iff_ne.mpr c15
         have c15b1 : ((rd t161 x8_2) != (wrap64 (x6_2 - 1))) = true := bne_iff_ne.mpr c15
         obtain ⟨y171, hy171⟩ : ∃ y_ : List Int, y_ = (([] : List Int)) := ⟨_, rfl⟩
         replace H : (some (y171, false)) = some (r1, r2) := yz hy171 H
         have Ny171 := Aside0.mk hy171
         clear hy171
         simp only [Option.some.injEq, Prod.mk.injEq] at H
         obtain ⟨rfl, rfl⟩ := H
         have p164 : 0 <= (x8_2 : Int) := oz
         have q164 : x8_2 < (t161.length : Int) := oz
         obtain ⟨ad164, e164, hx164_0⟩ := Kd.at_int (Kd.R_reads' HO_7.out).2.2 x8_2 p164 q164
         cases e164
         replace p164 := eq_true p164
         replace q164 := eq_true q164
         go_wp2_with (first | ((with_reducible refine gate_dst (N := 50) rfl ?_); refine Kd.R_lit (Kd.int .i64) _ 3 ?hg (N := 50) ?hd (xs := ([] : List Int)) (inner := []) (ok := fun _ => True) (okp := fun _ => True) ?hr ?hp (fun _ hk => hk) trivial (Below.refl _ _) (Nat.le_refl _) (by simp) ?_; (case hd => rfl); (case hg => rfl); (case hr => exact vz); (case hp => exact (Reps.none _ _)); intro v172 w22 ho23 hb hg_ hnew_; clear hg_ hnew_; (first | rw [<- Ny171.out] at ho23 | (simp only [Int.reduceToNat] at ho23; rw [<- Ny171.out] at ho23)); have HO173 := Aside0.mk (Kd.R_lower (Kd.R_new' (Kd.R_new' ho23 (Kd.R_lt (rz HO_4.out))) (Kd.R_lt (rz HO_7.out))) (below_size (bz0 HB.out))); replace HO_4 := Aside0.mk (Kd.R_elder' (rz HO_4.out) (Kd.R_base ho23) hb); replace HO_7 := Aside0.mk (Kd.R_elder' (rz HO_7.out) (Kd.R_base ho23) hb); replace HB := Aside0.mk (below_step (bz0 HB.out) hb); clear hb ho23))
         go_ret2
         exact ⟨_, gz, by refine rq ?_; exact Kd.R_mono HO173.out (fun _ hk => trivial), (bz0 HB.out)⟩
       ·rw [if_neg c12] at H
        have c12b0 : decide (0 <= x8_2) = false := decide_eq_false c12
        clear c12
        replace H := iz H
        obtain ⟨c24, H⟩ := H
        have LMc24 := Aside0.mk c24
        clear c24
        obtain ⟨y174, hy174⟩ : ∃ y_ : List Int, y_ = (x4_1 ++ [x6_2]) := ⟨_, rfl⟩
        replace H : (spec_l3Starts.l0 k2 l0 y174 (wrap64 (x5_1 + 1))) = some (r1, r2) := yz hy174 H
        have Ny174 := Aside0.mk hy174
        clear hy174
        have H' := Aside0.mk H
        clear H
        go_wp2_with (first | ((with_reducible refine gate_builtin (b := .append) (xs := #[.tmp 58, .tmp 60]) rfl ?_); at_builtin; refine Kd.R_append (Kd.int .i64) (w0 := w) w.heap.size rfl (.tmp 58) (.tmp 60) 47 3 (.int .i64 0) 8 rfl Tryd.underlying47 info3 rfl (by decide) (by omega) u4 x4_1 x6_2 [.int .i64 x6_2] (fun k_ => some k_ ≠ (.slice Ao11 t161.length co11 : Value).ownBlock) (fun _ => False) rfl rfl ?aP (fun _ hk => hk.elim) ?aF ?aO ?aB ?aS ?aL ?_; (case aP => exact rfl); (case aB => exact (bz0 HB.out)); (case aF => exact (fun k_ hk => Kd.fresh' (Kd.R_lt (rz HO_7.out)) k_ hk)); (case aO => exact (rz HO_4.out)); (case aS => exact (below_size (bz0 HB.out))); (case aL => have := LMc24.out; omega); intro v175 w25 ho hb hg hat; rw [<- Ny174.out] at ho; have n0_ := Aside0.mk (Kd.R_after (ok := (fun _ => True)) (by refine rq ?_; exact Kd.R_mono HO_7.out (fun _ hk => ⟨trivial, hk⟩)) hg hat); have n1_ := Aside0.mk (hb); have n2_ := Aside0.mk (ho); clear HO_7; clear HB; clear HO_4; have HO_7 := n0_; have HB := n1_; have HO176 := n2_; clear n0_ n1_ n2_; clear ho hb hg hat))
        go_roundg k2
        case measure => have := HK1.out; have := HK2.out; omega
        case rel => exact ⟨(y174), (wrap64 (x5_1 + 1)), ez, H', ⟨by have := HK1.out; have := HK2.out; omega⟩, ⟨by refine rq ?_; exact Kd.R_mono HO176.out (fun _ hk => trivial)⟩, ⟨(bz0 HB.out)⟩⟩
    ·replace c7 := Bool.eq_false_iff.mpr c7
     subst c7
     have H1 := hq H
     clear H
     have H := H1
     clear H1
     obtain ⟨y157, hy157⟩ : ∃ y_ : List Int, y_ = (([] : List Int)) := ⟨_, rfl⟩
     replace H : (some (y157, false)) = some (r1, r2) := yz hy157 H
     have Ny157 := Aside0.mk hy157
     clear hy157
     simp only [Option.some.injEq, Prod.mk.injEq] at H
     obtain ⟨rfl, rfl⟩ := H
     have p155 : 0 <= (x5_1 : Int) := oz
     have q155 : x5_1 < (l0.length : Int) := oz
     obtain ⟨ad155, e155, hx155_0, hx155_1, hx155_2, hx155_3, hx155_4, hx155_5, hx155_6⟩ := at_T43 (Kd.C_below HR0.out HB.out) x5_1 p155 q155
     cases e155
     replace p155 := eq_true p155
     replace q155 := eq_true q155
     go_wp2_with (first | ((with_reducible refine gate_callee (f := 79) rfl ?_); refine goesL_ (some 20) rfl rfl Tryd.func79 (by kernel_rfl) rfl #[.agg #[.int .i64 ((rd_T43 l0 x5_1).f0), .int .i64 ((rd_T43 l0 x5_1).f1), .int .i64 ((rd_T43 l0 x5_1).f2), .int .i64 ((rd_T43 l0 x5_1).f3), .int .i64 ((rd_T43 l0 x5_1).f4), .string ((rd_T43 l0 x5_1).f5), .string ((rd_T43 l0 x5_1).f6)]] rfl lz ?_; (with_reducible refine (spec_l3Fields.calls k1 ((rd_T43 l0 x5_1).f0) ((rd_T43 l0 x5_1).f1) ((rd_T43 l0 x5_1).f2) ((rd_T43 l0 x5_1).f3) ((rd_T43 l0 x5_1).f4) ((rd_T43 l0 x5_1).f5) ((rd_T43 l0 x5_1).f6) false _ A6.out).mono ?_); rintro e w26 ⟨rfl, hb⟩; refine ⟨_, rfl, ?_⟩; replace HO_4 := qz HO_4 hb; replace HB := Aside0.mk (below_step (bz0 HB.out) hb); (try clear hb); (try clear hk); (try clear hi)) | ((with_reducible refine gate_dst (N := 22) rfl ?_); refine Kd.R_lit (Kd.int .i64) _ 3 ?hg (N := 22) ?hd (xs := ([] : List Int)) (inner := []) (ok := fun _ => True) (okp := fun _ => True) ?hr ?hp (fun _ hk => hk) trivial (Below.refl _ _) (Nat.le_refl _) (by simp) ?_; (case hd => rfl); (case hg => rfl); (case hr => exact vz); (case hp => exact (Reps.none _ _)); intro v158 w27 ho28 hb hg_ hnew_; clear hg_ hnew_; (first | rw [<- Ny157.out] at ho28 | (simp only [Int.reduceToNat] at ho28; rw [<- Ny157.out] at ho28)); have HO159 := Aside0.mk (Kd.R_lower (Kd.R_new' ho28 (Kd.R_lt (rz HO_4.out))) (below_size (bz0 HB.out))); replace HO_4 := Aside0.mk (Kd.R_elder' (rz HO_4.out) (Kd.R_base ho28) hb); replace HB := Aside0.mk (below_step (bz0 HB.out) hb); clear hb ho28))
     go_ret2
     exact ⟨_, gz, by refine rq ?_; exact Kd.R_mono HO159.out (fun _ hk => trivial), (bz0 HB.out)⟩
   ·rw [if_neg c4] at H
    have c4b0 := decide_eq_false c4
    clear c4
    simp only [Option.some.injEq, Prod.mk.injEq] at H
    obtain ⟨rfl, rfl⟩ := H
    go_wp2
    go_ret2
    exact ⟨_, gz, by refine rq ?_; exact HO_4.out, (bz0 HB.out)⟩
def spec_NodesOk.f (k : Nat) (l0 : List (S43)) : Option (Bool) := (spec_l1In.f (l0.length : Int) 1 150).bind fun t177 => (if t177 = true then ((spec_l3Starts.f k l0).bind fun bt178 => (if bt178.2 = true then (if 0 <= (wrap64 ((l0.length : Int) - 1)) then (if (wrap64 ((l0.length : Int) - 1)) < (bt178.1.length : Int) then (some ((rd bt178.1 (wrap64 ((l0.length : Int) - 1))) == 0)) else (none)) else (none)) else (some false))) else (some false))
theorem spec_NodesOk.mono : ∀ a0 k, LeO (spec_NodesOk.f k a0) (spec_NodesOk.f (k + 1) a0) := by
 intro a0 k
 unfold spec_NodesOk.f
 with_reducible repeat' first | exact spec_l3Starts.mono _ _ | exact lrz _ | exact lnz _ | refine liz ?_ ?_ | refine lbz ?_ fun _ => ?_
set_option maxHeartbeats 8000000 in
set_option maxRecDepth 100000 in
theorem spec_NodesOk.calls (k : Nat) (A0 : Option Addr) (c0 : Nat) (l0 : List (S43)) (r : Bool) (w : World) (hr0 : Kd.C k43 w A0 l0.length l0) (hc0 : l0.length <= c0) (h : spec_NodesOk.f k l0 = some r) :
  Calls Tryd.prog 33 #[.slice A0 l0.length c0] w fun e w' => e = .returned (.bool r) /\ Below w.heap.size w w' := by
 have HR0 := Aside0.mk hr0
 have HC0 := Aside0.mk hc0
 clear hr0 hc0
 have HB := Aside0.mk (Below.refl w.heap.size w)
 have H : ((spec_l1In.f (l0.length : Int) 1 150).bind fun t177 => (if t177 = true then ((spec_l3Starts.f k l0).bind fun bt178 => (if bt178.2 = true then (if 0 <= (wrap64 ((l0.length : Int) - 1)) then (if (wrap64 ((l0.length : Int) - 1)) < (bt178.1.length : Int) then (some ((rd bt178.1 (wrap64 ((l0.length : Int) - 1))) == 0)) else (none)) else (none)) else (some false))) else (some false))) = some r := h
 clear h
 replace H := bi H
 obtain ⟨t177, A20, H⟩ := H
 try dsimp only at H
 have A2 := Aside0.mk A20
 clear A20
 by_cases c3 : t177 = true
 ·subst c3
  have H1 := hp H
  clear H
  have H := H1
  clear H1
  replace H := bi H
  obtain ⟨⟨t178, t179⟩, A40, H⟩ := H
  try dsimp only at H
  have A4 := Aside0.mk A40
  clear A40
  by_cases c5 : t179 = true
  ·subst c5
   have H1 := hp H
   clear H
   have H := H1
   clear H1
   obtain ⟨ji6, hji6⟩ : ∃ j_ : Int, (wrap64 ((l0.length : Int) - 1)) = j_ := ⟨_, rfl⟩
   replace H : (if 0 <= (ji6) then (if (ji6) < (t178.length : Int) then (some ((rd t178 (ji6)) == 0)) else (none)) else (none)) = some r := by first | (rw [hji6] at H; exact H) | (simp only [hji6] at H ⊢; exact H)
   (try rw [hji6] at A2)
   (try rw [hji6] at A4)
   have hji6w : (IntKind.i64.wrap ((l0.length : Int) - 1)) = ji6 := (i64_w _).trans hji6
   replace H := iz H
   obtain ⟨c7, H⟩ := H
   have c7b0 := decide_eq_true c7
   clear c7
   replace H := iz H
   obtain ⟨c8, H⟩ := H
   have c8b0 := decide_eq_true c8
   clear c8
   obtain rfl := Option.some.inj H
   go_enter Tryd.func33, Tryd.ntmps33
   go_wp2_with (first | ((with_reducible refine gate_callee (f := 39) rfl ?_); refine goesL_ (some 7) rfl rfl Tryd.func39 (by kernel_rfl) rfl #[.int .i64 (l0.length : Int), .int .i64 1, .int .i64 150] rfl lz ?_; (with_reducible refine (spec_l1In.calls (l0.length : Int) 1 150 true _ A2.out).mono ?_); rintro e w' ⟨rfl, ⟨nd, rfl⟩⟩; refine ⟨_, rfl, ?_⟩) | ((with_reducible refine gate_callee (f := 63) rfl ?_); refine goesL_ (some 11) rfl rfl Tryd.func63 (by kernel_rfl) rfl #[.slice A0 l0.length c0] rfl lz ?_; (with_reducible refine (spec_l3Starts.calls k _ _ l0 t178 true _ ?side1 ?side2 A4.out).mono ?_); (case side1 => repeat (first | exact HR0.out | (with_reducible refine Kd.C_alloc ?_ _) | (with_reducible refine Kd.C_drewN ?_ _) | (with_reducible refine Kd.C_drew ?_))); (case side2 => exact HC0.out); rintro e w9 ⟨v180, rfl, ho0, hb⟩; refine ⟨_, rfl, ?_⟩; have HO181 := Aside0.mk (Kd.R_lower ho0 (below_size (bz0 HB.out))); replace HB := Aside0.mk (below_step (bz0 HB.out) hb); (try clear hb); (try clear ho0); obtain ⟨Ao10, co10, eo10⟩ := Kd.R_slice HO181.out; subst eo10; have p182 : 0 <= ((ji6) : Int) := oz; have q182 : (ji6) < (t178.length : Int) := oz; obtain ⟨ad182, e182, hx182_0⟩ := Kd.at_int (Kd.R_reads' HO181.out).2.2 (ji6) p182 q182; cases e182; replace p182 := eq_true p182; replace q182 := eq_true q182))
   go_ret
   exact ⟨by first | rfl | (simp [errW_none, errW_some] <;> rfl) | (simp only [<- hji6]; first | rfl | (simp [errW_none, errW_some] <;> rfl)) | (simp [*, errW_none, errW_some] <;> rfl), (bz0 HB.out)⟩
  ·replace c5 := Bool.eq_false_iff.mpr c5
   subst c5
   have H1 := hq H
   clear H
   have H := H1
   clear H1
   obtain rfl := Option.some.inj H
   go_enter Tryd.func33, Tryd.ntmps33
   go_wp2_with (first | ((with_reducible refine gate_callee (f := 39) rfl ?_); refine goesL_ (some 7) rfl rfl Tryd.func39 (by kernel_rfl) rfl #[.int .i64 (l0.length : Int), .int .i64 1, .int .i64 150] rfl lz ?_; (with_reducible refine (spec_l1In.calls (l0.length : Int) 1 150 true _ A2.out).mono ?_); rintro e w' ⟨rfl, ⟨nd, rfl⟩⟩; refine ⟨_, rfl, ?_⟩) | ((with_reducible refine gate_callee (f := 63) rfl ?_); refine goesL_ (some 11) rfl rfl Tryd.func63 (by kernel_rfl) rfl #[.slice A0 l0.length c0] rfl lz ?_; (with_reducible refine (spec_l3Starts.calls k _ _ l0 t178 false _ ?side1 ?side2 A4.out).mono ?_); (case side1 => repeat (first | exact HR0.out | (with_reducible refine Kd.C_alloc ?_ _) | (with_reducible refine Kd.C_drewN ?_ _) | (with_reducible refine Kd.C_drew ?_))); (case side2 => exact HC0.out); rintro e w11 ⟨v180, rfl, ho0, hb⟩; refine ⟨_, rfl, ?_⟩; have HO181 := Aside0.mk (Kd.R_lower ho0 (below_size (bz0 HB.out))); replace HB := Aside0.mk (below_step (bz0 HB.out) hb); (try clear hb); (try clear ho0)))
   go_ret
   exact ⟨gz, (bz0 HB.out)⟩
 ·replace c3 := Bool.eq_false_iff.mpr c3
  subst c3
  have H1 := hq H
  clear H
  have H := H1
  clear H1
  obtain rfl := Option.some.inj H
  go_enter Tryd.func33, Tryd.ntmps33
  go_wp2_with (first | ((with_reducible refine gate_callee (f := 39) rfl ?_); refine goesL_ (some 7) rfl rfl Tryd.func39 (by kernel_rfl) rfl #[.int .i64 (l0.length : Int), .int .i64 1, .int .i64 150] rfl lz ?_; (with_reducible refine (spec_l1In.calls (l0.length : Int) 1 150 false _ A2.out).mono ?_); rintro e w' ⟨rfl, ⟨nd, rfl⟩⟩; refine ⟨_, rfl, ?_⟩))
  go_ret
  exact ⟨gz, (bz0 HB.out)⟩
def spec_Dec.l0 : Nat -> Int -> ByteArray -> Bool -> Option (ByteArray)
 | 0, _, _, _ => none
 | k + 1, x0, x3, x4 => if x0 = 0 then (if x4 = true then (if 1 + x3.size <= 9223372036854775807 then (some ((⟨#[45]⟩ : ByteArray) ++ x3)) else (none)) else (some x3)) else (if (Int.tmod x0 10) < 0 then ((some (([(wrap64 (48 + (wrap64 (-(Int.tmod x0 10))))) % 256] : List Int) : List Int)).bind fun y183 => (if (strOfNums y183).size + x3.size <= 9223372036854775807 then (spec_Dec.l0 k (wrap64 (Int.tdiv x0 10)) ((strOfNums y183) ++ x3) x4) else (none))) else ((some (([(wrap64 (48 + (Int.tmod x0 10))) % 256] : List Int) : List Int)).bind fun y186 => (if (strOfNums y186).size + x3.size <= 9223372036854775807 then (spec_Dec.l0 k (wrap64 (Int.tdiv x0 10)) ((strOfNums y186) ++ x3) x4) else (none))))
def spec_Dec.f (k : Nat) (a0 : Int) : Option (ByteArray) := if a0 = 0 then (some (⟨#[48]⟩ : ByteArray)) else (spec_Dec.l0 k a0 (⟨#[]⟩ : ByteArray) (decide (a0 < 0)))
theorem spec_Dec.mono_l : ∀ k, (∀ y0 y1 y2, LeO (spec_Dec.l0 k y0 y1 y2) (spec_Dec.l0 (k + 1) y0 y1 y2))
 | 0 => fun _ _ _ r h => by simp [spec_Dec.l0] at h
 | k + 1 => by
  have ih0 := spec_Dec.mono_l k
  ·intro y0 y1 y2
   unfold spec_Dec.l0
   with_reducible repeat' first | exact ih0 _ _ _ | exact lrz _ | exact lnz _ | refine liz ?_ ?_ | refine lbz ?_ fun _ => ?_
theorem spec_Dec.mono : ∀ a0 k, LeO (spec_Dec.f k a0) (spec_Dec.f (k + 1) a0) := by
 intro a0 k
 have ih0 := spec_Dec.mono_l k
 unfold spec_Dec.f
 with_reducible repeat' first | exact ih0 _ _ _ | exact lrz _ | exact lnz _ | refine liz ?_ ?_ | refine lbz ?_ fun _ => ?_
set_option maxHeartbeats 8000000 in
set_option maxRecDepth 100000 in
theorem spec_Dec.calls (k : Nat) (a0 : Int) (r : ByteArray) (w : World) (h : spec_Dec.f k a0 = some r) :
  Calls Tryd.prog 64 #[.int .i64 a0] w fun e w' => e = .returned (.string r) /\ Below w.heap.size w w' := by
 have HB := Aside0.mk (Below.refl w.heap.size w)
 have H : (if a0 = 0 then (some (⟨#[48]⟩ : ByteArray)) else (spec_Dec.l0 k a0 (⟨#[]⟩ : ByteArray) (decide (a0 < 0)))) = some r := h
 clear h
 by_cases c2 : a0 = 0
 ·rw [if_pos c2] at H
  have c2b0 : (a0 == 0) = true := beq_iff_eq.mpr c2
  have c2b1 : (a0 != 0) = false := bne_eq_false_iff_eq.mpr c2
  clear c2
  obtain rfl := Option.some.inj H
  go_enter Tryd.func64, Tryd.ntmps64
  go_wp2
  go_ret
  exact ⟨gz, (bz0 HB.out)⟩
 ·rw [if_neg c2] at H
  have c2b0 : (a0 == 0) = false := beq_eq_false_iff_ne.mpr c2
  have c2b1 : (a0 != 0) = true := bne_iff_ne.mpr c2
  have H' := Aside0.mk H
  clear H
  go_enter Tryd.func64, Tryd.ntmps64
  go_wp2
  go_loopg [0, 3] k (fun kq v0 v3 w' => ∃ (x0_1 : Int) (x3_1 : ByteArray), v0 = .int .i64 x0_1 /\ v3 = .string x3_1 /\ Aside0 (spec_Dec.l0 kq x0_1 x3_1 (decide (a0 < 0)) = some r) /\ Aside0 (kq <= k) /\ Aside0 (Below w.heap.size w w'))
  case atStart => exact ⟨(a0), ((⟨#[]⟩ : ByteArray)), ez, ez, H', ⟨Nat.le_refl _⟩, ⟨(bz0 HB.out)⟩⟩
  case round =>
   clear H'
   try clear c2
   try clear c2b0
   try clear c2b1
   try clear p2
   obtain ⟨x0_1, x3_1, rfl, rfl, HA, HK1, HB⟩ := hrel
   cases gk with
   | zero => exact absurd HA.out (by simp [spec_Dec.l0])
   | succ k1 =>
    have H := HA.out
    clear HA
    simp only [spec_Dec.l0] at H
    by_cases c3 : x0_1 = 0
    ·rw [if_pos c3] at H
     have c3b0 : (x0_1 == 0) = true := beq_iff_eq.mpr c3
     have c3b1 : (x0_1 != 0) = false := bne_eq_false_iff_eq.mpr c3
     clear c3
     by_cases c4 : (decide (a0 < 0)) = true
     ·rw [if_pos c4] at H
      have c4b0 : (decide (a0 < 0)) = true := c4
      clear c4
      (try simp only [c4b0])
      replace H := iz H
      obtain ⟨c5, H⟩ := H
      have c5b0 := eq_true c5
      have c5b1 : decide (1 + x3_1.size <= 9223372036854775807) = true := decide_eq_true c5
      try have c5b2 : (9223372036854775807 < 1 + x3_1.size) = False := eq_false (Nat.not_lt.2 c5)
      obtain rfl := Option.some.inj H
      go_wp2
      go_ret
      exact ⟨gz, (bz0 HB.out)⟩
     ·rw [if_neg c4] at H
      have c4b0 : (decide (a0 < 0)) = false := by simpa using c4
      clear c4
      (try simp only [c4b0])
      obtain rfl := Option.some.inj H
      go_wp2
      go_ret
      exact ⟨gz, (bz0 HB.out)⟩
    ·rw [if_neg c3] at H
     have c3b0 : (x0_1 == 0) = false := beq_eq_false_iff_ne.mpr c3
     have c3b1 : (x0_1 != 0) = true := bne_iff_ne.mpr c3
     by_cases c6 : (Int.tmod x0_1 10) < 0
     ·rw [if_pos c6] at H
      have c6b0 := decide_eq_true c6
      clear c6
      obtain ⟨y183, hy183⟩ : ∃ y_ : List Int, y_ = (([(wrap64 (48 + (wrap64 (-(Int.tmod x0_1 10))))) % 256] : List Int)) := ⟨_, rfl⟩
      replace H : (if (strOfNums y183).size + x3_1.size <= 9223372036854775807 then (spec_Dec.l0 k1 (wrap64 (Int.tdiv x0_1 10)) ((strOfNums y183) ++ x3_1) (decide (a0 < 0))) else (none)) = some r := yz hy183 H
      have Ny183 := Aside0.mk hy183
      clear hy183
      replace H := iz H
      obtain ⟨c7, H⟩ := H
      have c7b0 := eq_true c7
      have c7b1 : decide ((strOfNums y183).size + x3_1.size <= 9223372036854775807) = true := decide_eq_true c7
      try have c7b2 : (9223372036854775807 < (strOfNums y183).size + x3_1.size) = False := eq_false (Nat.not_lt.2 c7)
      have H' := Aside0.mk H
      clear H
      go_wp2_with (first | ((with_reducible refine gate_dst (N := 21) rfl ?_); refine Kd.R_lit (Kd.int .u8) _ 5 ?hg (N := 21) ?hd (xs := ([(wrap64 (48 + (wrap64 (-(Int.tmod x0_1 10))))) % 256] : List Int)) (inner := [.int .u8 ((wrap64 (48 + (wrap64 (-(Int.tmod x0_1 10))))) % 256)]) (ok := fun _ => True) (okp := fun _ => True) ?hr ?hp (fun _ hk => hk) trivial (Below.refl _ _) (Nat.le_refl _) (by simp) ?_; (case hd => rfl); (case hg => rfl); (case hr => exact vz); (case hp => exact (Reps.one (show Kd.M (Kd.int .u8) _ _ _ ((wrap64 (48 + (wrap64 (-(Int.tmod x0_1 10))))) % 256) [.int .u8 ((wrap64 (48 + (wrap64 (-(Int.tmod x0_1 10))))) % 256)] from rfl) (Reps.none _ _))); intro v184 w8 ho9 hb hg_ hnew_; clear hg_ hnew_; (first | rw [<- Ny183.out] at ho9 | (simp only [Int.reduceToNat] at ho9; rw [<- Ny183.out] at ho9)); have HO185 := Aside0.mk (Kd.R_lower ho9 (below_size (bz0 HB.out))); replace HB := Aside0.mk (below_step (bz0 HB.out) hb); clear hb ho9; have hcv10 := own_string (P := Tryd.prog) Tryd.underlying75 Tryd.underlying5 Tryd.underlying9 (Kd.own_of_R HO185.out)))
      go_roundg k1
      case measure => have := HK1.out; omega
      case rel => exact ⟨(wrap64 (Int.tdiv x0_1 10)), ((strOfNums y183) ++ x3_1), ez, ez, H', ⟨by have := HK1.out; omega⟩, ⟨(bz0 HB.out)⟩⟩
     ·rw [if_neg c6] at H
      have c6b0 := decide_eq_false c6
      clear c6
      obtain ⟨y186, hy186⟩ : ∃ y_ : List Int, y_ = (([(wrap64 (48 + (Int.tmod x0_1 10))) % 256] : List Int)) := ⟨_, rfl⟩
      replace H : (if (strOfNums y186).size + x3_1.size <= 9223372036854775807 then (spec_Dec.l0 k1 (wrap64 (Int.tdiv x0_1 10)) ((strOfNums y186) ++ x3_1) (decide (a0 < 0))) else (none)) = some r := yz hy186 H
      have Ny186 := Aside0.mk hy186
      clear hy186
      replace H := iz H
      obtain ⟨c11, H⟩ := H
      have c11b0 := eq_true c11
      have c11b1 : decide ((strOfNums y186).size + x3_1.size <= 9223372036854775807) = true := decide_eq_true c11
      try have c11b2 : (9223372036854775807 < (strOfNums y186).size + x3_1.size) = False := eq_false (Nat.not_lt.2 c11)
      have H' := Aside0.mk H
      clear H
      go_wp2_with (first | ((with_reducible refine gate_dst (N := 21) rfl ?_); refine Kd.R_lit (Kd.int .u8) _ 5 ?hg (N := 21) ?hd (xs := ([(wrap64 (48 + (Int.tmod x0_1 10))) % 256] : List Int)) (inner := [.int .u8 ((wrap64 (48 + (Int.tmod x0_1 10))) % 256)]) (ok := fun _ => True) (okp := fun _ => True) ?hr ?hp (fun _ hk => hk) trivial (Below.refl _ _) (Nat.le_refl _) (by simp) ?_; (case hd => rfl); (case hg => rfl); (case hr => exact vz); (case hp => exact (Reps.one (show Kd.M (Kd.int .u8) _ _ _ ((wrap64 (48 + (Int.tmod x0_1 10))) % 256) [.int .u8 ((wrap64 (48 + (Int.tmod x0_1 10))) % 256)] from rfl) (Reps.none _ _))); intro v187 w12 ho13 hb hg_ hnew_; clear hg_ hnew_; (first | rw [<- Ny186.out] at ho13 | (simp only [Int.reduceToNat] at ho13; rw [<- Ny186.out] at ho13)); have HO188 := Aside0.mk (Kd.R_lower ho13 (below_size (bz0 HB.out))); replace HB := Aside0.mk (below_step (bz0 HB.out) hb); clear hb ho13; have hcv14 := own_string (P := Tryd.prog) Tryd.underlying75 Tryd.underlying5 Tryd.underlying9 (Kd.own_of_R HO188.out)))
      go_roundg k1
      case measure => have := HK1.out; omega
      case rel => exact ⟨(wrap64 (Int.tdiv x0_1 10)), ((strOfNums y186) ++ x3_1), ez, ez, H', ⟨by have := HK1.out; omega⟩, ⟨(bz0 HB.out)⟩⟩
def spec_l4Form.f (a0 : ByteArray) : Option (Int × Int × ByteArray) := if a0.toList = ([102, 117, 110] : List UInt8) then (some (3, 0, (⟨#[110, 101]⟩ : ByteArray))) else (if a0.toList = ([97, 112, 112] : List UInt8) then (some (4, 0, (⟨#[101, 101]⟩ : ByteArray))) else (if a0.toList = ([108, 101, 116] : List UInt8) then (some (5, 0, (⟨#[110, 101, 101]⟩ : ByteArray))) else (if a0.toList = ([114, 101, 99] : List UInt8) then (some (6, 0, (⟨#[110, 110, 101, 101]⟩ : ByteArray))) else (if a0.toList = ([105, 102] : List UInt8) then (some (7, 0, (⟨#[101, 101, 101]⟩ : ByteArray))) else (if a0.toList = ([97, 100, 100] : List UInt8) then (some (8, 0, (⟨#[101, 101]⟩ : ByteArray))) else (if a0.toList = ([115, 117, 98] : List UInt8) then (some (8, 1, (⟨#[101, 101]⟩ : ByteArray))) else (if a0.toList = ([108, 101, 115, 115] : List UInt8) then (some (8, 2, (⟨#[101, 101]⟩ : ByteArray))) else (if a0.toList = ([115, 97, 109, 101] : List UInt8) then (some (8, 3, (⟨#[101, 101]⟩ : ByteArray))) else (if a0.toList = ([112, 97, 105, 114] : List UInt8) then (some (9, 0, (⟨#[101, 101]⟩ : ByteArray))) else (if a0.toList = ([102, 115, 116] : List UInt8) then (some (10, 0, (⟨#[101]⟩ : ByteArray))) else (if a0.toList = ([115, 110, 100] : List UInt8) then (some (11, 0, (⟨#[101]⟩ : ByteArray))) else (if a0.toList = ([99, 111, 110, 115] : List UInt8) then (some (13, 0, (⟨#[101, 101]⟩ : ByteArray))) else (if a0.toList = ([109, 97, 116, 99, 104] : List UInt8) then (some (14, 0, (⟨#[101, 101, 110, 110, 101]⟩ : ByteArray))) else (if a0.toList = ([114, 101, 102] : List UInt8) then (some (15, 0, (⟨#[101]⟩ : ByteArray))) else (if a0.toList = ([103, 101, 116] : List UInt8) then (some (16, 0, (⟨#[101]⟩ : ByteArray))) else (if a0.toList = ([115, 101, 116] : List UInt8) then (some (17, 0, (⟨#[101, 101]⟩ : ByteArray))) else (if a0.toList = ([114, 97, 105, 115, 101] : List UInt8) then (some (18, 0, (⟨#[101]⟩ : ByteArray))) else (if a0.toList = ([116, 114, 121] : List UInt8) then (some (19, 0, (⟨#[101, 110, 101]⟩ : ByteArray))) else (some (0, 0, (⟨#[]⟩ : ByteArray)))))))))))))))))))))
set_option maxHeartbeats 8000000 in
set_option maxRecDepth 100000 in
theorem spec_l4Form.calls (a0 : ByteArray) (r1 : Int) (r2 : Int) (r3 : ByteArray) (w : World) (h : spec_l4Form.f a0 = some (r1, r2, r3)) :
  Calls Tryd.prog 65 #[.string a0] w fun e w' => e = .returned (.tuple #[.int .i64 r1, .int .i64 r2, .string r3]) /\ Drawn0 w w' := by
 have H : (if a0.toList = ([102, 117, 110] : List UInt8) then (some (3, 0, (⟨#[110, 101]⟩ : ByteArray))) else (if a0.toList = ([97, 112, 112] : List UInt8) then (some (4, 0, (⟨#[101, 101]⟩ : ByteArray))) else (if a0.toList = ([108, 101, 116] : List UInt8) then (some (5, 0, (⟨#[110, 101, 101]⟩ : ByteArray))) else (if a0.toList = ([114, 101, 99] : List UInt8) then (some (6, 0, (⟨#[110, 110, 101, 101]⟩ : ByteArray))) else (if a0.toList = ([105, 102] : List UInt8) then (some (7, 0, (⟨#[101, 101, 101]⟩ : ByteArray))) else (if a0.toList = ([97, 100, 100] : List UInt8) then (some (8, 0, (⟨#[101, 101]⟩ : ByteArray))) else (if a0.toList = ([115, 117, 98] : List UInt8) then (some (8, 1, (⟨#[101, 101]⟩ : ByteArray))) else (if a0.toList = ([108, 101, 115, 115] : List UInt8) then (some (8, 2, (⟨#[101, 101]⟩ : ByteArray))) else (if a0.toList = ([115, 97, 109, 101] : List UInt8) then (some (8, 3, (⟨#[101, 101]⟩ : ByteArray))) else (if a0.toList = ([112, 97, 105, 114] : List UInt8) then (some (9, 0, (⟨#[101, 101]⟩ : ByteArray))) else (if a0.toList = ([102, 115, 116] : List UInt8) then (some (10, 0, (⟨#[101]⟩ : ByteArray))) else (if a0.toList = ([115, 110, 100] : List UInt8) then (some (11, 0, (⟨#[101]⟩ : ByteArray))) else (if a0.toList = ([99, 111, 110, 115] : List UInt8) then (some (13, 0, (⟨#[101, 101]⟩ : ByteArray))) else (if a0.toList = ([109, 97, 116, 99, 104] : List UInt8) then (some (14, 0, (⟨#[101, 101, 110, 110, 101]⟩ : ByteArray))) else (if a0.toList = ([114, 101, 102] : List UInt8) then (some (15, 0, (⟨#[101]⟩ : ByteArray))) else (if a0.toList = ([103, 101, 116] : List UInt8) then (some (16, 0, (⟨#[101]⟩ : ByteArray))) else (if a0.toList = ([115, 101, 116] : List UInt8) then (some (17, 0, (⟨#[101, 101]⟩ : ByteArray))) else (if a0.toList = ([114, 97, 105, 115, 101] : List UInt8) then (some (18, 0, (⟨#[101]⟩ : ByteArray))) else (if a0.toList = ([116, 114, 121] : List UInt8) then (some (19, 0, (⟨#[101, 110, 101]⟩ : ByteArray))) else (some (0, 0, (⟨#[]⟩ : ByteArray)))))))))))))))))))))) = some (r1, r2, r3) := h
 clear h
 by_cases c2 : a0.toList = ([102, 117, 110] : List UInt8)
 ·rw [if_pos c2] at H
  have c2b0 : (a0.toList == ([102, 117, 110] : List UInt8)) = true := beq_iff_eq.mpr c2
  have c2b1 : (a0.toList != ([102, 117, 110] : List UInt8)) = false := bne_eq_false_iff_eq.mpr c2
  clear c2
  simp only [Option.some.injEq, Prod.mk.injEq] at H
  obtain ⟨rfl, rfl, rfl⟩ := H
  go_enter Tryd.func65, Tryd.ntmps65
  go_wp2
  go_ret3
  exact ⟨e2z, dz⟩
 ·rw [if_neg c2] at H
  have c2b0 : (a0.toList == ([102, 117, 110] : List UInt8)) = false := beq_eq_false_iff_ne.mpr c2
  have c2b1 : (a0.toList != ([102, 117, 110] : List UInt8)) = true := bne_iff_ne.mpr c2
  by_cases c3 : a0.toList = ([97, 112, 112] : List UInt8)
  ·rw [if_pos c3] at H
   have c3b0 : (a0.toList == ([97, 112, 112] : List UInt8)) = true := beq_iff_eq.mpr c3
   have c3b1 : (a0.toList != ([97, 112, 112] : List UInt8)) = false := bne_eq_false_iff_eq.mpr c3
   clear c3
   simp only [Option.some.injEq, Prod.mk.injEq] at H
   obtain ⟨rfl, rfl, rfl⟩ := H
   go_enter Tryd.func65, Tryd.ntmps65
   go_wp2
   go_ret3
   exact ⟨e2z, dz⟩
  ·rw [if_neg c3] at H
   have c3b0 : (a0.toList == ([97, 112, 112] : List UInt8)) = false := beq_eq_false_iff_ne.mpr c3
   have c3b1 : (a0.toList != ([97, 112, 112] : List UInt8)) = true := bne_iff_ne.mpr c3
   by_cases c4 : a0.toList = ([108, 101, 116] : List UInt8)
   ·rw [if_pos c4] at H
    have c4b0 : (a0.toList == ([108, 101, 116] : List UInt8)) = true := beq_iff_eq.mpr c4
    have c4b1 : (a0.toList != ([108, 101, 116] : List UInt8)) = false := bne_eq_false_iff_eq.mpr c4
    clear c4
    simp only [Option.some.injEq, Prod.mk.injEq] at H
    obtain ⟨rfl, rfl, rfl⟩ := H
    go_enter Tryd.func65, Tryd.ntmps65
    go_wp2
    go_ret3
    exact ⟨e2z, dz⟩
   ·rw [if_neg c4] at H
    have c4b0 : (a0.toList == ([108, 101, 116] : List UInt8)) = false := beq_eq_false_iff_ne.mpr c4
    have c4b1 : (a0.toList != ([108, 101, 116] : List UInt8)) = true := bne_iff_ne.mpr c4
    by_cases c5 : a0.toList = ([114, 101, 99] : List UInt8)
    ·rw [if_pos c5] at H
     have c5b0 : (a0.toList == ([114, 101, 99] : List UInt8)) = true := beq_iff_eq.mpr c5
     have c5b1 : (a0.toList != ([114, 101, 99] : List UInt8)) = false := bne_eq_false_iff_eq.mpr c5
     clear c5
     simp only [Option.some.injEq, Prod.mk.injEq] at H
     obtain ⟨rfl, rfl, rfl⟩ := H
     go_enter Tryd.func65, Tryd.ntmps65
     go_wp2
     go_ret3
     exact ⟨e2z, dz⟩
    ·rw [if_neg c5] at H
     have c5b0 : (a0.toList == ([114, 101, 99] : List UInt8)) = false := beq_eq_false_iff_ne.mpr c5
     have c5b1 : (a0.toList != ([114, 101, 99] : List UInt8)) = true := bne_iff_ne.mpr c5
     by_cases c6 : a0.toList = ([105, 102] : List UInt8)
     ·rw [if_pos c6] at H
      have c6b0 : (a0.toList == ([105, 102] : List UInt8)) = true := beq_iff_eq.mpr c6
      have c6b1 : (a0.toList != ([105, 102] : List UInt8)) = false := bne_eq_false_iff_eq.mpr c6
      clear c6
      simp only [Option.some.injEq, Prod.mk.injEq] at H
      obtain ⟨rfl, rfl, rfl⟩ := H
      go_enter Tryd.func65, Tryd.ntmps65
      go_wp2
      go_ret3
      exact ⟨e2z, dz⟩
     ·rw [if_neg c6] at H
      have c6b0 : (a0.toList == ([105, 102] : List UInt8)) = false := beq_eq_false_iff_ne.mpr c6
      have c6b1 : (a0.toList != ([105, 102] : List UInt8)) = true := bne_iff_ne.mpr c6
      by_cases c7 : a0.toList = ([97, 100, 100] : List UInt8)
      ·rw [if_pos c7] at H
       have c7b0 : (a0.toList == ([97, 100, 100] : List UInt8)) = true := beq_iff_eq.mpr c7
       have c7b1 : (a0.toList != ([97, 100, 100] : List UInt8)) = false := bne_eq_false_iff_eq.mpr c7
       clear c7
       simp only [Option.some.injEq, Prod.mk.injEq] at H
       obtain ⟨rfl, rfl, rfl⟩ := H
       go_enter Tryd.func65, Tryd.ntmps65
       go_wp2
       go_ret3
       exact ⟨e2z, dz⟩
      ·rw [if_neg c7] at H
       have c7b0 : (a0.toList == ([97, 100, 100] : List UInt8)) = false := beq_eq_false_iff_ne.mpr c7
       have c7b1 : (a0.toList != ([97, 100, 100] : List UInt8)) = true := bne_iff_ne.mpr c7
       by_cases c8 : a0.toList = ([115, 117, 98] : List UInt8)
       ·rw [if_pos c8] at H
        have c8b0 : (a0.toList == ([115, 117, 98] : List UInt8)) = true := beq_iff_eq.mpr c8
        have c8b1 : (a0.toList != ([115, 117, 98] : List UInt8)) = false := bne_eq_false_iff_eq.mpr c8
        clear c8
        simp only [Option.some.injEq, Prod.mk.injEq] at H
        obtain ⟨rfl, rfl, rfl⟩ := H
        go_enter Tryd.func65, Tryd.ntmps65
        go_wp2
        go_ret3
        exact ⟨e2z, dz⟩
       ·rw [if_neg c8] at H
        have c8b0 : (a0.toList == ([115, 117, 98] : List UInt8)) = false := beq_eq_false_iff_ne.mpr c8
        have c8b1 : (a0.toList != ([115, 117, 98] : List UInt8)) = true := bne_iff_ne.mpr c8
        by_cases c9 : a0.toList = ([108, 101, 115, 115] : List UInt8)
        ·rw [if_pos c9] at H
         have c9b0 : (a0.toList == ([108, 101, 115, 115] : List UInt8)) = true := beq_iff_eq.mpr c9
         have c9b1 : (a0.toList != ([108, 101, 115, 115] : List UInt8)) = false := bne_eq_false_iff_eq.mpr c9
         clear c9
         simp only [Option.some.injEq, Prod.mk.injEq] at H
         obtain ⟨rfl, rfl, rfl⟩ := H
         go_enter Tryd.func65, Tryd.ntmps65
         go_wp2
         go_ret3
         exact ⟨e2z, dz⟩
        ·rw [if_neg c9] at H
         have c9b0 : (a0.toList == ([108, 101, 115, 115] : List UInt8)) = false := beq_eq_false_iff_ne.mpr c9
         have c9b1 : (a0.toList != ([108, 101, 115, 115] : List UInt8)) = true := bne_iff_ne.mpr c9
         by_cases c10 : a0.toList = ([115, 97, 109, 101] : List UInt8)
         ·rw [if_pos c10] at H
          have c10b0 : (a0.toList == ([115, 97, 109, 101] : List UInt8)) = true := beq_iff_eq.mpr c10
          have c10b1 : (a0.toList != ([115, 97, 109, 101] : List UInt8)) = false := bne_eq_false_iff_eq.mpr c10
          clear c10
          simp only [Option.some.injEq, Prod.mk.injEq] at H
          obtain ⟨rfl, rfl, rfl⟩ := H
          go_enter Tryd.func65, Tryd.ntmps65
          go_wp2
          go_ret3
          exact ⟨e2z, dz⟩
         ·rw [if_neg c10] at H
          have c10b0 : (a0.toList == ([115, 97, 109, 101] : List UInt8)) = false := beq_eq_false_iff_ne.mpr c10
          have c10b1 : (a0.toList != ([115, 97, 109, 101] : List UInt8)) = true := bne_iff_ne.mpr c10
          by_cases c11 : a0.toList = ([112, 97, 105, 114] : List UInt8)
          ·rw [if_pos c11] at H
           have c11b0 : (a0.toList == ([112, 97, 105, 114] : List UInt8)) = true := beq_iff_eq.mpr c11
           have c11b1 : (a0.toList != ([112, 97, 105, 114] : List UInt8)) = false := bne_eq_false_iff_eq.mpr c11
           clear c11
           simp only [Option.some.injEq, Prod.mk.injEq] at H
           obtain ⟨rfl, rfl, rfl⟩ := H
           go_enter Tryd.func65, Tryd.ntmps65
           go_wp2
           go_ret3
           exact ⟨e2z, dz⟩
          ·rw [if_neg c11] at H
           have c11b0 : (a0.toList == ([112, 97, 105, 114] : List UInt8)) = false := beq_eq_false_iff_ne.mpr c11
           have c11b1 : (a0.toList != ([112, 97, 105, 114] : List UInt8)) = true := bne_iff_ne.mpr c11
           by_cases c12 : a0.toList = ([102, 115, 116] : List UInt8)
           ·rw [if_pos c12] at H
            have c12b0 : (a0.toList == ([102, 115, 116] : List UInt8)) = true := beq_iff_eq.mpr c12
            have c12b1 : (a0.toList != ([102, 115, 116] : List UInt8)) = false := bne_eq_false_iff_eq.mpr c12
            clear c12
            simp only [Option.some.injEq, Prod.mk.injEq] at H
            obtain ⟨rfl, rfl, rfl⟩ := H
            go_enter Tryd.func65, Tryd.ntmps65
            go_wp2
            go_ret3
            exact ⟨e2z, dz⟩
           ·rw [if_neg c12] at H
            have c12b0 : (a0.toList == ([102, 115, 116] : List UInt8)) = false := beq_eq_false_iff_ne.mpr c12
            have c12b1 : (a0.toList != ([102, 115, 116] : List UInt8)) = true := bne_iff_ne.mpr c12
            by_cases c13 : a0.toList = ([115, 110, 100] : List UInt8)
            ·rw [if_pos c13] at H
             have c13b0 : (a0.toList == ([115, 110, 100] : List UInt8)) = true := beq_iff_eq.mpr c13
             have c13b1 : (a0.toList != ([115, 110, 100] : List UInt8)) = false := bne_eq_false_iff_eq.mpr c13
             clear c13
             simp only [Option.some.injEq, Prod.mk.injEq] at H
             obtain ⟨rfl, rfl, rfl⟩ := H
             go_enter Tryd.func65, Tryd.ntmps65
             go_wp2
             go_ret3
             exact ⟨e2z, dz⟩
            ·rw [if_neg c13] at H
             have c13b0 : (a0.toList == ([115, 110, 100] : List UInt8)) = false := beq_eq_false_iff_ne.mpr c13
             have c13b1 : (a0.toList != ([115, 110, 100] : List UInt8)) = true := bne_iff_ne.mpr c13
             by_cases c14 : a0.toList = ([99, 111, 110, 115] : List UInt8)
             ·rw [if_pos c14] at H
              have c14b0 : (a0.toList == ([99, 111, 110, 115] : List UInt8)) = true := beq_iff_eq.mpr c14
              have c14b1 : (a0.toList != ([99, 111, 110, 115] : List UInt8)) = false := bne_eq_false_iff_eq.mpr c14
              clear c14
              simp only [Option.some.injEq, Prod.mk.injEq] at H
              obtain ⟨rfl, rfl, rfl⟩ := H
              go_enter Tryd.func65, Tryd.ntmps65
              go_wp2
              go_ret3
              exact ⟨e2z, dz⟩
             ·rw [if_neg c14] at H
              have c14b0 : (a0.toList == ([99, 111, 110, 115] : List UInt8)) = false := beq_eq_false_iff_ne.mpr c14
              have c14b1 : (a0.toList != ([99, 111, 110, 115] : List UInt8)) = true := bne_iff_ne.mpr c14
              by_cases c15 : a0.toList = ([109, 97, 116, 99, 104] : List UInt8)
              ·rw [if_pos c15] at H
               have c15b0 : (a0.toList == ([109, 97, 116, 99, 104] : List UInt8)) = true := beq_iff_eq.mpr c15
               have c15b1 : (a0.toList != ([109, 97, 116, 99, 104] : List UInt8)) = false := bne_eq_false_iff_eq.mpr c15
               clear c15
               simp only [Option.some.injEq, Prod.mk.injEq] at H
               obtain ⟨rfl, rfl, rfl⟩ := H
               go_enter Tryd.func65, Tryd.ntmps65
               go_wp2
               go_ret3
               exact ⟨e2z, dz⟩
              ·rw [if_neg c15] at H
               have c15b0 : (a0.toList == ([109, 97, 116, 99, 104] : List UInt8)) = false := beq_eq_false_iff_ne.mpr c15
               have c15b1 : (a0.toList != ([109, 97, 116, 99, 104] : List UInt8)) = true := bne_iff_ne.mpr c15
               by_cases c16 : a0.toList = ([114, 101, 102] : List UInt8)
               ·rw [if_pos c16] at H
                have c16b0 : (a0.toList == ([114, 101, 102] : List UInt8)) = true := beq_iff_eq.mpr c16
                have c16b1 : (a0.toList != ([114, 101, 102] : List UInt8)) = false := bne_eq_false_iff_eq.mpr c16
                clear c16
                simp only [Option.some.injEq, Prod.mk.injEq] at H
                obtain ⟨rfl, rfl, rfl⟩ := H
                go_enter Tryd.func65, Tryd.ntmps65
                go_wp2
                go_ret3
                exact ⟨e2z, dz⟩
               ·rw [if_neg c16] at H
                have c16b0 : (a0.toList == ([114, 101, 102] : List UInt8)) = false := beq_eq_false_iff_ne.mpr c16
                have c16b1 : (a0.toList != ([114, 101, 102] : List UInt8)) = true := bne_iff_ne.mpr c16
                by_cases c17 : a0.toList = ([103, 101, 116] : List UInt8)
                ·rw [if_pos c17] at H
                 have c17b0 : (a0.toList == ([103, 101, 116] : List UInt8)) = true := beq_iff_eq.mpr c17
                 have c17b1 : (a0.toList != ([103, 101, 116] : List UInt8)) = false := bne_eq_false_iff_eq.mpr c17
                 clear c17
                 simp only [Option.some.injEq, Prod.mk.injEq] at H
                 obtain ⟨rfl, rfl, rfl⟩ := H
                 go_enter Tryd.func65, Tryd.ntmps65
                 go_wp2
                 go_ret3
                 exact ⟨e2z, dz⟩
                ·rw [if_neg c17] at H
                 have c17b0 : (a0.toList == ([103, 101, 116] : List UInt8)) = false := beq_eq_false_iff_ne.mpr c17
                 have c17b1 : (a0.toList != ([103, 101, 116] : List UInt8)) = true := bne_iff_ne.mpr c17
                 by_cases c18 : a0.toList = ([115, 101, 116] : List UInt8)
                 ·rw [if_pos c18] at H
                  have c18b0 : (a0.toList == ([115, 101, 116] : List UInt8)) = true := beq_iff_eq.mpr c18
                  have c18b1 : (a0.toList != ([115, 101, 116] : List UInt8)) = false := bne_eq_false_iff_eq.mpr c18
                  clear c18
                  simp only [Option.some.injEq, Prod.mk.injEq] at H
                  obtain ⟨rfl, rfl, rfl⟩ := H
                  go_enter Tryd.func65, Tryd.ntmps65
                  go_wp2
                  go_ret3
                  exact ⟨e2z, dz⟩
                 ·rw [if_neg c18] at H
                  have c18b0 : (a0.toList == ([115, 101, 116] : List UInt8)) = false := beq_eq_false_iff_ne.mpr c18
                  have c18b1 : (a0.toList != ([115, 101, 116] : List UInt8)) = true := bne_iff_ne.mpr c18
                  by_cases c19 : a0.toList = ([114, 97, 105, 115, 101] : List UInt8)
                  ·rw [if_pos c19] at H
                   have c19b0 : (a0.toList == ([114, 97, 105, 115, 101] : List UInt8)) = true := beq_iff_eq.mpr c19
                   have c19b1 : (a0.toList != ([114, 97, 105, 115, 101] : List UInt8)) = false := bne_eq_false_iff_eq.mpr c19
                   clear c19
                   simp only [Option.some.injEq, Prod.mk.injEq] at H
                   obtain ⟨rfl, rfl, rfl⟩ := H
                   go_enter Tryd.func65, Tryd.ntmps65
                   go_wp2
                   go_ret3
                   exact ⟨e2z, dz⟩
                  ·rw [if_neg c19] at H
                   have c19b0 : (a0.toList == ([114, 97, 105, 115, 101] : List UInt8)) = false := beq_eq_false_iff_ne.mpr c19
                   have c19b1 : (a0.toList != ([114, 97, 105, 115, 101] : List UInt8)) = true := bne_iff_ne.mpr c19
                   by_cases c20 : a0.toList = ([116, 114, 121] : List UInt8)
                   ·rw [if_pos c20] at H
                    have c20b0 : (a0.toList == ([116, 114, 121] : List UInt8)) = true := beq_iff_eq.mpr c20
                    have c20b1 : (a0.toList != ([116, 114, 121] : List UInt8)) = false := bne_eq_false_iff_eq.mpr c20
                    clear c20
                    simp only [Option.some.injEq, Prod.mk.injEq] at H
                    obtain ⟨rfl, rfl, rfl⟩ := H
                    go_enter Tryd.func65, Tryd.ntmps65
                    go_wp2
                    go_ret3
                    exact ⟨e2z, dz⟩
                   ·rw [if_neg c20] at H
                    have c20b0 : (a0.toList == ([116, 114, 121] : List UInt8)) = false := beq_eq_false_iff_ne.mpr c20
                    have c20b1 : (a0.toList != ([116, 114, 121] : List UInt8)) = true := bne_iff_ne.mpr c20
                    simp only [Option.some.injEq, Prod.mk.injEq] at H
                    obtain ⟨rfl, rfl, rfl⟩ := H
                    go_enter Tryd.func65, Tryd.ntmps65
                    go_wp2
                    go_ret3
                    exact ⟨e2z, dz⟩
end Go.Proofs.YtmilegjmiiccdaaDoor.PFnExactPrintPart
