/- PFnExactUnlexx1, of the words and walks that the law FnExactUnlex needs; made by this session's program out of printed texts. -/

import Derived.Test.YtlhofeikcaejpaaVEUnlexPx0
namespace Go.Proofs.Ytlhofeikcaejpaa.PFnExactUnlex
open Go.RowKit Go.Proofs.YtlhofeikcaejpaaW.PrintWords Go.Proofs.YtlhofeikcaejpaaW.PrintLast Go.Proofs.YtlhofeikcaejpaaW.PrintMore
attribute [local go_sem] max2_int min2_int max_two min_two max_three min_three max_four min_four
set_option linter.unusedVariables false
set_option linter.unusedSimpArgs false
def laws_szToken.f (a0_0 : Int) (a0_1 : ByteArray) (a0_2 : Int) (a0_3 : Int) (a1 : Int) : Option (Int) := if (wrap64 (a1 - (a0_1.size : Int))) < 0 then (some (-1)) else (some (wrap64 (a1 - (a0_1.size : Int))))
set_option maxHeartbeats 8000000 in
set_option maxRecDepth 100000 in
theorem laws_szToken.calls (a0_0 : Int) (a0_1 : ByteArray) (a0_2 : Int) (a0_3 : Int) (a1 : Int) (r : Int) (w : World) (h : laws_szToken.f a0_0 a0_1 a0_2 a0_3 a1 = some r) :
  Calls Try.prog 27 #[.agg #[.int .i64 a0_0, .string a0_1, .int .i64 a0_2, .int .i64 a0_3], .int .i64 a1] w fun e w' => e = .returned (.int .i64 r) /\ Below w.heap.size w w' := by
 have hu67 := Try.underlying67
 have HB := Aside0.mk (Below.refl w.heap.size w)
 have H : (if (wrap64 (a1 - (a0_1.size : Int))) < 0 then (some (-1)) else (some (wrap64 (a1 - (a0_1.size : Int))))) = some r := h
 clear h
 by_cases c3 : (wrap64 (a1 - (a0_1.size : Int))) < 0
 ·rw [if_pos c3] at H
  have c3b0 := decide_eq_true c3
  clear c3
  obtain rfl := Option.some.inj H
  go_enter Try.func27, Try.ntmps27
  go_wp2_with (first | ((with_reducible refine gate_dst (N := 2) rfl ?_); refine box_event ?hg (N := 2) ?hd (cs := #[.int .i64 a0_0, .string a0_1, .int .i64 a0_2, .int .i64 a0_3]) (t := 67) ?hr ?_; (case hd => rfl); (case hg => rfl); (case hr => exact vz); intro gb101 hg w4 hbox hb; have BK101 := Aside0.mk (hbox); have GW101 := Aside0.mk ((by rw [hg]; exact (below_size (bz0 HB.out)) : w.heap.size <= gb101)); have GE101 := Aside0.mk ((by rw [hg]; exact (below_size (bz0 HB.out)) : w.heap.size <= gb101)); replace HB := Aside0.mk (below_step (bz0 HB.out) hb); clear hb hbox hg; obtain ⟨hcz5_0, hcz5_1, hcz5_2, hcz5_3⟩ := cz4 BK101.out; obtain ⟨hfz5_0, hfz5_1, hfz5_2, hfz5_3⟩ := fz4 BK101.out))
  go_ret
  exact ⟨gz, (bz1 HB.out GE101.out)⟩
 ·rw [if_neg c3] at H
  have c3b0 := decide_eq_false c3
  clear c3
  obtain rfl := Option.some.inj H
  go_enter Try.func27, Try.ntmps27
  go_wp2_with (first | ((with_reducible refine gate_dst (N := 2) rfl ?_); refine box_event ?hg (N := 2) ?hd (cs := #[.int .i64 a0_0, .string a0_1, .int .i64 a0_2, .int .i64 a0_3]) (t := 67) ?hr ?_; (case hd => rfl); (case hg => rfl); (case hr => exact vz); intro gb101 hg w6 hbox hb; have BK101 := Aside0.mk (hbox); have GW101 := Aside0.mk ((by rw [hg]; exact (below_size (bz0 HB.out)) : w.heap.size <= gb101)); have GE101 := Aside0.mk ((by rw [hg]; exact (below_size (bz0 HB.out)) : w.heap.size <= gb101)); replace HB := Aside0.mk (below_step (bz0 HB.out) hb); clear hb hbox hg; obtain ⟨hcz7_0, hcz7_1, hcz7_2, hcz7_3⟩ := cz4 BK101.out; obtain ⟨hfz7_0, hfz7_1, hfz7_2, hfz7_3⟩ := fz4 BK101.out))
  go_ret
  exact ⟨gz, (bz1 HB.out GE101.out)⟩
def laws_szTokenS.l0 : Nat -> List (S67) -> Int -> Int -> Option (Int)
 | 0, _, _, _ => none
 | k + 1, x0, x1, x5 => if x5 < (x0.length : Int) then (if 0 <= x5 then ((laws_szToken.f ((rd_T67 x0 x5).f0) ((rd_T67 x0 x5).f1) ((rd_T67 x0 x5).f2) ((rd_T67 x0 x5).f3) x1).bind fun t103 => (if t103 < 0 then (some (-1)) else (laws_szTokenS.l0 k x0 t103 (wrap64 (x5 + 1))))) else (none)) else (some x1)
def laws_szTokenS.f (k : Nat) (l0 : List (S67)) (a1 : Int) : Option (Int) := if (wrap64 (a1 - (l0.length : Int))) < 0 then (some (-1)) else (laws_szTokenS.l0 k l0 (wrap64 (a1 - (l0.length : Int))) 0)
theorem laws_szTokenS.mono_l : ∀ k, (∀ y0 y1 y2, LeO (laws_szTokenS.l0 k y0 y1 y2) (laws_szTokenS.l0 (k + 1) y0 y1 y2))
 | 0 => fun _ _ _ r h => by simp [laws_szTokenS.l0] at h
 | k + 1 => by
  have ih0 := laws_szTokenS.mono_l k
  ·intro y0 y1 y2
   unfold laws_szTokenS.l0
   with_reducible repeat' first | exact ih0 _ _ _ | exact lrz _ | exact lnz _ | refine liz ?_ ?_ | refine lbz ?_ fun _ => ?_
theorem laws_szTokenS.mono : ∀ a0 a1 k, LeO (laws_szTokenS.f k a0 a1) (laws_szTokenS.f (k + 1) a0 a1) := by
 intro a0 a1 k
 have ih0 := laws_szTokenS.mono_l k
 unfold laws_szTokenS.f
 with_reducible repeat' first | exact ih0 _ _ _ | exact lrz _ | exact lnz _ | refine liz ?_ ?_ | refine lbz ?_ fun _ => ?_
set_option maxHeartbeats 8000000 in
set_option maxRecDepth 100000 in
theorem laws_szTokenS.calls (k : Nat) (A0 : Option Addr) (c0 : Nat) (l0 : List (S67)) (a1 : Int) (r : Int) (w : World) (hr0 : Kd.C k67 w A0 l0.length l0) (hc0 : l0.length <= c0) (h : laws_szTokenS.f k l0 a1 = some r) :
  Calls Try.prog 13 #[.slice A0 l0.length c0, .int .i64 a1] w fun e w' => e = .returned (.int .i64 r) /\ Below w.heap.size w w' := by
 have hu67 := Try.underlying67
 have HR0 := Aside0.mk hr0
 have HC0 := Aside0.mk hc0
 clear hr0 hc0
 have HB := Aside0.mk (Below.refl w.heap.size w)
 have H : (if (wrap64 (a1 - (l0.length : Int))) < 0 then (some (-1)) else (laws_szTokenS.l0 k l0 (wrap64 (a1 - (l0.length : Int))) 0)) = some r := h
 clear h
 by_cases c3 : (wrap64 (a1 - (l0.length : Int))) < 0
 ·rw [if_pos c3] at H
  have c3b0 := decide_eq_true c3
  clear c3
  obtain rfl := Option.some.inj H
  go_enter Try.func13, Try.ntmps13
  go_wp2
  go_ret
  exact ⟨gz, (bz0 HB.out)⟩
 ·rw [if_neg c3] at H
  have c3b0 := decide_eq_false c3
  clear c3
  have H' := Aside0.mk H
  clear H
  go_enter Try.func13, Try.ntmps13
  go_wp2
  go_loopg [1, 5] k (fun kq v1 v5 w' => ∃ (x1_1 : Int) (x5_1 : Int), v1 = .int .i64 x1_1 /\ v5 = .int .i64 x5_1 /\ Aside0 (laws_szTokenS.l0 kq l0 x1_1 x5_1 = some r) /\ Aside0 (kq <= k) /\ Aside0 (Below w.heap.size w w'))
  case atStart => exact ⟨(wrap64 (a1 - (l0.length : Int))), (0), ez, ez, H', ⟨Nat.le_refl _⟩, ⟨(bz0 HB.out)⟩⟩
  case round =>
   clear H'
   try clear c1
   try clear p2
   try clear c3
   try clear c3b0
   obtain ⟨x1_1, x5_1, rfl, rfl, HA, HK1, HB⟩ := hrel
   cases gk with
   | zero => exact absurd HA.out (by simp [laws_szTokenS.l0])
   | succ k1 =>
    have H := HA.out
    clear HA
    simp only [laws_szTokenS.l0] at H
    by_cases c4 : x5_1 < (l0.length : Int)
    ·rw [if_pos c4] at H
     have c4b0 := decide_eq_true c4
     clear c4
     replace H := iz H
     obtain ⟨c5, H⟩ := H
     have c5b0 := decide_eq_true c5
     clear c5
     replace H := bi H
     obtain ⟨t103, A60, H⟩ := H
     try dsimp only at H
     have A6 := Aside0.mk A60
     clear A60
     by_cases c7 : t103 < 0
     ·rw [if_pos c7] at H
      have c7b0 := decide_eq_true c7
      clear c7
      obtain rfl := Option.some.inj H
      have p102 : 0 <= (x5_1 : Int) := oz
      have q102 : x5_1 < (l0.length : Int) := oz
      obtain ⟨ad102, e102, hx102_0, hx102_1, hx102_2, hx102_3⟩ := at_T67 (Kd.C_below HR0.out HB.out) x5_1 p102 q102
      cases e102
      replace p102 := eq_true p102
      replace q102 := eq_true q102
      go_wp2_with (first | ((with_reducible refine gate_callee (f := 27) rfl ?_); refine goesL_ (some 23) rfl rfl Try.func27 (by kernel_rfl) rfl #[.agg #[.int .i64 ((rd_T67 l0 x5_1).f0), .string ((rd_T67 l0 x5_1).f1), .int .i64 ((rd_T67 l0 x5_1).f2), .int .i64 ((rd_T67 l0 x5_1).f3)], .int .i64 x1_1] rfl lz ?_; (with_reducible refine (laws_szToken.calls ((rd_T67 l0 x5_1).f0) ((rd_T67 l0 x5_1).f1) ((rd_T67 l0 x5_1).f2) ((rd_T67 l0 x5_1).f3) x1_1 t103 _ A6.out).mono ?_); rintro e w8 ⟨rfl, hb⟩; refine ⟨_, rfl, ?_⟩; replace HB := Aside0.mk (below_step (bz0 HB.out) hb); (try clear hb); (try clear hi)))
      go_ret
      exact ⟨gz, (bz0 HB.out)⟩
     ·rw [if_neg c7] at H
      have c7b0 := decide_eq_false c7
      clear c7
      have H' := Aside0.mk H
      clear H
      have p102 : 0 <= (x5_1 : Int) := oz
      have q102 : x5_1 < (l0.length : Int) := oz
      obtain ⟨ad102, e102, hx102_0, hx102_1, hx102_2, hx102_3⟩ := at_T67 (Kd.C_below HR0.out HB.out) x5_1 p102 q102
      cases e102
      replace p102 := eq_true p102
      replace q102 := eq_true q102
      go_wp2_with (first | ((with_reducible refine gate_callee (f := 27) rfl ?_); refine goesL_ (some 23) rfl rfl Try.func27 (by kernel_rfl) rfl #[.agg #[.int .i64 ((rd_T67 l0 x5_1).f0), .string ((rd_T67 l0 x5_1).f1), .int .i64 ((rd_T67 l0 x5_1).f2), .int .i64 ((rd_T67 l0 x5_1).f3)], .int .i64 x1_1] rfl lz ?_; (with_reducible refine (laws_szToken.calls ((rd_T67 l0 x5_1).f0) ((rd_T67 l0 x5_1).f1) ((rd_T67 l0 x5_1).f2) ((rd_T67 l0 x5_1).f3) x1_1 t103 _ A6.out).mono ?_); rintro e w9 ⟨rfl, hb⟩; refine ⟨_, rfl, ?_⟩; replace HB := Aside0.mk (below_step (bz0 HB.out) hb); (try clear hb); (try clear hi)))
      go_roundg k1
      case measure => have := HK1.out; omega
      case rel => exact ⟨(t103), (wrap64 (x5_1 + 1)), ez, ez, H', ⟨by have := HK1.out; omega⟩, ⟨(bz0 HB.out)⟩⟩
    ·rw [if_neg c4] at H
     have c4b0 := decide_eq_false c4
     clear c4
     obtain rfl := Option.some.inj H
     go_wp2
     go_ret
     exact ⟨gz, (bz0 HB.out)⟩
mutual
def spec_Unlex.l0 : Nat -> List (S68) -> ByteArray -> Int -> Option (ByteArray)
 | 0, _, _, _ => none
 | k + 1, x0, x3, x4 => if x4 < (x0.length : Int) then (spec_Unlex.j1 k x0 x3 x4 (decide (x4 < 4000))) else (spec_Unlex.j1 k x0 x3 x4 false)
def spec_Unlex.j1 : Nat -> List (S68) -> ByteArray -> Int -> Bool -> Option (ByteArray)
 | 0, _, _, _, _ => none
 | k + 1, x0, x3, x4, x12 => if x12 = true then (if x4 > 0 then (if 0 <= (wrap64 (x4 - 1)) then (if (wrap64 (x4 - 1)) < (x0.length : Int) then (if ((rd_T68 x0 (wrap64 (x4 - 1))).f0) = 1 then (if 0 <= x4 then (if x4 < (x0.length : Int) then (if x3.size + ((rd_T68 x0 x4).f1).size <= 9223372036854775807 then (spec_Unlex.l0 k x0 (x3 ++ ((rd_T68 x0 x4).f1)) (wrap64 (x4 + 1))) else (none)) else (none)) else (none)) else (if 0 <= x4 then (if x4 < (x0.length : Int) then (if ((rd_T68 x0 x4).f0) = 2 then (if x3.size + ((rd_T68 x0 x4).f1).size <= 9223372036854775807 then (spec_Unlex.l0 k x0 (x3 ++ ((rd_T68 x0 x4).f1)) (wrap64 (x4 + 1))) else (none)) else (if x3.size + 1 <= 9223372036854775807 then (if (x3 ++ (⟨#[32]⟩ : ByteArray)).size + ((rd_T68 x0 x4).f1).size <= 9223372036854775807 then (spec_Unlex.l0 k x0 ((x3 ++ (⟨#[32]⟩ : ByteArray)) ++ ((rd_T68 x0 x4).f1)) (wrap64 (x4 + 1))) else (none)) else (none))) else (none)) else (none))) else (none)) else (none)) else (if 0 <= x4 then (if x4 < (x0.length : Int) then (if x3.size + ((rd_T68 x0 x4).f1).size <= 9223372036854775807 then (spec_Unlex.l0 k x0 (x3 ++ ((rd_T68 x0 x4).f1)) (wrap64 (x4 + 1))) else (none)) else (none)) else (none))) else (some x3)
end
def spec_Unlex.f (k : Nat) (l0 : List (S68)) : Option (ByteArray) := spec_Unlex.l0 k l0 (⟨#[]⟩ : ByteArray) 0
theorem spec_Unlex.mono_l : ∀ k, (∀ y0 y1 y2, LeO (spec_Unlex.l0 k y0 y1 y2) (spec_Unlex.l0 (k + 1) y0 y1 y2)) /\ (∀ y0 y1 y2 y3, LeO (spec_Unlex.j1 k y0 y1 y2 y3) (spec_Unlex.j1 (k + 1) y0 y1 y2 y3))
 | 0 => ⟨fun _ _ _ r h => by simp [spec_Unlex.l0] at h, fun _ _ _ _ r h => by simp [spec_Unlex.j1] at h⟩
 | k + 1 => by
  obtain ⟨ih0, ih1⟩ := spec_Unlex.mono_l k
  refine ⟨?_, ?_⟩
  ·intro y0 y1 y2
   unfold spec_Unlex.l0
   with_reducible repeat' first | exact ih0 _ _ _ | exact ih1 _ _ _ _ | exact lrz _ | exact lnz _ | refine liz ?_ ?_ | refine lbz ?_ fun _ => ?_
  ·intro y0 y1 y2 y3
   unfold spec_Unlex.j1
   with_reducible repeat' first | exact ih0 _ _ _ | exact ih1 _ _ _ _ | exact lrz _ | exact lnz _ | refine liz ?_ ?_ | refine lbz ?_ fun _ => ?_
theorem spec_Unlex.mono : ∀ a0 k, LeO (spec_Unlex.f k a0) (spec_Unlex.f (k + 1) a0) := by
 intro a0 k
 obtain ⟨ih0, ih1⟩ := spec_Unlex.mono_l k
 unfold spec_Unlex.f
 with_reducible repeat' first | exact ih0 _ _ _ | exact ih1 _ _ _ _ | exact lrz _ | exact lnz _ | refine liz ?_ ?_ | refine lbz ?_ fun _ => ?_
set_option maxHeartbeats 8000000 in
set_option maxRecDepth 100000 in
theorem spec_Unlex.calls (k : Nat) (A0 : Option Addr) (c0 : Nat) (l0 : List (S68)) (r : ByteArray) (w : World) (hr0 : Kd.C k68 w A0 l0.length l0) (hc0 : l0.length <= c0) (h : spec_Unlex.f k l0 = some r) :
  Calls Try.prog 14 #[.slice A0 l0.length c0] w fun e w' => e = .returned (.string r) /\ Drawn0 w w' := by
 have HR0 := Aside0.mk hr0
 have HC0 := Aside0.mk hc0
 clear hr0 hc0
 have H : (spec_Unlex.l0 k l0 (⟨#[]⟩ : ByteArray) 0) = some r := h
 clear h
 have H' := Aside0.mk H
 clear H
 go_enter Try.func14, Try.ntmps14
 go_wp2
 go_loopg [3, 4] k (fun kq v3 v4 w' => ∃ (x3_1 : ByteArray) (x4_1 : Int), v3 = .string x3_1 /\ v4 = .int .i64 x4_1 /\ Aside0 (spec_Unlex.l0 kq l0 x3_1 x4_1 = some r) /\ Aside0 (kq <= k) /\ Drawn0 w w')
 case atStart => exact ⟨((⟨#[]⟩ : ByteArray)), (0), ez, ez, H', ⟨Nat.le_refl _⟩, dz⟩
 case round =>
  clear H'
  try clear c1
  obtain ⟨x3_1, x4_1, rfl, rfl, HA, HK1, ⟨m1, rfl⟩⟩ := hrel
  cases gk with
  | zero => exact absurd HA.out (by simp [spec_Unlex.l0])
  | succ k1 =>
   have H := HA.out
   clear HA
   simp only [spec_Unlex.l0] at H
   have HC2 := Aside0.mk H
   clear H
   go_upto_region 3 with (fail)
   go_cut [12] (fun v12 wc => ∃ (kq : Nat) (x12_1 : Bool), v12 = .bool x12_1 /\ Aside0 (spec_Unlex.j1 kq l0 x3_1 x4_1 x12_1 = some r) /\ Aside0 (kq <= k1) /\ Drawn0 w wc)
   case first =>
    have H := HC2.out
    clear HC2
    by_cases c3 : x4_1 < (l0.length : Int)
    ·rw [if_pos c3] at H
     have c3b0 := decide_eq_true c3
     clear c3
     (first | rw [c3b0] | (simp only [i64_w, i32_w]; rw [c3b0]) | skip)
     have H' := Aside0.mk H
     clear H
     go_wp2
     go_meet
     case rel => exact ⟨_, (decide (x4_1 < 4000)), ez, H', ⟨by have := HK1.out; first | omega | exact Nat.le_refl _⟩, dz⟩
    ·rw [if_neg c3] at H
     have c3b0 := decide_eq_false c3
     clear c3
     (first | rw [c3b0] | (simp only [i64_w, i32_w]; rw [c3b0]) | skip)
     have H' := Aside0.mk H
     clear H
     go_wp2
     go_meet
     case rel => exact ⟨_, (false), ez, H', ⟨by have := HK1.out; first | omega | exact Nat.le_refl _⟩, dz⟩
   case rest =>
    clear HC2
    try clear c1
    try clear p2
    try clear c3
    try clear c3b0
    obtain ⟨kq, x12_1, rfl, HA, HJ1, ⟨mc1, rfl⟩⟩ := hcut
    cases kq with
    | zero => exact absurd HA.out (by simp [spec_Unlex.j1])
    | succ kj1 =>
     have H := HA.out
     clear HA
     simp only [spec_Unlex.j1] at H
     by_cases c4 : x12_1 = true
     ·subst c4
      have H1 := hp H
      clear H
      have H := H1
      clear H1
      by_cases c5 : x4_1 > 0
      ·rw [if_pos c5] at H
       have c5b0 : decide (0 < x4_1) = true := decide_eq_true c5
       clear c5
       obtain ⟨ji6, hji6⟩ : ∃ j_ : Int, (wrap64 (x4_1 - 1)) = j_ := ⟨_, rfl⟩
       replace H : (if 0 <= (ji6) then (if (ji6) < (l0.length : Int) then (if ((rd_T68 l0 (ji6)).f0) = 1 then (if 0 <= x4_1 then (if x4_1 < (l0.length : Int) then (if x3_1.size + ((rd_T68 l0 x4_1).f1).size <= 9223372036854775807 then (spec_Unlex.l0 kj1 l0 (x3_1 ++ ((rd_T68 l0 x4_1).f1)) (wrap64 (x4_1 + 1))) else (none)) else (none)) else (none)) else (if 0 <= x4_1 then (if x4_1 < (l0.length : Int) then (if ((rd_T68 l0 x4_1).f0) = 2 then (if x3_1.size + ((rd_T68 l0 x4_1).f1).size <= 9223372036854775807 then (spec_Unlex.l0 kj1 l0 (x3_1 ++ ((rd_T68 l0 x4_1).f1)) (wrap64 (x4_1 + 1))) else (none)) else (if x3_1.size + 1 <= 9223372036854775807 then (if (x3_1 ++ (⟨#[32]⟩ : ByteArray)).size + ((rd_T68 l0 x4_1).f1).size <= 9223372036854775807 then (spec_Unlex.l0 kj1 l0 ((x3_1 ++ (⟨#[32]⟩ : ByteArray)) ++ ((rd_T68 l0 x4_1).f1)) (wrap64 (x4_1 + 1))) else (none)) else (none))) else (none)) else (none))) else (none)) else (none)) = some r := by first | (rw [hji6] at H; exact H) | (simp only [hji6] at H ⊢; exact H)
       have hji6w : (IntKind.i64.wrap (x4_1 - 1)) = ji6 := (i64_w _).trans hji6
       replace H := iz H
       obtain ⟨c7, H⟩ := H
       have c7b0 := decide_eq_true c7
       clear c7
       replace H := iz H
       obtain ⟨c8, H⟩ := H
       have c8b0 := decide_eq_true c8
       clear c8
       by_cases c9 : ((rd_T68 l0 (ji6)).f0) = 1
       ·rw [if_pos c9] at H
        have c9b0 : (((rd_T68 l0 (ji6)).f0) == 1) = true := beq_iff_eq.mpr c9
        have c9b1 : (((rd_T68 l0 (ji6)).f0) != 1) = false := bne_eq_false_iff_eq.mpr c9
        clear c9
        replace H := iz H
        obtain ⟨c10, H⟩ := H
        have c10b0 := decide_eq_true c10
        clear c10
        replace H := iz H
        obtain ⟨c11, H⟩ := H
        have c11b0 := decide_eq_true c11
        clear c11
        replace H := iz H
        obtain ⟨c12, H⟩ := H
        have c12b0 := eq_true c12
        have c12b1 : decide (x3_1.size + ((rd_T68 l0 x4_1).f1).size <= 9223372036854775807) = true := decide_eq_true c12
        try have c12b2 : (9223372036854775807 < x3_1.size + ((rd_T68 l0 x4_1).f1).size) = False := eq_false (Nat.not_lt.2 c12)
        have H' := Aside0.mk H
        clear H
        have p104 : 0 <= ((ji6) : Int) := oz
        have q104 : (ji6) < (l0.length : Int) := oz
        obtain ⟨ad104, e104, hx104_0, hx104_1, hx104_2, hx104_3⟩ := at_T68 HR0.out (ji6) p104 q104
        cases e104
        replace p104 := eq_true p104
        replace q104 := eq_true q104
        have p105 : 0 <= (x4_1 : Int) := oz
        have q105 : x4_1 < (l0.length : Int) := oz
        obtain ⟨ad105, e105, hx105_0, hx105_1, hx105_2, hx105_3⟩ := at_T68 HR0.out x4_1 p105 q105
        obtain rfl : ad104 = ad105 := (by injection e105)
        replace p105 := eq_true p105
        replace q105 := eq_true q105
        go_wp2
        go_roundg kj1
        case measure => have := HK1.out; have := HJ1.out; omega
        case rel => exact ⟨(x3_1 ++ ((rd_T68 l0 x4_1).f1)), (wrap64 (x4_1 + 1)), ez, ez, H', ⟨by have := HK1.out; have := HJ1.out; omega⟩, dz⟩
       ·rw [if_neg c9] at H
        have c9b0 : (((rd_T68 l0 (ji6)).f0) == 1) = false := beq_eq_false_iff_ne.mpr c9
        have c9b1 : (((rd_T68 l0 (ji6)).f0) != 1) = true := bne_iff_ne.mpr c9
        replace H := iz H
        obtain ⟨c13, H⟩ := H
        have c13b0 := decide_eq_true c13
        clear c13
        replace H := iz H
        obtain ⟨c14, H⟩ := H
        have c14b0 := decide_eq_true c14
        clear c14
        by_cases c15 : ((rd_T68 l0 x4_1).f0) = 2
        ·rw [if_pos c15] at H
         have c15b0 : (((rd_T68 l0 x4_1).f0) == 2) = true := beq_iff_eq.mpr c15
         have c15b1 : (((rd_T68 l0 x4_1).f0) != 2) = false := bne_eq_false_iff_eq.mpr c15
         clear c15
         replace H := iz H
         obtain ⟨c16, H⟩ := H
         have c16b0 := eq_true c16
         have c16b1 : decide (x3_1.size + ((rd_T68 l0 x4_1).f1).size <= 9223372036854775807) = true := decide_eq_true c16
         try have c16b2 : (9223372036854775807 < x3_1.size + ((rd_T68 l0 x4_1).f1).size) = False := eq_false (Nat.not_lt.2 c16)
         have H' := Aside0.mk H
         clear H
         have p104 : 0 <= ((ji6) : Int) := oz
         have q104 : (ji6) < (l0.length : Int) := oz
         obtain ⟨ad104, e104, hx104_0, hx104_1, hx104_2, hx104_3⟩ := at_T68 HR0.out (ji6) p104 q104
         cases e104
         replace p104 := eq_true p104
         replace q104 := eq_true q104
         have p106 : 0 <= (x4_1 : Int) := oz
         have q106 : x4_1 < (l0.length : Int) := oz
         obtain ⟨ad106, e106, hx106_0, hx106_1, hx106_2, hx106_3⟩ := at_T68 HR0.out x4_1 p106 q106
         obtain rfl : ad104 = ad106 := (by injection e106)
         replace p106 := eq_true p106
         replace q106 := eq_true q106
         have p107 : 0 <= (x4_1 : Int) := oz
         have q107 : x4_1 < (l0.length : Int) := oz
         obtain ⟨ad107, e107, hx107_0, hx107_1, hx107_2, hx107_3⟩ := at_T68 HR0.out x4_1 p107 q107
         obtain rfl : ad104 = ad107 := (by injection e107)
         replace p107 := eq_true p107
         replace q107 := eq_true q107
         go_wp2
         go_roundg kj1
         case measure => have := HK1.out; have := HJ1.out; omega
         case rel => exact ⟨(x3_1 ++ ((rd_T68 l0 x4_1).f1)), (wrap64 (x4_1 + 1)), ez, ez, H', ⟨by have := HK1.out; have := HJ1.out; omega⟩, dz⟩
        ·rw [if_neg c15] at H
         have c15b0 : (((rd_T68 l0 x4_1).f0) == 2) = false := beq_eq_false_iff_ne.mpr c15
         have c15b1 : (((rd_T68 l0 x4_1).f0) != 2) = true := bne_iff_ne.mpr c15
         replace H := iz H
         obtain ⟨c17, H⟩ := H
         have c17b0 := eq_true c17
         have c17b1 : decide (x3_1.size + 1 <= 9223372036854775807) = true := decide_eq_true c17
         try have c17b2 : (9223372036854775807 < x3_1.size + 1) = False := eq_false (Nat.not_lt.2 c17)
         replace H := iz H
         obtain ⟨c18, H⟩ := H
         have c18b0 := eq_true c18
         have c18b1 : decide ((x3_1 ++ (⟨#[32]⟩ : ByteArray)).size + ((rd_T68 l0 x4_1).f1).size <= 9223372036854775807) = true := decide_eq_true c18
         try have c18b2 : (9223372036854775807 < (x3_1 ++ (⟨#[32]⟩ : ByteArray)).size + ((rd_T68 l0 x4_1).f1).size) = False := eq_false (Nat.not_lt.2 c18)
         (try (have c18b2z := c18b2; simp only [ByteArray.size_append, show (⟨#[32]⟩ : ByteArray).size = 1 from rfl] at c18b2z))
         have H' := Aside0.mk H
         clear H
         have p104 : 0 <= ((ji6) : Int) := oz
         have q104 : (ji6) < (l0.length : Int) := oz
         obtain ⟨ad104, e104, hx104_0, hx104_1, hx104_2, hx104_3⟩ := at_T68 HR0.out (ji6) p104 q104
         cases e104
         replace p104 := eq_true p104
         replace q104 := eq_true q104
         have p106 : 0 <= (x4_1 : Int) := oz
         have q106 : x4_1 < (l0.length : Int) := oz
         obtain ⟨ad106, e106, hx106_0, hx106_1, hx106_2, hx106_3⟩ := at_T68 HR0.out x4_1 p106 q106
         obtain rfl : ad104 = ad106 := (by injection e106)
         replace p106 := eq_true p106
         replace q106 := eq_true q106
         have p108 : 0 <= (x4_1 : Int) := oz
         have q108 : x4_1 < (l0.length : Int) := oz
         obtain ⟨ad108, e108, hx108_0, hx108_1, hx108_2, hx108_3⟩ := at_T68 HR0.out x4_1 p108 q108
         obtain rfl : ad104 = ad108 := (by injection e108)
         replace p108 := eq_true p108
         replace q108 := eq_true q108
         go_wp2
         go_roundg kj1
         case measure => have := HK1.out; have := HJ1.out; omega
         case rel => exact ⟨((x3_1 ++ (⟨#[32]⟩ : ByteArray)) ++ ((rd_T68 l0 x4_1).f1)), (wrap64 (x4_1 + 1)), ez, ez, H', ⟨by have := HK1.out; have := HJ1.out; omega⟩, dz⟩
      ·rw [if_neg c5] at H
       have c5b0 : decide (0 < x4_1) = false := decide_eq_false c5
       clear c5
       replace H := iz H
       obtain ⟨c19, H⟩ := H
       have c19b0 := decide_eq_true c19
       clear c19
       replace H := iz H
       obtain ⟨c20, H⟩ := H
       have c20b0 := decide_eq_true c20
       clear c20
       replace H := iz H
       obtain ⟨c21, H⟩ := H
       have c21b0 := eq_true c21
       have c21b1 : decide (x3_1.size + ((rd_T68 l0 x4_1).f1).size <= 9223372036854775807) = true := decide_eq_true c21
       try have c21b2 : (9223372036854775807 < x3_1.size + ((rd_T68 l0 x4_1).f1).size) = False := eq_false (Nat.not_lt.2 c21)
       have H' := Aside0.mk H
       clear H
       have p109 : 0 <= (x4_1 : Int) := oz
       have q109 : x4_1 < (l0.length : Int) := oz
       obtain ⟨ad109, e109, hx109_0, hx109_1, hx109_2, hx109_3⟩ := at_T68 HR0.out x4_1 p109 q109
       cases e109
       replace p109 := eq_true p109
       replace q109 := eq_true q109
       go_wp2
       go_roundg kj1
       case measure => have := HK1.out; have := HJ1.out; omega
       case rel => exact ⟨(x3_1 ++ ((rd_T68 l0 x4_1).f1)), (wrap64 (x4_1 + 1)), ez, ez, H', ⟨by have := HK1.out; have := HJ1.out; omega⟩, dz⟩
     ·replace c4 := Bool.eq_false_iff.mpr c4
      subst c4
      have H1 := hq H
      clear H
      have H := H1
      clear H1
      obtain rfl := Option.some.inj H
      go_wp2
      go_ret
      exact ⟨e2z, dz⟩
def laws_toToken.f (a0_0 : Int) (a0_1 : ByteArray) (a0_2 : Int) (a0_3 : Int) : Option (Int × ByteArray × Int × Int) := some (a0_0, a0_1, a0_2, a0_3)
set_option maxHeartbeats 8000000 in
set_option maxRecDepth 100000 in
theorem laws_toToken.calls (a0_0 : Int) (a0_1 : ByteArray) (a0_2 : Int) (a0_3 : Int) (r1 : Int) (r2 : ByteArray) (r3 : Int) (r4 : Int) (w : World) (h : laws_toToken.f a0_0 a0_1 a0_2 a0_3 = some (r1, r2, r3, r4)) :
  Calls Try.prog 28 #[.agg #[.int .i64 a0_0, .string a0_1, .int .i64 a0_2, .int .i64 a0_3]] w fun e w' => e = .returned (.agg #[.int .i64 r1, .string r2, .int .i64 r3, .int .i64 r4]) /\ Below w.heap.size w w' := by
 have hu67 := Try.underlying67
 have hu68 := Try.underlying68
 have HB := Aside0.mk (Below.refl w.heap.size w)
 have H : (some (a0_0, a0_1, a0_2, a0_3)) = some (r1, r2, r3, r4) := h
 clear h
 simp only [Option.some.injEq, Prod.mk.injEq] at H
 obtain ⟨rfl, rfl, rfl, rfl⟩ := H
 go_enter Try.func28, Try.ntmps28
 go_wp2_with (first | ((with_reducible refine gate_dst (N := 1) rfl ?_); refine box_event ?hg (N := 1) ?hd (cs := #[.int .i64 a0_0, .string a0_1, .int .i64 a0_2, .int .i64 a0_3]) (t := 67) ?hr ?_; (case hd => rfl); (case hg => rfl); (case hr => exact vz); intro gb110 hg w2 hbox hb; have BK110 := Aside0.mk (hbox); have GW110 := Aside0.mk ((by rw [hg]; exact (below_size (bz0 HB.out)) : w.heap.size <= gb110)); have GE110 := Aside0.mk ((by rw [hg]; exact (below_size (bz0 HB.out)) : w.heap.size <= gb110)); replace HB := Aside0.mk (below_step (bz0 HB.out) hb); clear hb hbox hg) | ((with_reducible refine gate_dst (N := 2) rfl ?_); refine box_event ?hg (N := 2) ?hd (cs := #[.int .i64 0, .string (⟨#[]⟩ : ByteArray), .int .i64 0, .int .i64 0]) (t := 68) ?hr ?_; (case hd => rfl); (case hg => rfl); (case hr => exact vz); intro gb111 hg w3 hbox hb; have BK111 := Aside0.mk (hbox); have GW111 := Aside0.mk ((by rw [hg]; exact (below_size (bz1 HB.out GE110.out)) : w.heap.size <= gb111)); have GE111 := Aside0.mk ((by rw [hg]; exact (below_size (bz1 HB.out GE110.out)) : w.heap.size <= gb111)); replace HB := Aside0.mk (below_step (bz1 HB.out GE110.out) hb); have NB110_111 := Aside0.mk ((by rw [hg]; exact Nat.ne_of_lt (blk_lt (g := gb110) (o := .cells #[.int .i64 a0_0, .string a0_1, .int .i64 a0_2, .int .i64 a0_3] 67 (0, 0)) (kz BK110.out)) : gb110 ≠ gb111)); have NB111_110 := Aside0.mk ((by rw [hg]; exact Nat.ne_of_gt (blk_lt (g := gb110) (o := .cells #[.int .i64 a0_0, .string a0_1, .int .i64 a0_2, .int .i64 a0_3] 67 (0, 0)) (kz BK110.out)) : gb111 ≠ gb110)); replace BK110 := Aside0.mk (blk_below (kz BK110.out) hb); clear hb hbox hg) | ((with_reducible refine gate_dst (N := 3) rfl ?_); refine box_event ?hg (N := 3) ?hd (cs := #[.int .i64 0, .string (⟨#[]⟩ : ByteArray), .int .i64 0, .int .i64 0]) (t := 68) ?hr ?_; (case hd => rfl); (case hg => rfl); (case hr => exact vz); intro gb112 hg w4 hbox hb; have BK112 := Aside0.mk (hbox); have GW112 := Aside0.mk ((by rw [hg]; exact (below_size (bz2 HB.out GE110.out GE111.out)) : w.heap.size <= gb112)); have GE112 := Aside0.mk ((by rw [hg]; exact (below_size (bz2 HB.out GE110.out GE111.out)) : w.heap.size <= gb112)); replace HB := Aside0.mk (below_step (bz2 HB.out GE110.out GE111.out) hb); have NB110_112 := Aside0.mk ((by rw [hg]; exact Nat.ne_of_lt (blk_lt (g := gb110) (o := .cells #[.int .i64 a0_0, .string a0_1, .int .i64 a0_2, .int .i64 a0_3] 67 (0, 0)) (kz BK110.out)) : gb110 ≠ gb112)); have NB112_110 := Aside0.mk ((by rw [hg]; exact Nat.ne_of_gt (blk_lt (g := gb110) (o := .cells #[.int .i64 a0_0, .string a0_1, .int .i64 a0_2, .int .i64 a0_3] 67 (0, 0)) (kz BK110.out)) : gb112 ≠ gb110)); replace BK110 := Aside0.mk (blk_below (kz BK110.out) hb); have NB111_112 := Aside0.mk ((by rw [hg]; exact Nat.ne_of_lt (blk_lt (g := gb111) (o := .cells #[.int .i64 0, .string (⟨#[]⟩ : ByteArray), .int .i64 0, .int .i64 0] 68 (0, 0)) (kz BK111.out)) : gb111 ≠ gb112)); have NB112_111 := Aside0.mk ((by rw [hg]; exact Nat.ne_of_gt (blk_lt (g := gb111) (o := .cells #[.int .i64 0, .string (⟨#[]⟩ : ByteArray), .int .i64 0, .int .i64 0] 68 (0, 0)) (kz BK111.out)) : gb112 ≠ gb111)); replace BK111 := Aside0.mk (blk_below (kz BK111.out) hb); clear hb hbox hg; have hnb5 := NB110_111.out; have hnc5 := NB111_110.out; have hnb6 := NB110_112.out; have hnc6 := NB112_110.out; obtain ⟨hcz7_0, hcz7_1, hcz7_2, hcz7_3⟩ := cz4 BK110.out; obtain ⟨hfz7_0, hfz7_1, hfz7_2, hfz7_3⟩ := fz4 BK110.out; have hnb8 := NB112_111.out; have hnc8 := NB111_112.out; obtain ⟨hcz9_0, hcz9_1, hcz9_2, hcz9_3⟩ := cz4 BK112.out; obtain ⟨hfz9_0, hfz9_1, hfz9_2, hfz9_3⟩ := fz4 BK112.out; obtain ⟨hcz10_0, hcz10_1, hcz10_2, hcz10_3⟩ := cz4 BK111.out; obtain ⟨hfz10_0, hfz10_1, hfz10_2, hfz10_3⟩ := fz4 BK111.out))
 refine bodyPost_ret (results_cell_row rfl _ _ gb111 68 #[.int .i64 a0_0, .string a0_1, .int .i64 a0_2, .int .i64 a0_3] (0, 0) _ rfl (by refine kq ?_; refine blk_put (cs := #[.int .i64 a0_0, .string a0_1, .int .i64 a0_2, .int .i64 0]) ?_ 3 _ rfl; refine kq ?_; refine blk_put (cs := #[.int .i64 a0_0, .string a0_1, .int .i64 0, .int .i64 0]) ?_ 2 _ rfl; refine kq ?_; refine blk_put (cs := #[.int .i64 a0_0, .string (⟨#[]⟩ : ByteArray), .int .i64 0, .int .i64 0]) ?_ 1 _ rfl; refine kq ?_; refine blk_put (cs := #[.int .i64 0, .string (⟨#[]⟩ : ByteArray), .int .i64 0, .int .i64 0]) ?_ 0 _ rfl; refine kq ?_; refine blk_far ?_ NB111_112.out _; refine kq ?_; refine blk_far ?_ NB111_112.out _; refine kq ?_; refine blk_far ?_ NB111_112.out _; refine kq ?_; refine blk_far ?_ NB111_112.out _; refine kq ?_; exact BK111.out) Try.underlying68 rfl (by kernel_rfl)) rfl ?_
 exact ⟨gz, (bz3 HB.out GE110.out GE111.out GE112.out)⟩
def laws_toTokenS.l0 : Nat -> List (S67) -> List (S68) -> Int -> Option ((List (S68)))
 | 0, _, _, _ => none
 | k + 1, x0, x3, x4 => if x4 < (x0.length : Int) then (if 0 <= x4 then ((laws_toToken.f ((rd_T67 x0 x4).f0) ((rd_T67 x0 x4).f1) ((rd_T67 x0 x4).f2) ((rd_T67 x0 x4).f3)).bind fun bt117 => (if x4 < (x3.length : Int) then (laws_toTokenS.l0 k x0 (x3.set (x4 : Int).toNat (⟨bt117.1, bt117.2.1, bt117.2.2.1, bt117.2.2.2⟩ : S68)) (wrap64 (x4 + 1))) else (none))) else (none)) else (some x3)
def laws_toTokenS.f (k : Nat) (l0 : List (S67)) : Option ((List (S68))) := if 0 <= (l0.length : Int) then (if ((l0.length : Int) : Int).toNat <= 7036874417766 then (laws_toTokenS.l0 k l0 (List.replicate ((l0.length : Int) : Int).toNat z68) 0) else (none)) else (none)
theorem laws_toTokenS.mono_l : ∀ k, (∀ y0 y1 y2, LeO (laws_toTokenS.l0 k y0 y1 y2) (laws_toTokenS.l0 (k + 1) y0 y1 y2))
 | 0 => fun _ _ _ r h => by simp [laws_toTokenS.l0] at h
 | k + 1 => by
  have ih0 := laws_toTokenS.mono_l k
  ·intro y0 y1 y2
   unfold laws_toTokenS.l0
   with_reducible repeat' first | exact ih0 _ _ _ | exact lrz _ | exact lnz _ | refine liz ?_ ?_ | refine lbz ?_ fun _ => ?_
theorem laws_toTokenS.mono : ∀ a0 k, LeO (laws_toTokenS.f k a0) (laws_toTokenS.f (k + 1) a0) := by
 intro a0 k
 have ih0 := laws_toTokenS.mono_l k
 unfold laws_toTokenS.f
 with_reducible repeat' first | exact ih0 _ _ _ | exact lrz _ | exact lnz _ | refine liz ?_ ?_ | refine lbz ?_ fun _ => ?_
set_option maxHeartbeats 8000000 in
set_option maxRecDepth 100000 in
theorem laws_toTokenS.calls (k : Nat) (A0 : Option Addr) (c0 : Nat) (l0 : List (S67)) (r : List (S68)) (w : World) (hr0 : Kd.C k67 w A0 l0.length l0) (hc0 : l0.length <= c0) (h : laws_toTokenS.f k l0 = some r) :
  Calls Try.prog 15 #[.slice A0 l0.length c0] w fun e w' => ∃ v0_ : Value, e = .returned (v0_) /\ Kd.R k68 68 w' w.heap.size (fun _ => True) v0_ r /\ Below w.heap.size w w' := by
 have hu67 := Try.underlying67
 have hu68 := Try.underlying68
 have HR0 := Aside0.mk hr0
 have HC0 := Aside0.mk hc0
 clear hr0 hc0
 have HB := Aside0.mk (Below.refl w.heap.size w)
 have H : (if 0 <= (l0.length : Int) then (if ((l0.length : Int) : Int).toNat <= 7036874417766 then (laws_toTokenS.l0 k l0 (List.replicate ((l0.length : Int) : Int).toNat z68) 0) else (none)) else (none)) = some r := h
 clear h
 replace H := iz H
 obtain ⟨c2, H⟩ := H
 have c2b0 := eq_true c2
 have c2b1 : decide (0 <= (l0.length : Int)) = true := decide_eq_true c2
 clear c2
 replace H := iz H
 obtain ⟨c3, H⟩ := H
 have c3b0 := eq_true c3
 have c3b1 : decide (((l0.length : Int) : Int).toNat <= 7036874417766) = true := decide_eq_true c3
 clear c3
 obtain ⟨y113, hy113⟩ : ∃ y_ : List (S68), y_ = (List.replicate ((l0.length : Int) : Int).toNat z68) := ⟨_, rfl⟩
 replace H : (laws_toTokenS.l0 k l0 y113 0) = some r := yz hy113 H
 have Ny113 := Aside0.mk hy113
 clear hy113
 have H' := Aside0.mk H
 clear H
 go_enter Try.func15, Try.ntmps15
 go_wp2_with (first | ((with_reducible refine gate_dst (N := 7) rfl ?_); refine Kd.R_make k68 _ 68 rfl (N := 7) rfl 35 _ _ rfl (l0.length : Int) rfl rfl Try.underlying35 (.agg #[(.int .i64 0), (.string ⟨#[]⟩), (.int .i64 0), (.int .i64 0)]) 40 info68 rfl (by decide) (by omega) z68 (ok := fun _ => True) (okp := fun _ => True) (k68_mkM _ _ _ z68 ) (fun _ hk => hk) trivial (of_decide_eq_true az) (Nat.le_trans (Nat.mul_le_mul_right _ (of_decide_eq_true az : (l0.length : Int).toNat <= 7036874417766)) (by omega)) (Below.refl _ _) (Nat.le_refl _) ?_; intro v114 w4 ho5 hb hg_ hnew_; clear hg_ hnew_; (first | rw [<- Ny113.out] at ho5 | (simp only [Int.reduceToNat] at ho5; rw [<- Ny113.out] at ho5)); have HO115 := Aside0.mk (Kd.R_lower ho5 (below_size (bz0 HB.out))); replace HB := Aside0.mk (below_step (bz0 HB.out) hb); clear hb ho5))
 (try simp only [Act.put, sz1, sz2, sz3])
 go_loopg [4] k (fun kq v4 w' => ∃ (x3_1 : List (S68)) (x4_1 : Int), v4 = .int .i64 x4_1 /\ Aside0 (laws_toTokenS.l0 kq l0 x3_1 x4_1 = some r) /\ Aside0 (kq <= k) /\ Aside0 (Kd.R k68 68 w' w.heap.size (fun _ => True) v114 x3_1) /\ Aside0 (Below w.heap.size w w'))
 case atStart => exact ⟨(y113), (0), ez, H', ⟨Nat.le_refl _⟩, ⟨by refine rq ?_; exact HO115.out⟩, ⟨(bz0 HB.out)⟩⟩
 case round =>
  clear H'
  try clear c1
  try clear c2
  try clear c2b0
  try clear c2b1
  try clear p2
  try clear c3
  try clear c3b0
  try clear c3b1
  obtain ⟨x3_1, x4_1, rfl, HA, HK1, HO_3, HB⟩ := hrel
  cases gk with
  | zero => exact absurd HA.out (by simp [laws_toTokenS.l0])
  | succ k1 =>
   have H := HA.out
   clear HA
   simp only [laws_toTokenS.l0] at H
   by_cases c6 : x4_1 < (l0.length : Int)
   ·rw [if_pos c6] at H
    have c6b0 := decide_eq_true c6
    clear c6
    replace H := iz H
    obtain ⟨c7, H⟩ := H
    have c7b0 := decide_eq_true c7
    clear c7
    replace H := bi H
    obtain ⟨⟨t117, t118, t119, t120⟩, A80, H⟩ := H
    try dsimp only at H
    have A8 := Aside0.mk A80
    clear A80
    replace H := iz H
    obtain ⟨c9, H⟩ := H
    have c9b0 := decide_eq_true c9
    clear c9
    obtain ⟨y121, hy121⟩ : ∃ y_ : List (S68), y_ = (x3_1.set (x4_1 : Int).toNat (⟨t117, t118, t119, t120⟩ : S68)) := ⟨_, rfl⟩
    replace H : (laws_toTokenS.l0 k1 l0 y121 (wrap64 (x4_1 + 1))) = some r := yz hy121 H
    have Ny121 := Aside0.mk hy121
    clear hy121
    have H' := Aside0.mk H
    clear H
    have p116 : 0 <= (x4_1 : Int) := oz
    have q116 : x4_1 < (l0.length : Int) := oz
    obtain ⟨ad116, e116, hx116_0, hx116_1, hx116_2, hx116_3⟩ := at_T67 (Kd.C_below HR0.out HB.out) x4_1 p116 q116
    cases e116
    replace p116 := eq_true p116
    replace q116 := eq_true q116
    go_wp2_with (first | ((with_reducible refine gate_callee (f := 28) rfl ?_); refine goesL_ (some 20) rfl rfl Try.func28 (by kernel_rfl) rfl #[.agg #[.int .i64 ((rd_T67 l0 x4_1).f0), .string ((rd_T67 l0 x4_1).f1), .int .i64 ((rd_T67 l0 x4_1).f2), .int .i64 ((rd_T67 l0 x4_1).f3)]] rfl lz ?_; (with_reducible refine (laws_toToken.calls ((rd_T67 l0 x4_1).f0) ((rd_T67 l0 x4_1).f1) ((rd_T67 l0 x4_1).f2) ((rd_T67 l0 x4_1).f3) t117 t118 t119 t120 _ A8.out).mono ?_); rintro e w11 ⟨rfl, hb⟩; refine ⟨_, rfl, ?_⟩; replace HO_3 := qz HO_3 hb; replace HB := Aside0.mk (below_step (bz0 HB.out) hb); (try clear hb); (try clear hk); have p10 : 0 <= (x4_1 : Int) := oz; have q10 : (x4_1 : Int) < ((x3_1.length : Int) : Int) := oz; obtain ⟨go10, co10, eo10, gb10, gl10, cl10, HG10⟩ := Kd.R_form HO_3.out (by omega); (first | cases eo10 | (injection eo10 with ea_ en_ ec_; (first | subst ea_ | (injection ea_ with ea_; subst ea_)); subst ec_; clear en_)); have GB10 := Aside0.mk gb10; have GG10 := Aside0.mk HG10; clear gb10 gl10 HG10; obtain ⟨ce10, hcl10, hM10, hcc10, hfr10⟩ := Kd.R_elem HO_3.out z68 (x4_1 : Int) p10 q10; obtain rfl := k68_openM hM10; have hx10_0 : w11.cell? ⟨go10, (x4_1 : Int).toNat * 4, none⟩ = some (.int .i64 ((rd_T68 x3_1 x4_1).f0)) := hcc10 0 _ rfl; have hx10_1 : w11.cell? ⟨go10, (x4_1 : Int).toNat * 4 + 1, none⟩ = some (.string ((rd_T68 x3_1 x4_1).f1)) := hcc10 1 _ rfl; have hx10_2 : w11.cell? ⟨go10, (x4_1 : Int).toNat * 4 + 2, none⟩ = some (.int .i64 ((rd_T68 x3_1 x4_1).f2)) := hcc10 2 _ rfl; have hx10_3 : w11.cell? ⟨go10, (x4_1 : Int).toNat * 4 + 3, none⟩ = some (.int .i64 ((rd_T68 x3_1 x4_1).f3)) := hcc10 3 _ rfl; have hf10_0 : w11.frozen? ⟨go10, (x4_1 : Int).toNat * 4, none⟩ = false := hfr10 0; have hf10_1 : w11.frozen? ⟨go10, (x4_1 : Int).toNat * 4 + 1, none⟩ = false := hfr10 1; have hf10_2 : w11.frozen? ⟨go10, (x4_1 : Int).toNat * 4 + 2, none⟩ = false := hfr10 2; have hf10_3 : w11.frozen? ⟨go10, (x4_1 : Int).toNat * 4 + 3, none⟩ = false := hfr10 3; clear hcl10 hcc10 hfr10 hM10; replace p10 := eq_true p10; replace q10 := eq_true q10; have HX12 := Aside0.mk (show Kd.R k68 68 w11 w.heap.size (fun _ => True) (.slice (some ⟨go10, 0, none⟩) x3_1.length co10) x3_1 from (rz HO_3.out)); obtain ⟨ce12, hcl12, hM12, hcc12, hfr12⟩ := Kd.R_elem HX12.out z68 (x4_1 : Int) (of_decide_eq_true az) (by have h_ : (x4_1 : Int) < ((x3_1.length : Int) : Int) := oz; first | exact h_ | (have e_ := (Kd.R_reads' HO_3.out).1; omega) | simpa using h_); obtain rfl := k68_openM hM12; have HP12 := Kd.R_seg HX12.out (x4_1 : Int) (of_decide_eq_true az) (by have h_ : (x4_1 : Int) < ((x3_1.length : Int) : Int) := oz; first | exact h_ | (have e_ := (Kd.R_reads' HO_3.out).1; omega) | simpa using h_) (seg := [.int .i64 t117, .string t118, .int .i64 t119, .int .i64 t120]) (j := 0) hcl12 hcc12 (show 4 <= 4 from by decide) (x' := (⟨t117, t118, t119, t120⟩ : S68)) (k68_mkM _ _ _ (⟨t117, t118, t119, t120⟩ : S68) ) (fun _ hk => hk); have hx12_0 := hcc12 0 _ rfl; (try simp only [show (k68).sz = 4 from rfl, Nat.mul_one, Nat.add_zero] at hx12_0); have hf12_0 := hfr12 0; (try simp only [show (k68).sz = 4 from rfl, Nat.mul_one, Nat.add_zero] at hf12_0); have hx12_1 := hcc12 1 _ rfl; (try simp only [show (k68).sz = 4 from rfl, Nat.mul_one, Nat.add_zero] at hx12_1); have hf12_1 := hfr12 1; (try simp only [show (k68).sz = 4 from rfl, Nat.mul_one, Nat.add_zero] at hf12_1); have hx12_2 := hcc12 2 _ rfl; (try simp only [show (k68).sz = 4 from rfl, Nat.mul_one, Nat.add_zero] at hx12_2); have hf12_2 := hfr12 2; (try simp only [show (k68).sz = 4 from rfl, Nat.mul_one, Nat.add_zero] at hf12_2); have hx12_3 := hcc12 3 _ rfl; (try simp only [show (k68).sz = 4 from rfl, Nat.mul_one, Nat.add_zero] at hx12_3); have hf12_3 := hfr12 3; (try simp only [show (k68).sz = 4 from rfl, Nat.mul_one, Nat.add_zero] at hf12_3); clear hcl12 hcc12 hfr12 hM12) | ((with_reducible refine gate_store (t := 68) (p := 21) rfl ?_); refine store_event (t := 68) (p := 21) (v := ?vo_w13) (w1 := ((((w11.setCell ⟨go10, (x4_1 : Int).toNat * 4, none⟩ (.int .i64 t117)).setCell ⟨go10, (x4_1 : Int).toNat * 4 + 1, none⟩ (.string t118)).setCell ⟨go10, (x4_1 : Int).toNat * 4 + 2, none⟩ (.int .i64 t119)).setCell ⟨go10, (x4_1 : Int).toNat * 4 + 3, none⟩ (.int .i64 t120))) ?hg ?ho ?hn ?hr ?_; (case ho => rfl); (case hg => rfl); (case hn => rfl); (case hr => exact vz); intro w13 hw; have hg : w11.grownBy w13 (some go10) := (by rw [hw]; exact HP12.2); have hp_ : Kd.R k68 68 w13 w.heap.size (fun _ => True) (.slice (some ⟨go10, 0, none⟩) x3_1.length co10) y121 := (by rw [hw, Ny121.out]; exact HP12.1); clear HP12; replace HO_3 := Aside0.mk (hp_); replace HB := Aside0.mk ((by rw [hw]; exact below_set (below_set (below_set (below_set (HB.out) GB10.out) GB10.out) GB10.out) GB10.out : Below w.heap.size w w13)); clear hg hw hp_))
    go_roundg k1
    case measure => have := HK1.out; omega
    case rel => exact ⟨(y121), (wrap64 (x4_1 + 1)), ez, H', ⟨by have := HK1.out; omega⟩, ⟨by refine rq ?_; exact HO_3.out⟩, ⟨(bz0 HB.out)⟩⟩
   ·rw [if_neg c6] at H
    have c6b0 := decide_eq_false c6
    clear c6
    obtain rfl := Option.some.inj H
    go_wp2
    go_ret
    exact ⟨_, gz, by refine rq ?_; exact HO_3.out, (bz0 HB.out)⟩
def impl_Unlex.l0 : Nat -> List (S68) -> ByteArray -> List (S68) -> Int -> Int -> Option (ByteArray)
 | 0, _, _, _, _, _ => none
 | k + 1, x0, x3, x6, x7, x8 => if x8 < x7 then (if 0 <= x8 then (if x8 < (x6.length : Int) then (if x8 ≥ 4000 then (some x3) else (if x8 > 0 then (if 0 <= (wrap64 (x8 - 1)) then (if (wrap64 (x8 - 1)) < (x0.length : Int) then (if ((rd_T68 x0 (wrap64 (x8 - 1))).f0) = 1 then (if x3.size + ((rd_T68 x6 x8).f1).size <= 140737488355328 then (impl_Unlex.l0 k x0 (x3 ++ ((rd_T68 x6 x8).f1)) x6 x7 (wrap64 (x8 + 1))) else (none)) else (if ((rd_T68 x6 x8).f0) = 2 then (if x3.size + ((rd_T68 x6 x8).f1).size <= 140737488355328 then (impl_Unlex.l0 k x0 (x3 ++ ((rd_T68 x6 x8).f1)) x6 x7 (wrap64 (x8 + 1))) else (none)) else (if x3.size + 1 <= 140737488355328 then (if (x3 ++ (⟨#[32]⟩ : ByteArray)).size + ((rd_T68 x6 x8).f1).size <= 140737488355328 then (impl_Unlex.l0 k x0 ((x3 ++ (⟨#[32]⟩ : ByteArray)) ++ ((rd_T68 x6 x8).f1)) x6 x7 (wrap64 (x8 + 1))) else (none)) else (none)))) else (none)) else (none)) else (if x3.size + ((rd_T68 x6 x8).f1).size <= 140737488355328 then (impl_Unlex.l0 k x0 (x3 ++ ((rd_T68 x6 x8).f1)) x6 x7 (wrap64 (x8 + 1))) else (none)))) else (none)) else (none)) else (some x3)
def impl_Unlex.f (k : Nat) (l0 : List (S68)) : Option (ByteArray) := impl_Unlex.l0 k l0 (⟨#[]⟩ : ByteArray) l0 (l0.length : Int) 0
theorem impl_Unlex.mono_l : ∀ k, (∀ y0 y1 y2 y3 y4, LeO (impl_Unlex.l0 k y0 y1 y2 y3 y4) (impl_Unlex.l0 (k + 1) y0 y1 y2 y3 y4))
 | 0 => fun _ _ _ _ _ r h => by simp [impl_Unlex.l0] at h
 | k + 1 => by
  have ih0 := impl_Unlex.mono_l k
  ·intro y0 y1 y2 y3 y4
   unfold impl_Unlex.l0
   with_reducible repeat' first | exact ih0 _ _ _ _ _ | exact lrz _ | exact lnz _ | refine liz ?_ ?_ | refine lbz ?_ fun _ => ?_
theorem impl_Unlex.mono : ∀ a0 k, LeO (impl_Unlex.f k a0) (impl_Unlex.f (k + 1) a0) := by
 intro a0 k
 have ih0 := impl_Unlex.mono_l k
 unfold impl_Unlex.f
 with_reducible repeat' first | exact ih0 _ _ _ _ _ | exact lrz _ | exact lnz _ | refine liz ?_ ?_ | refine lbz ?_ fun _ => ?_
set_option maxHeartbeats 8000000 in
set_option maxRecDepth 100000 in
theorem impl_Unlex.calls (k : Nat) (A0 : Option Addr) (c0 : Nat) (l0 : List (S68)) (r : ByteArray) (w : World) (hr0 : Kd.C k68 w A0 l0.length l0) (hc0 : l0.length <= c0) (h : impl_Unlex.f k l0 = some r) :
  Calls Try.prog 16 #[.slice A0 l0.length c0] w fun e w' => e = .returned (.string r) /\ Below w.heap.size w w' := by
 have hu68 := Try.underlying68
 have HR0 := Aside0.mk hr0
 have HC0 := Aside0.mk hc0
 clear hr0 hc0
 have HB := Aside0.mk (Below.refl w.heap.size w)
 have H : (impl_Unlex.l0 k l0 (⟨#[]⟩ : ByteArray) l0 (l0.length : Int) 0) = some r := h
 clear h
 have H' := Aside0.mk H
 clear H
 go_enter Try.func16, Try.ntmps16
 go_wp2_with (first | ((with_reducible refine gate_dst (N := 3) rfl ?_); refine box_event ?hg (N := 3) ?hd (cs := #[.pointer none, .slice none 0 0]) (t := 73) ?hr ?_; (case hd => rfl); (case hg => rfl); (case hr => exact vz); intro gB hg wB hbox hb; have HI := Aside0.mk (IsB.new (B := w.heap.size) (by rw [hg]; exact (below_size (bz0 HB.out))) hbox); have n1_ := Aside0.mk (below_step (bz0 HB.out) hb); clear HB; have HB := n1_; clear n1_; clear hb hbox hg))
 (try simp only [Act.put, sz1, sz2, sz3])
 go_loopg [8] k (fun kq v8 w' => ∃ (x3_1 : ByteArray) (x8_1 : Int), v8 = .int .i64 x8_1 /\ Aside0 (impl_Unlex.l0 kq l0 x3_1 l0 (l0.length : Int) x8_1 = some r) /\ Aside0 (kq <= k) /\ Aside0 (IsB w.heap.size gB x3_1 w') /\ Aside0 (Below w.heap.size w w'))
 case atStart => exact ⟨((⟨#[]⟩ : ByteArray)), (0), ez, H', ⟨Nat.le_refl _⟩, ⟨(by first | (repeat (with_reducible first | exact HI.out | refine IsB.alloc ?_ _ | refine IsB.drewN ?_ _ | refine IsB.drew ?_); done) | exact HI.out)⟩, ⟨(bz0 HB.out)⟩⟩
 case round =>
  clear H'
  try clear c1
  obtain ⟨x3_1, x8_1, rfl, HA, HK1, HI, HB⟩ := hrel
  cases gk with
  | zero => exact absurd HA.out (by simp [impl_Unlex.l0])
  | succ k1 =>
   have H := HA.out
   clear HA
   simp only [impl_Unlex.l0] at H
   by_cases c2 : x8_1 < (l0.length : Int)
   ·rw [if_pos c2] at H
    have c2b0 := decide_eq_true c2
    clear c2
    replace H := iz H
    obtain ⟨c3, H⟩ := H
    have c3b0 := decide_eq_true c3
    clear c3
    replace H := iz H
    obtain ⟨c4, H⟩ := H
    have c4b0 := decide_eq_true c4
    clear c4
    by_cases c5 : x8_1 ≥ 4000
    ·rw [if_pos c5] at H
     have c5b0 : decide (4000 <= x8_1) = true := decide_eq_true c5
     clear c5
     obtain rfl := Option.some.inj H
     have p122 : 0 <= (x8_1 : Int) := oz
     have q122 : x8_1 < (l0.length : Int) := oz
     obtain ⟨ad122, e122, hx122_0, hx122_1, hx122_2, hx122_3⟩ := at_T68 (Kd.C_below HR0.out HB.out) x8_1 p122 q122
     cases e122
     replace p122 := eq_true p122
     replace q122 := eq_true q122
     go_wp2_with (first | ((with_reducible refine gate_dst (N := 5) rfl ?_); refine box_event ?hg (N := 5) ?hd (cs := #[.int .i64 0, .string (⟨#[]⟩ : ByteArray), .int .i64 0, .int .i64 0]) (t := 68) ?hr ?_; (case hd => rfl); (case hg => rfl); (case hr => exact vz); intro gb123 hg w6 hbox hb; have BK123 := Aside0.mk (hbox); have GW123 := Aside0.mk ((by rw [hg]; exact (below_size (bz0 HB.out)) : w.heap.size <= gb123)); have GE123 := Aside0.mk ((by rw [hg]; exact (below_size (bz0 HB.out)) : w.heap.size <= gb123)); replace HB := Aside0.mk (below_step (bz0 HB.out) hb); have HI2 := Aside0.mk (IsB.below (by first | (repeat (with_reducible first | exact HI.out | refine IsB.alloc ?_ _ | refine IsB.drewN ?_ _ | refine IsB.drew ?_); done) | exact HI.out) hb); clear HI; have HI := HI2; clear HI2; clear hb hbox hg; obtain ⟨hcz7_0, hcz7_1, hcz7_2, hcz7_3⟩ := cz4 BK123.out; obtain ⟨hfz7_0, hfz7_1, hfz7_2, hfz7_3⟩ := fz4 BK123.out) | ((with_reducible refine gate_callee (f := 30) rfl ?_); refine goesL_ (some 36) rfl rfl Try.func30 (by kernel_rfl) rfl #[.pointer (some ⟨gB, 0, none⟩)] rfl lz ?_; (refine (read_string w.heap.size gB r _ ?hI ?hB).mono ?_); (case hI => exact (by first | (repeat (with_reducible first | exact HI.out | refine IsB.alloc ?_ _ | refine IsB.drewN ?_ _ | refine IsB.drew ?_ | exact isb_set4 HI.out BK123.out (by decide) _ _ _ _); done) | exact HI.out)); (case hB => exact (below_size (bz1 HB.out GE123.out))); rintro e w9_ ⟨rfl, hb_⟩; refine ⟨_, rfl, ?_⟩; have n1_ := Aside0.mk (Below.trans (bz1 HB.out GE123.out) hb_); clear HB; have HB := n1_; clear n1_; clear hb_) | ((with_reducible refine gate_callee (f := 30) rfl ?_); refine goesL_ (some 36) rfl rfl Try.func30 (by kernel_rfl) rfl #[.pointer (some ⟨gB, 0, none⟩)] rfl lz ?_; (refine (read_string w.heap.size gB x3_1 _ ?hI ?hB).mono ?_); (case hI => exact (by first | (repeat (with_reducible first | exact HI.out | refine IsB.alloc ?_ _ | refine IsB.drewN ?_ _ | refine IsB.drew ?_ | exact isb_set4 HI.out BK123.out (by decide) _ _ _ _); done) | exact HI.out)); (case hB => exact (below_size (bz1 HB.out GE123.out))); rintro e w9_ ⟨rfl, hb_⟩; refine ⟨_, rfl, ?_⟩; have n1_ := Aside0.mk (Below.trans (bz1 HB.out GE123.out) hb_); clear HB; have HB := n1_; clear n1_; clear hb_))
     go_ret
     exact ⟨gz, (bz1 HB.out GE123.out)⟩
    ·rw [if_neg c5] at H
     have c5b0 : decide (4000 <= x8_1) = false := decide_eq_false c5
     clear c5
     by_cases c8 : x8_1 > 0
     ·rw [if_pos c8] at H
      have c8b0 : decide (0 < x8_1) = true := decide_eq_true c8
      clear c8
      obtain ⟨ji9, hji9⟩ : ∃ j_ : Int, (wrap64 (x8_1 - 1)) = j_ := ⟨_, rfl⟩
      replace H : (if 0 <= (ji9) then (if (ji9) < (l0.length : Int) then (if ((rd_T68 l0 (ji9)).f0) = 1 then (if x3_1.size + ((rd_T68 l0 x8_1).f1).size <= 140737488355328 then (impl_Unlex.l0 k1 l0 (x3_1 ++ ((rd_T68 l0 x8_1).f1)) l0 (l0.length : Int) (wrap64 (x8_1 + 1))) else (none)) else (if ((rd_T68 l0 x8_1).f0) = 2 then (if x3_1.size + ((rd_T68 l0 x8_1).f1).size <= 140737488355328 then (impl_Unlex.l0 k1 l0 (x3_1 ++ ((rd_T68 l0 x8_1).f1)) l0 (l0.length : Int) (wrap64 (x8_1 + 1))) else (none)) else (if x3_1.size + 1 <= 140737488355328 then (if (x3_1 ++ (⟨#[32]⟩ : ByteArray)).size + ((rd_T68 l0 x8_1).f1).size <= 140737488355328 then (impl_Unlex.l0 k1 l0 ((x3_1 ++ (⟨#[32]⟩ : ByteArray)) ++ ((rd_T68 l0 x8_1).f1)) l0 (l0.length : Int) (wrap64 (x8_1 + 1))) else (none)) else (none)))) else (none)) else (none)) = some r := by first | (rw [hji9] at H; exact H) | (simp only [hji9] at H ⊢; exact H)
      have hji9w : (IntKind.i64.wrap (x8_1 - 1)) = ji9 := (i64_w _).trans hji9
      replace H := iz H
      obtain ⟨c10, H⟩ := H
      have c10b0 := decide_eq_true c10
      clear c10
      replace H := iz H
      obtain ⟨c11, H⟩ := H
      have c11b0 := decide_eq_true c11
      clear c11
      by_cases c12 : ((rd_T68 l0 (ji9)).f0) = 1
      ·rw [if_pos c12] at H
       have c12b0 : (((rd_T68 l0 (ji9)).f0) == 1) = true := beq_iff_eq.mpr c12
       have c12b1 : (((rd_T68 l0 (ji9)).f0) != 1) = false := bne_eq_false_iff_eq.mpr c12
       clear c12
       replace H := iz H
       obtain ⟨c13, H⟩ := H
       have c13b0 := eq_true c13
       have c13b1 : decide (x3_1.size + ((rd_T68 l0 x8_1).f1).size <= 140737488355328) = true := decide_eq_true c13
       try have c13b2 : (140737488355328 < x3_1.size + ((rd_T68 l0 x8_1).f1).size) = False := eq_false (Nat.not_lt.2 c13)
       have H' := Aside0.mk H
       clear H
       have p122 : 0 <= (x8_1 : Int) := oz
       have q122 : x8_1 < (l0.length : Int) := oz
       obtain ⟨ad122, e122, hx122_0, hx122_1, hx122_2, hx122_3⟩ := at_T68 (Kd.C_below HR0.out HB.out) x8_1 p122 q122
       cases e122
       replace p122 := eq_true p122
       replace q122 := eq_true q122
       go_wp2_with (first | ((with_reducible refine gate_dst (N := 5) rfl ?_); refine box_event ?hg (N := 5) ?hd (cs := #[.int .i64 0, .string (⟨#[]⟩ : ByteArray), .int .i64 0, .int .i64 0]) (t := 68) ?hr ?_; (case hd => rfl); (case hg => rfl); (case hr => exact vz); intro gb123 hg w14 hbox hb; have BK123 := Aside0.mk (hbox); have GW123 := Aside0.mk ((by rw [hg]; exact (below_size (bz0 HB.out)) : w.heap.size <= gb123)); have GE123 := Aside0.mk ((by rw [hg]; exact (below_size (bz0 HB.out)) : w.heap.size <= gb123)); replace HB := Aside0.mk (below_step (bz0 HB.out) hb); have HI2 := Aside0.mk (IsB.below (by first | (repeat (with_reducible first | exact HI.out | refine IsB.alloc ?_ _ | refine IsB.drewN ?_ _ | refine IsB.drew ?_); done) | exact HI.out) hb); clear HI; have HI := HI2; clear HI2; clear hb hbox hg; obtain ⟨hcz15_0, hcz15_1, hcz15_2, hcz15_3⟩ := cz4 BK123.out; obtain ⟨hfz15_0, hfz15_1, hfz15_2, hfz15_3⟩ := fz4 BK123.out; have p124 : 0 <= ((ji9) : Int) := oz; have q124 : (ji9) < (l0.length : Int) := oz; obtain ⟨ad124, e124, hx124_0, hx124_1, hx124_2, hx124_3⟩ := at_T68 HR0.out (ji9) p124 q124; obtain rfl : ad122 = ad124 := (by injection e124); have hn124_0 : ad122.block ≠ gb123 := Nat.ne_of_lt (Nat.lt_of_lt_of_le (by have := World.block_lt_of_cell? _ _ hx124_0; first | rwa [add_block] at this | exact this) GW123.out); have hn124_1 : ad122.block ≠ gb123 := Nat.ne_of_lt (Nat.lt_of_lt_of_le (by have := World.block_lt_of_cell? _ _ hx124_0; first | rwa [add_block] at this | exact this) GW123.out); have hn124_2 : ad122.block ≠ gb123 := Nat.ne_of_lt (Nat.lt_of_lt_of_le (by have := World.block_lt_of_cell? _ _ hx124_0; first | rwa [add_block] at this | exact this) GW123.out); have hn124_3 : ad122.block ≠ gb123 := Nat.ne_of_lt (Nat.lt_of_lt_of_le (by have := World.block_lt_of_cell? _ _ hx124_0; first | rwa [add_block] at this | exact this) GW123.out); replace hx124_0 := hz HB.out hx124_0; replace hx124_1 := hz HB.out hx124_1; replace hx124_2 := hz HB.out hx124_2; replace hx124_3 := hz HB.out hx124_3; replace hx124_0 := (cell_far (p := ⟨gb123, 0, none⟩) (nz hn124_0) (.int .i64 ((rd_T68 l0 x8_1).f0))).trans hx124_0; replace hx124_1 := (cell_far (p := ⟨gb123, 0, none⟩) (nz hn124_0) (.int .i64 ((rd_T68 l0 x8_1).f0))).trans hx124_1; replace hx124_2 := (cell_far (p := ⟨gb123, 0, none⟩) (nz hn124_0) (.int .i64 ((rd_T68 l0 x8_1).f0))).trans hx124_2; replace hx124_3 := (cell_far (p := ⟨gb123, 0, none⟩) (nz hn124_0) (.int .i64 ((rd_T68 l0 x8_1).f0))).trans hx124_3; replace hx124_0 := (cell_far (p := ⟨gb123, 1, none⟩) (nz hn124_1) (.string ((rd_T68 l0 x8_1).f1))).trans hx124_0; replace hx124_1 := (cell_far (p := ⟨gb123, 1, none⟩) (nz hn124_1) (.string ((rd_T68 l0 x8_1).f1))).trans hx124_1; replace hx124_2 := (cell_far (p := ⟨gb123, 1, none⟩) (nz hn124_1) (.string ((rd_T68 l0 x8_1).f1))).trans hx124_2; replace hx124_3 := (cell_far (p := ⟨gb123, 1, none⟩) (nz hn124_1) (.string ((rd_T68 l0 x8_1).f1))).trans hx124_3; replace hx124_0 := (cell_far (p := ⟨gb123, 2, none⟩) (nz hn124_2) (.int .i64 ((rd_T68 l0 x8_1).f2))).trans hx124_0; replace hx124_1 := (cell_far (p := ⟨gb123, 2, none⟩) (nz hn124_2) (.int .i64 ((rd_T68 l0 x8_1).f2))).trans hx124_1; replace hx124_2 := (cell_far (p := ⟨gb123, 2, none⟩) (nz hn124_2) (.int .i64 ((rd_T68 l0 x8_1).f2))).trans hx124_2; replace hx124_3 := (cell_far (p := ⟨gb123, 2, none⟩) (nz hn124_2) (.int .i64 ((rd_T68 l0 x8_1).f2))).trans hx124_3; replace hx124_0 := (cell_far (p := ⟨gb123, 3, none⟩) (nz hn124_3) (.int .i64 ((rd_T68 l0 x8_1).f3))).trans hx124_0; replace hx124_1 := (cell_far (p := ⟨gb123, 3, none⟩) (nz hn124_3) (.int .i64 ((rd_T68 l0 x8_1).f3))).trans hx124_1; replace hx124_2 := (cell_far (p := ⟨gb123, 3, none⟩) (nz hn124_3) (.int .i64 ((rd_T68 l0 x8_1).f3))).trans hx124_2; replace hx124_3 := (cell_far (p := ⟨gb123, 3, none⟩) (nz hn124_3) (.int .i64 ((rd_T68 l0 x8_1).f3))).trans hx124_3; clear hn124_0; clear hn124_1; clear hn124_2; clear hn124_3; replace p124 := eq_true p124; replace q124 := eq_true q124) | ((with_reducible refine gate_callee (f := 29) rfl ?_); refine goesL_ (some 34) rfl rfl Try.func29 (by kernel_rfl) rfl #[.pointer (some ⟨gB, 0, none⟩), .string ((rd_T68 l0 x8_1).f1)] rfl lz ?_; (refine (write_string w.heap.size gB x3_1 ((rd_T68 l0 x8_1).f1) _ ?hI (of_eq_true c13b0) ?hB).mono ?_); (case hI => exact (by first | (repeat (with_reducible first | exact HI.out | refine IsB.alloc ?_ _ | refine IsB.drewN ?_ _ | refine IsB.drew ?_ | exact isb_set4 HI.out BK123.out (by decide) _ _ _ _); done) | exact HI.out)); (case hB => exact (below_size (bz1 HB.out GE123.out))); rintro e w0_ ⟨rfl, hi_, hb_, hk_⟩; refine ⟨_, rfl, ?_⟩; have n0_ := Aside0.mk ((hk_ gb123 #[.int .i64 ((rd_T68 l0 x8_1).f0), .string ((rd_T68 l0 x8_1).f1), .int .i64 ((rd_T68 l0 x8_1).f2), .int .i64 ((rd_T68 l0 x8_1).f3)] 68 (by refine kq ?_; refine blk_put (t := 68) (cs := #[.int .i64 ((rd_T68 l0 x8_1).f0), .string ((rd_T68 l0 x8_1).f1), .int .i64 ((rd_T68 l0 x8_1).f2), .int .i64 0]) ?_ 3 _ rfl; refine kq ?_; refine blk_put (t := 68) (cs := #[.int .i64 ((rd_T68 l0 x8_1).f0), .string ((rd_T68 l0 x8_1).f1), .int .i64 0, .int .i64 0]) ?_ 2 _ rfl; refine kq ?_; refine blk_put (t := 68) (cs := #[.int .i64 ((rd_T68 l0 x8_1).f0), .string (⟨#[]⟩ : ByteArray), .int .i64 0, .int .i64 0]) ?_ 1 _ rfl; refine kq ?_; refine blk_put (t := 68) (cs := #[.int .i64 0, .string (⟨#[]⟩ : ByteArray), .int .i64 0, .int .i64 0]) ?_ 0 _ rfl; refine kq ?_; exact BK123.out) (by decide)).trans (by refine kq ?_; refine blk_put (t := 68) (cs := #[.int .i64 ((rd_T68 l0 x8_1).f0), .string ((rd_T68 l0 x8_1).f1), .int .i64 ((rd_T68 l0 x8_1).f2), .int .i64 0]) ?_ 3 _ rfl; refine kq ?_; refine blk_put (t := 68) (cs := #[.int .i64 ((rd_T68 l0 x8_1).f0), .string ((rd_T68 l0 x8_1).f1), .int .i64 0, .int .i64 0]) ?_ 2 _ rfl; refine kq ?_; refine blk_put (t := 68) (cs := #[.int .i64 ((rd_T68 l0 x8_1).f0), .string (⟨#[]⟩ : ByteArray), .int .i64 0, .int .i64 0]) ?_ 1 _ rfl; refine kq ?_; refine blk_put (t := 68) (cs := #[.int .i64 0, .string (⟨#[]⟩ : ByteArray), .int .i64 0, .int .i64 0]) ?_ 0 _ rfl; refine kq ?_; exact BK123.out)); have n1_ := Aside0.mk (Below.trans (bz1 HB.out GE123.out) hb_); clear HI; have HI := Aside0.mk hi_; clear HB; have HB := n1_; clear BK123; have BKF := n0_; clear n0_ n1_; clear hi_ hb_ hk_; have hcy0_0 := (blk_cell BKF.out 0).trans rfl; have hcy0_1 := (blk_cell BKF.out 1).trans rfl))
       go_roundg k1
       case measure => have := HK1.out; omega
       case rel => exact ⟨(x3_1 ++ ((rd_T68 l0 x8_1).f1)), (wrap64 (x8_1 + 1)), ez, H', ⟨by have := HK1.out; omega⟩, ⟨(by first | (repeat (with_reducible first | exact HI.out | refine IsB.alloc ?_ _ | refine IsB.drewN ?_ _ | refine IsB.drew ?_); done) | exact HI.out)⟩, ⟨(bz1 HB.out GE123.out)⟩⟩
      ·rw [if_neg c12] at H
       have c12b0 : (((rd_T68 l0 (ji9)).f0) == 1) = false := beq_eq_false_iff_ne.mpr c12
       have c12b1 : (((rd_T68 l0 (ji9)).f0) != 1) = true := bne_iff_ne.mpr c12
       by_cases c16 : ((rd_T68 l0 x8_1).f0) = 2
       ·rw [if_pos c16] at H
        have c16b0 : (((rd_T68 l0 x8_1).f0) == 2) = true := beq_iff_eq.mpr c16
        have c16b1 : (((rd_T68 l0 x8_1).f0) != 2) = false := bne_eq_false_iff_eq.mpr c16
        clear c16
        replace H := iz H
        obtain ⟨c17, H⟩ := H
        have c17b0 := eq_true c17
        have c17b1 : decide (x3_1.size + ((rd_T68 l0 x8_1).f1).size <= 140737488355328) = true := decide_eq_true c17
        try have c17b2 : (140737488355328 < x3_1.size + ((rd_T68 l0 x8_1).f1).size) = False := eq_false (Nat.not_lt.2 c17)
        have H' := Aside0.mk H
        clear H
        have p122 : 0 <= (x8_1 : Int) := oz
        have q122 : x8_1 < (l0.length : Int) := oz
        obtain ⟨ad122, e122, hx122_0, hx122_1, hx122_2, hx122_3⟩ := at_T68 (Kd.C_below HR0.out HB.out) x8_1 p122 q122
        cases e122
        replace p122 := eq_true p122
        replace q122 := eq_true q122
        go_wp2_with (first | ((with_reducible refine gate_dst (N := 5) rfl ?_); refine box_event ?hg (N := 5) ?hd (cs := #[.int .i64 0, .string (⟨#[]⟩ : ByteArray), .int .i64 0, .int .i64 0]) (t := 68) ?hr ?_; (case hd => rfl); (case hg => rfl); (case hr => exact vz); intro gb123 hg w18 hbox hb; have BK123 := Aside0.mk (hbox); have GW123 := Aside0.mk ((by rw [hg]; exact (below_size (bz0 HB.out)) : w.heap.size <= gb123)); have GE123 := Aside0.mk ((by rw [hg]; exact (below_size (bz0 HB.out)) : w.heap.size <= gb123)); replace HB := Aside0.mk (below_step (bz0 HB.out) hb); have HI2 := Aside0.mk (IsB.below (by first | (repeat (with_reducible first | exact HI.out | refine IsB.alloc ?_ _ | refine IsB.drewN ?_ _ | refine IsB.drew ?_); done) | exact HI.out) hb); clear HI; have HI := HI2; clear HI2; clear hb hbox hg; obtain ⟨hcz19_0, hcz19_1, hcz19_2, hcz19_3⟩ := cz4 BK123.out; obtain ⟨hfz19_0, hfz19_1, hfz19_2, hfz19_3⟩ := fz4 BK123.out; have p124 : 0 <= ((ji9) : Int) := oz; have q124 : (ji9) < (l0.length : Int) := oz; obtain ⟨ad124, e124, hx124_0, hx124_1, hx124_2, hx124_3⟩ := at_T68 HR0.out (ji9) p124 q124; obtain rfl : ad122 = ad124 := (by injection e124); have hn124_0 : ad122.block ≠ gb123 := Nat.ne_of_lt (Nat.lt_of_lt_of_le (by have := World.block_lt_of_cell? _ _ hx124_0; first | rwa [add_block] at this | exact this) GW123.out); have hn124_1 : ad122.block ≠ gb123 := Nat.ne_of_lt (Nat.lt_of_lt_of_le (by have := World.block_lt_of_cell? _ _ hx124_0; first | rwa [add_block] at this | exact this) GW123.out); have hn124_2 : ad122.block ≠ gb123 := Nat.ne_of_lt (Nat.lt_of_lt_of_le (by have := World.block_lt_of_cell? _ _ hx124_0; first | rwa [add_block] at this | exact this) GW123.out); have hn124_3 : ad122.block ≠ gb123 := Nat.ne_of_lt (Nat.lt_of_lt_of_le (by have := World.block_lt_of_cell? _ _ hx124_0; first | rwa [add_block] at this | exact this) GW123.out); replace hx124_0 := hz HB.out hx124_0; replace hx124_1 := hz HB.out hx124_1; replace hx124_2 := hz HB.out hx124_2; replace hx124_3 := hz HB.out hx124_3; replace hx124_0 := (cell_far (p := ⟨gb123, 0, none⟩) (nz hn124_0) (.int .i64 ((rd_T68 l0 x8_1).f0))).trans hx124_0; replace hx124_1 := (cell_far (p := ⟨gb123, 0, none⟩) (nz hn124_0) (.int .i64 ((rd_T68 l0 x8_1).f0))).trans hx124_1; replace hx124_2 := (cell_far (p := ⟨gb123, 0, none⟩) (nz hn124_0) (.int .i64 ((rd_T68 l0 x8_1).f0))).trans hx124_2; replace hx124_3 := (cell_far (p := ⟨gb123, 0, none⟩) (nz hn124_0) (.int .i64 ((rd_T68 l0 x8_1).f0))).trans hx124_3; replace hx124_0 := (cell_far (p := ⟨gb123, 1, none⟩) (nz hn124_1) (.string ((rd_T68 l0 x8_1).f1))).trans hx124_0; replace hx124_1 := (cell_far (p := ⟨gb123, 1, none⟩) (nz hn124_1) (.string ((rd_T68 l0 x8_1).f1))).trans hx124_1; replace hx124_2 := (cell_far (p := ⟨gb123, 1, none⟩) (nz hn124_1) (.string ((rd_T68 l0 x8_1).f1))).trans hx124_2; replace hx124_3 := (cell_far (p := ⟨gb123, 1, none⟩) (nz hn124_1) (.string ((rd_T68 l0 x8_1).f1))).trans hx124_3; replace hx124_0 := (cell_far (p := ⟨gb123, 2, none⟩) (nz hn124_2) (.int .i64 ((rd_T68 l0 x8_1).f2))).trans hx124_0; replace hx124_1 := (cell_far (p := ⟨gb123, 2, none⟩) (nz hn124_2) (.int .i64 ((rd_T68 l0 x8_1).f2))).trans hx124_1; replace hx124_2 := (cell_far (p := ⟨gb123, 2, none⟩) (nz hn124_2) (.int .i64 ((rd_T68 l0 x8_1).f2))).trans hx124_2; replace hx124_3 := (cell_far (p := ⟨gb123, 2, none⟩) (nz hn124_2) (.int .i64 ((rd_T68 l0 x8_1).f2))).trans hx124_3; replace hx124_0 := (cell_far (p := ⟨gb123, 3, none⟩) (nz hn124_3) (.int .i64 ((rd_T68 l0 x8_1).f3))).trans hx124_0; replace hx124_1 := (cell_far (p := ⟨gb123, 3, none⟩) (nz hn124_3) (.int .i64 ((rd_T68 l0 x8_1).f3))).trans hx124_1; replace hx124_2 := (cell_far (p := ⟨gb123, 3, none⟩) (nz hn124_3) (.int .i64 ((rd_T68 l0 x8_1).f3))).trans hx124_2; replace hx124_3 := (cell_far (p := ⟨gb123, 3, none⟩) (nz hn124_3) (.int .i64 ((rd_T68 l0 x8_1).f3))).trans hx124_3; clear hn124_0; clear hn124_1; clear hn124_2; clear hn124_3; replace p124 := eq_true p124; replace q124 := eq_true q124) | ((with_reducible refine gate_callee (f := 29) rfl ?_); refine goesL_ (some 34) rfl rfl Try.func29 (by kernel_rfl) rfl #[.pointer (some ⟨gB, 0, none⟩), .string ((rd_T68 l0 x8_1).f1)] rfl lz ?_; (refine (write_string w.heap.size gB x3_1 ((rd_T68 l0 x8_1).f1) _ ?hI (of_eq_true c17b0) ?hB).mono ?_); (case hI => exact (by first | (repeat (with_reducible first | exact HI.out | refine IsB.alloc ?_ _ | refine IsB.drewN ?_ _ | refine IsB.drew ?_ | exact isb_set4 HI.out BK123.out (by decide) _ _ _ _); done) | exact HI.out)); (case hB => exact (below_size (bz1 HB.out GE123.out))); rintro e w0_ ⟨rfl, hi_, hb_, hk_⟩; refine ⟨_, rfl, ?_⟩; have n0_ := Aside0.mk ((hk_ gb123 #[.int .i64 ((rd_T68 l0 x8_1).f0), .string ((rd_T68 l0 x8_1).f1), .int .i64 ((rd_T68 l0 x8_1).f2), .int .i64 ((rd_T68 l0 x8_1).f3)] 68 (by refine kq ?_; refine blk_put (t := 68) (cs := #[.int .i64 ((rd_T68 l0 x8_1).f0), .string ((rd_T68 l0 x8_1).f1), .int .i64 ((rd_T68 l0 x8_1).f2), .int .i64 0]) ?_ 3 _ rfl; refine kq ?_; refine blk_put (t := 68) (cs := #[.int .i64 ((rd_T68 l0 x8_1).f0), .string ((rd_T68 l0 x8_1).f1), .int .i64 0, .int .i64 0]) ?_ 2 _ rfl; refine kq ?_; refine blk_put (t := 68) (cs := #[.int .i64 ((rd_T68 l0 x8_1).f0), .string (⟨#[]⟩ : ByteArray), .int .i64 0, .int .i64 0]) ?_ 1 _ rfl; refine kq ?_; refine blk_put (t := 68) (cs := #[.int .i64 0, .string (⟨#[]⟩ : ByteArray), .int .i64 0, .int .i64 0]) ?_ 0 _ rfl; refine kq ?_; exact BK123.out) (by decide)).trans (by refine kq ?_; refine blk_put (t := 68) (cs := #[.int .i64 ((rd_T68 l0 x8_1).f0), .string ((rd_T68 l0 x8_1).f1), .int .i64 ((rd_T68 l0 x8_1).f2), .int .i64 0]) ?_ 3 _ rfl; refine kq ?_; refine blk_put (t := 68) (cs := #[.int .i64 ((rd_T68 l0 x8_1).f0), .string ((rd_T68 l0 x8_1).f1), .int .i64 0, .int .i64 0]) ?_ 2 _ rfl; refine kq ?_; refine blk_put (t := 68) (cs := #[.int .i64 ((rd_T68 l0 x8_1).f0), .string (⟨#[]⟩ : ByteArray), .int .i64 0, .int .i64 0]) ?_ 1 _ rfl; refine kq ?_; refine blk_put (t := 68) (cs := #[.int .i64 0, .string (⟨#[]⟩ : ByteArray), .int .i64 0, .int .i64 0]) ?_ 0 _ rfl; refine kq ?_; exact BK123.out)); have n1_ := Aside0.mk (Below.trans (bz1 HB.out GE123.out) hb_); clear HI; have HI := Aside0.mk hi_; clear HB; have HB := n1_; clear BK123; have BKF := n0_; clear n0_ n1_; clear hi_ hb_ hk_; have hcy0_0 := (blk_cell BKF.out 0).trans rfl; have hcy0_1 := (blk_cell BKF.out 1).trans rfl))
        go_roundg k1
        case measure => have := HK1.out; omega
        case rel => exact ⟨(x3_1 ++ ((rd_T68 l0 x8_1).f1)), (wrap64 (x8_1 + 1)), ez, H', ⟨by have := HK1.out; omega⟩, ⟨(by first | (repeat (with_reducible first | exact HI.out | refine IsB.alloc ?_ _ | refine IsB.drewN ?_ _ | refine IsB.drew ?_); done) | exact HI.out)⟩, ⟨(bz1 HB.out GE123.out)⟩⟩
       ·rw [if_neg c16] at H
        have c16b0 : (((rd_T68 l0 x8_1).f0) == 2) = false := beq_eq_false_iff_ne.mpr c16
        have c16b1 : (((rd_T68 l0 x8_1).f0) != 2) = true := bne_iff_ne.mpr c16
        replace H := iz H
        obtain ⟨c20, H⟩ := H
        have c20b0 := eq_true c20
        have c20b1 : decide (x3_1.size + 1 <= 140737488355328) = true := decide_eq_true c20
        try have c20b2 : (140737488355328 < x3_1.size + 1) = False := eq_false (Nat.not_lt.2 c20)
        replace H := iz H
        obtain ⟨c21, H⟩ := H
        have c21b0 := eq_true c21
        have c21b1 : decide ((x3_1 ++ (⟨#[32]⟩ : ByteArray)).size + ((rd_T68 l0 x8_1).f1).size <= 140737488355328) = true := decide_eq_true c21
        try have c21b2 : (140737488355328 < (x3_1 ++ (⟨#[32]⟩ : ByteArray)).size + ((rd_T68 l0 x8_1).f1).size) = False := eq_false (Nat.not_lt.2 c21)
        (try (have c21b2z := c21b2; simp only [ByteArray.size_append, show (⟨#[32]⟩ : ByteArray).size = 1 from rfl] at c21b2z))
        have H' := Aside0.mk H
        clear H
        have p122 : 0 <= (x8_1 : Int) := oz
        have q122 : x8_1 < (l0.length : Int) := oz
        obtain ⟨ad122, e122, hx122_0, hx122_1, hx122_2, hx122_3⟩ := at_T68 (Kd.C_below HR0.out HB.out) x8_1 p122 q122
        cases e122
        replace p122 := eq_true p122
        replace q122 := eq_true q122
        go_wp2_with (first | ((with_reducible refine gate_dst (N := 5) rfl ?_); refine box_event ?hg (N := 5) ?hd (cs := #[.int .i64 0, .string (⟨#[]⟩ : ByteArray), .int .i64 0, .int .i64 0]) (t := 68) ?hr ?_; (case hd => rfl); (case hg => rfl); (case hr => exact vz); intro gb123 hg w22 hbox hb; have BK123 := Aside0.mk (hbox); have GW123 := Aside0.mk ((by rw [hg]; exact (below_size (bz0 HB.out)) : w.heap.size <= gb123)); have GE123 := Aside0.mk ((by rw [hg]; exact (below_size (bz0 HB.out)) : w.heap.size <= gb123)); replace HB := Aside0.mk (below_step (bz0 HB.out) hb); have HI2 := Aside0.mk (IsB.below (by first | (repeat (with_reducible first | exact HI.out | refine IsB.alloc ?_ _ | refine IsB.drewN ?_ _ | refine IsB.drew ?_); done) | exact HI.out) hb); clear HI; have HI := HI2; clear HI2; clear hb hbox hg; obtain ⟨hcz23_0, hcz23_1, hcz23_2, hcz23_3⟩ := cz4 BK123.out; obtain ⟨hfz23_0, hfz23_1, hfz23_2, hfz23_3⟩ := fz4 BK123.out; have p124 : 0 <= ((ji9) : Int) := oz; have q124 : (ji9) < (l0.length : Int) := oz; obtain ⟨ad124, e124, hx124_0, hx124_1, hx124_2, hx124_3⟩ := at_T68 HR0.out (ji9) p124 q124; obtain rfl : ad122 = ad124 := (by injection e124); have hn124_0 : ad122.block ≠ gb123 := Nat.ne_of_lt (Nat.lt_of_lt_of_le (by have := World.block_lt_of_cell? _ _ hx124_0; first | rwa [add_block] at this | exact this) GW123.out); have hn124_1 : ad122.block ≠ gb123 := Nat.ne_of_lt (Nat.lt_of_lt_of_le (by have := World.block_lt_of_cell? _ _ hx124_0; first | rwa [add_block] at this | exact this) GW123.out); have hn124_2 : ad122.block ≠ gb123 := Nat.ne_of_lt (Nat.lt_of_lt_of_le (by have := World.block_lt_of_cell? _ _ hx124_0; first | rwa [add_block] at this | exact this) GW123.out); have hn124_3 : ad122.block ≠ gb123 := Nat.ne_of_lt (Nat.lt_of_lt_of_le (by have := World.block_lt_of_cell? _ _ hx124_0; first | rwa [add_block] at this | exact this) GW123.out); replace hx124_0 := hz HB.out hx124_0; replace hx124_1 := hz HB.out hx124_1; replace hx124_2 := hz HB.out hx124_2; replace hx124_3 := hz HB.out hx124_3; replace hx124_0 := (cell_far (p := ⟨gb123, 0, none⟩) (nz hn124_0) (.int .i64 ((rd_T68 l0 x8_1).f0))).trans hx124_0; replace hx124_1 := (cell_far (p := ⟨gb123, 0, none⟩) (nz hn124_0) (.int .i64 ((rd_T68 l0 x8_1).f0))).trans hx124_1; replace hx124_2 := (cell_far (p := ⟨gb123, 0, none⟩) (nz hn124_0) (.int .i64 ((rd_T68 l0 x8_1).f0))).trans hx124_2; replace hx124_3 := (cell_far (p := ⟨gb123, 0, none⟩) (nz hn124_0) (.int .i64 ((rd_T68 l0 x8_1).f0))).trans hx124_3; replace hx124_0 := (cell_far (p := ⟨gb123, 1, none⟩) (nz hn124_1) (.string ((rd_T68 l0 x8_1).f1))).trans hx124_0; replace hx124_1 := (cell_far (p := ⟨gb123, 1, none⟩) (nz hn124_1) (.string ((rd_T68 l0 x8_1).f1))).trans hx124_1; replace hx124_2 := (cell_far (p := ⟨gb123, 1, none⟩) (nz hn124_1) (.string ((rd_T68 l0 x8_1).f1))).trans hx124_2; replace hx124_3 := (cell_far (p := ⟨gb123, 1, none⟩) (nz hn124_1) (.string ((rd_T68 l0 x8_1).f1))).trans hx124_3; replace hx124_0 := (cell_far (p := ⟨gb123, 2, none⟩) (nz hn124_2) (.int .i64 ((rd_T68 l0 x8_1).f2))).trans hx124_0; replace hx124_1 := (cell_far (p := ⟨gb123, 2, none⟩) (nz hn124_2) (.int .i64 ((rd_T68 l0 x8_1).f2))).trans hx124_1; replace hx124_2 := (cell_far (p := ⟨gb123, 2, none⟩) (nz hn124_2) (.int .i64 ((rd_T68 l0 x8_1).f2))).trans hx124_2; replace hx124_3 := (cell_far (p := ⟨gb123, 2, none⟩) (nz hn124_2) (.int .i64 ((rd_T68 l0 x8_1).f2))).trans hx124_3; replace hx124_0 := (cell_far (p := ⟨gb123, 3, none⟩) (nz hn124_3) (.int .i64 ((rd_T68 l0 x8_1).f3))).trans hx124_0; replace hx124_1 := (cell_far (p := ⟨gb123, 3, none⟩) (nz hn124_3) (.int .i64 ((rd_T68 l0 x8_1).f3))).trans hx124_1; replace hx124_2 := (cell_far (p := ⟨gb123, 3, none⟩) (nz hn124_3) (.int .i64 ((rd_T68 l0 x8_1).f3))).trans hx124_2; replace hx124_3 := (cell_far (p := ⟨gb123, 3, none⟩) (nz hn124_3) (.int .i64 ((rd_T68 l0 x8_1).f3))).trans hx124_3; clear hn124_0; clear hn124_1; clear hn124_2; clear hn124_3; replace p124 := eq_true p124; replace q124 := eq_true q124) | ((with_reducible refine gate_callee (f := 29) rfl ?_); refine goesL_ (some 31) rfl rfl Try.func29 (by kernel_rfl) rfl #[.pointer (some ⟨gB, 0, none⟩), .string (⟨#[32]⟩ : ByteArray)] rfl lz ?_; (refine (write_string w.heap.size gB x3_1 (⟨#[32]⟩ : ByteArray) _ ?hI (of_eq_true c20b0) ?hB).mono ?_); (case hI => exact (by first | (repeat (with_reducible first | exact HI.out | refine IsB.alloc ?_ _ | refine IsB.drewN ?_ _ | refine IsB.drew ?_ | exact isb_set4 HI.out BK123.out (by decide) _ _ _ _); done) | exact HI.out)); (case hB => exact (below_size (bz1 HB.out GE123.out))); rintro e w0_ ⟨rfl, hi_, hb_, hk_⟩; refine ⟨_, rfl, ?_⟩; have n0_ := Aside0.mk ((hk_ gb123 #[.int .i64 ((rd_T68 l0 x8_1).f0), .string ((rd_T68 l0 x8_1).f1), .int .i64 ((rd_T68 l0 x8_1).f2), .int .i64 ((rd_T68 l0 x8_1).f3)] 68 (by refine kq ?_; refine blk_put (t := 68) (cs := #[.int .i64 ((rd_T68 l0 x8_1).f0), .string ((rd_T68 l0 x8_1).f1), .int .i64 ((rd_T68 l0 x8_1).f2), .int .i64 0]) ?_ 3 _ rfl; refine kq ?_; refine blk_put (t := 68) (cs := #[.int .i64 ((rd_T68 l0 x8_1).f0), .string ((rd_T68 l0 x8_1).f1), .int .i64 0, .int .i64 0]) ?_ 2 _ rfl; refine kq ?_; refine blk_put (t := 68) (cs := #[.int .i64 ((rd_T68 l0 x8_1).f0), .string (⟨#[]⟩ : ByteArray), .int .i64 0, .int .i64 0]) ?_ 1 _ rfl; refine kq ?_; refine blk_put (t := 68) (cs := #[.int .i64 0, .string (⟨#[]⟩ : ByteArray), .int .i64 0, .int .i64 0]) ?_ 0 _ rfl; refine kq ?_; exact BK123.out) (by decide)).trans (by refine kq ?_; refine blk_put (t := 68) (cs := #[.int .i64 ((rd_T68 l0 x8_1).f0), .string ((rd_T68 l0 x8_1).f1), .int .i64 ((rd_T68 l0 x8_1).f2), .int .i64 0]) ?_ 3 _ rfl; refine kq ?_; refine blk_put (t := 68) (cs := #[.int .i64 ((rd_T68 l0 x8_1).f0), .string ((rd_T68 l0 x8_1).f1), .int .i64 0, .int .i64 0]) ?_ 2 _ rfl; refine kq ?_; refine blk_put (t := 68) (cs := #[.int .i64 ((rd_T68 l0 x8_1).f0), .string (⟨#[]⟩ : ByteArray), .int .i64 0, .int .i64 0]) ?_ 1 _ rfl; refine kq ?_; refine blk_put (t := 68) (cs := #[.int .i64 0, .string (⟨#[]⟩ : ByteArray), .int .i64 0, .int .i64 0]) ?_ 0 _ rfl; refine kq ?_; exact BK123.out)); have n1_ := Aside0.mk (Below.trans (bz1 HB.out GE123.out) hb_); clear HI; have HI := Aside0.mk hi_; clear HB; have HB := n1_; clear BK123; have BKF := n0_; clear n0_ n1_; clear hi_ hb_ hk_; have hcy0_0 := (blk_cell BKF.out 0).trans rfl; have hcy0_1 := (blk_cell BKF.out 1).trans rfl) | ((with_reducible refine gate_callee (f := 29) rfl ?_); refine goesL_ (some 34) rfl rfl Try.func29 (by kernel_rfl) rfl #[.pointer (some ⟨gB, 0, none⟩), .string ((rd_T68 l0 x8_1).f1)] rfl lz ?_; (refine (write_string w.heap.size gB (x3_1 ++ (⟨#[32]⟩ : ByteArray)) ((rd_T68 l0 x8_1).f1) _ ?hI (of_eq_true c21b0) ?hB).mono ?_); (case hI => exact (by first | (repeat (with_reducible first | exact HI.out | refine IsB.alloc ?_ _ | refine IsB.drewN ?_ _ | refine IsB.drew ?_); done) | exact HI.out)); (case hB => exact (below_size (bz1 HB.out GE123.out))); rintro e w1_ ⟨rfl, hi_, hb_, hk_⟩; refine ⟨_, rfl, ?_⟩; have n0_ := Aside0.mk ((hk_ gb123 #[.int .i64 ((rd_T68 l0 x8_1).f0), .string ((rd_T68 l0 x8_1).f1), .int .i64 ((rd_T68 l0 x8_1).f2), .int .i64 ((rd_T68 l0 x8_1).f3)] 68 (kz BKF.out) (by decide)).trans (kz BKF.out)); have n1_ := Aside0.mk (Below.trans (bz1 HB.out GE123.out) hb_); clear HI; have HI := Aside0.mk hi_; clear HB; have HB := n1_; clear BKF; have BKF := n0_; clear n0_ n1_; clear hi_ hb_ hk_; have hcy1_0 := (blk_cell BKF.out 0).trans rfl; have hcy1_1 := (blk_cell BKF.out 1).trans rfl))
        go_roundg k1
        case measure => have := HK1.out; omega
        case rel => exact ⟨((x3_1 ++ (⟨#[32]⟩ : ByteArray)) ++ ((rd_T68 l0 x8_1).f1)), (wrap64 (x8_1 + 1)), ez, H', ⟨by have := HK1.out; omega⟩, ⟨(by first | (repeat (with_reducible first | exact HI.out | refine IsB.alloc ?_ _ | refine IsB.drewN ?_ _ | refine IsB.drew ?_); done) | exact HI.out)⟩, ⟨(bz1 HB.out GE123.out)⟩⟩
     ·rw [if_neg c8] at H
      have c8b0 : decide (0 < x8_1) = false := decide_eq_false c8
      clear c8
      replace H := iz H
      obtain ⟨c24, H⟩ := H
      have c24b0 := eq_true c24
      have c24b1 : decide (x3_1.size + ((rd_T68 l0 x8_1).f1).size <= 140737488355328) = true := decide_eq_true c24
      try have c24b2 : (140737488355328 < x3_1.size + ((rd_T68 l0 x8_1).f1).size) = False := eq_false (Nat.not_lt.2 c24)
      have H' := Aside0.mk H
      clear H
      have p122 : 0 <= (x8_1 : Int) := oz
      have q122 : x8_1 < (l0.length : Int) := oz
      obtain ⟨ad122, e122, hx122_0, hx122_1, hx122_2, hx122_3⟩ := at_T68 (Kd.C_below HR0.out HB.out) x8_1 p122 q122
      cases e122
      replace p122 := eq_true p122
      replace q122 := eq_true q122
      go_wp2_with (first | ((with_reducible refine gate_dst (N := 5) rfl ?_); refine box_event ?hg (N := 5) ?hd (cs := #[.int .i64 0, .string (⟨#[]⟩ : ByteArray), .int .i64 0, .int .i64 0]) (t := 68) ?hr ?_; (case hd => rfl); (case hg => rfl); (case hr => exact vz); intro gb123 hg w25 hbox hb; have BK123 := Aside0.mk (hbox); have GW123 := Aside0.mk ((by rw [hg]; exact (below_size (bz0 HB.out)) : w.heap.size <= gb123)); have GE123 := Aside0.mk ((by rw [hg]; exact (below_size (bz0 HB.out)) : w.heap.size <= gb123)); replace HB := Aside0.mk (below_step (bz0 HB.out) hb); have HI2 := Aside0.mk (IsB.below (by first | (repeat (with_reducible first | exact HI.out | refine IsB.alloc ?_ _ | refine IsB.drewN ?_ _ | refine IsB.drew ?_); done) | exact HI.out) hb); clear HI; have HI := HI2; clear HI2; clear hb hbox hg; obtain ⟨hcz26_0, hcz26_1, hcz26_2, hcz26_3⟩ := cz4 BK123.out; obtain ⟨hfz26_0, hfz26_1, hfz26_2, hfz26_3⟩ := fz4 BK123.out) | ((with_reducible refine gate_callee (f := 29) rfl ?_); refine goesL_ (some 34) rfl rfl Try.func29 (by kernel_rfl) rfl #[.pointer (some ⟨gB, 0, none⟩), .string ((rd_T68 l0 x8_1).f1)] rfl lz ?_; (refine (write_string w.heap.size gB x3_1 ((rd_T68 l0 x8_1).f1) _ ?hI (of_eq_true c24b0) ?hB).mono ?_); (case hI => exact (by first | (repeat (with_reducible first | exact HI.out | refine IsB.alloc ?_ _ | refine IsB.drewN ?_ _ | refine IsB.drew ?_ | exact isb_set4 HI.out BK123.out (by decide) _ _ _ _); done) | exact HI.out)); (case hB => exact (below_size (bz1 HB.out GE123.out))); rintro e w0_ ⟨rfl, hi_, hb_, hk_⟩; refine ⟨_, rfl, ?_⟩; have n0_ := Aside0.mk ((hk_ gb123 #[.int .i64 ((rd_T68 l0 x8_1).f0), .string ((rd_T68 l0 x8_1).f1), .int .i64 ((rd_T68 l0 x8_1).f2), .int .i64 ((rd_T68 l0 x8_1).f3)] 68 (by refine kq ?_; refine blk_put (t := 68) (cs := #[.int .i64 ((rd_T68 l0 x8_1).f0), .string ((rd_T68 l0 x8_1).f1), .int .i64 ((rd_T68 l0 x8_1).f2), .int .i64 0]) ?_ 3 _ rfl; refine kq ?_; refine blk_put (t := 68) (cs := #[.int .i64 ((rd_T68 l0 x8_1).f0), .string ((rd_T68 l0 x8_1).f1), .int .i64 0, .int .i64 0]) ?_ 2 _ rfl; refine kq ?_; refine blk_put (t := 68) (cs := #[.int .i64 ((rd_T68 l0 x8_1).f0), .string (⟨#[]⟩ : ByteArray), .int .i64 0, .int .i64 0]) ?_ 1 _ rfl; refine kq ?_; refine blk_put (t := 68) (cs := #[.int .i64 0, .string (⟨#[]⟩ : ByteArray), .int .i64 0, .int .i64 0]) ?_ 0 _ rfl; refine kq ?_; exact BK123.out) (by decide)).trans (by refine kq ?_; refine blk_put (t := 68) (cs := #[.int .i64 ((rd_T68 l0 x8_1).f0), .string ((rd_T68 l0 x8_1).f1), .int .i64 ((rd_T68 l0 x8_1).f2), .int .i64 0]) ?_ 3 _ rfl; refine kq ?_; refine blk_put (t := 68) (cs := #[.int .i64 ((rd_T68 l0 x8_1).f0), .string ((rd_T68 l0 x8_1).f1), .int .i64 0, .int .i64 0]) ?_ 2 _ rfl; refine kq ?_; refine blk_put (t := 68) (cs := #[.int .i64 ((rd_T68 l0 x8_1).f0), .string (⟨#[]⟩ : ByteArray), .int .i64 0, .int .i64 0]) ?_ 1 _ rfl; refine kq ?_; refine blk_put (t := 68) (cs := #[.int .i64 0, .string (⟨#[]⟩ : ByteArray), .int .i64 0, .int .i64 0]) ?_ 0 _ rfl; refine kq ?_; exact BK123.out)); have n1_ := Aside0.mk (Below.trans (bz1 HB.out GE123.out) hb_); clear HI; have HI := Aside0.mk hi_; clear HB; have HB := n1_; clear BK123; have BKF := n0_; clear n0_ n1_; clear hi_ hb_ hk_; have hcy0_0 := (blk_cell BKF.out 0).trans rfl; have hcy0_1 := (blk_cell BKF.out 1).trans rfl))
      go_roundg k1
      case measure => have := HK1.out; omega
      case rel => exact ⟨(x3_1 ++ ((rd_T68 l0 x8_1).f1)), (wrap64 (x8_1 + 1)), ez, H', ⟨by have := HK1.out; omega⟩, ⟨(by first | (repeat (with_reducible first | exact HI.out | refine IsB.alloc ?_ _ | refine IsB.drewN ?_ _ | refine IsB.drew ?_); done) | exact HI.out)⟩, ⟨(bz1 HB.out GE123.out)⟩⟩
   ·rw [if_neg c2] at H
    have c2b0 := decide_eq_false c2
    clear c2
    obtain rfl := Option.some.inj H
    go_wp2_with (first | ((with_reducible refine gate_callee (f := 30) rfl ?_); refine goesL_ (some 36) rfl rfl Try.func30 (by kernel_rfl) rfl #[.pointer (some ⟨gB, 0, none⟩)] rfl lz ?_; (refine (read_string w.heap.size gB r _ ?hI ?hB).mono ?_); (case hI => exact (by first | (repeat (with_reducible first | exact HI.out | refine IsB.alloc ?_ _ | refine IsB.drewN ?_ _ | refine IsB.drew ?_); done) | exact HI.out)); (case hB => exact (below_size (bz0 HB.out))); rintro e w9_ ⟨rfl, hb_⟩; refine ⟨_, rfl, ?_⟩; have n1_ := Aside0.mk (Below.trans (bz0 HB.out) hb_); clear HB; have HB := n1_; clear n1_; clear hb_) | ((with_reducible refine gate_callee (f := 30) rfl ?_); refine goesL_ (some 36) rfl rfl Try.func30 (by kernel_rfl) rfl #[.pointer (some ⟨gB, 0, none⟩)] rfl lz ?_; (refine (read_string w.heap.size gB x3_1 _ ?hI ?hB).mono ?_); (case hI => exact (by first | (repeat (with_reducible first | exact HI.out | refine IsB.alloc ?_ _ | refine IsB.drewN ?_ _ | refine IsB.drew ?_); done) | exact HI.out)); (case hB => exact (below_size (bz0 HB.out))); rintro e w9_ ⟨rfl, hb_⟩; refine ⟨_, rfl, ?_⟩; have n1_ := Aside0.mk (Below.trans (bz0 HB.out) hb_); clear HB; have HB := n1_; clear n1_; clear hb_))
    go_ret
    exact ⟨gz, (bz0 HB.out)⟩
end Go.Proofs.Ytlhofeikcaejpaa.PFnExactUnlex
