/- PFnUnifiedx3, of the words and walks that the law FnUnified needs; made by this session's program out of printed texts. -/

import Derived.Test.YtlhofeikcaejpaaDoorVFnUnifiedPx0
import Derived.Test.YtlhofeikcaejpaaDoorVFnUnifiedPx1
import Derived.Test.YtlhofeikcaejpaaDoorVFnUnifiedPx2
namespace Go.Proofs.YtlhofeikcaejpaaDoor.PFnUnified
open Go.RowKit Go.Proofs.YtlhofeikcaejpaaDoorW.PrintWords Go.Proofs.YtlhofeikcaejpaaDoorW.PrintLast Go.Proofs.YtlhofeikcaejpaaDoorW.PrintMore
attribute [local go_sem] max2_int min2_int max_two min_two max_three min_three max_four min_four
set_option linter.unusedVariables false
set_option linter.unusedSimpArgs false
mutual
def impl_count.j1 : Nat -> List (S55) -> Int -> Int -> Option (Int)
 | 0, _, _, _ => none
 | k + 1, x0, x1, x2 => if 0 <= x1 then (if x1 < (x0.length : Int) then ((impl_partsOf.f k ((rd_T55 x0 x1).f0) ((rd_T55 x0 x1).f1) ((rd_T55 x0 x1).f2)).bind fun t138 => (impl_count.l1 k x0 x2 1 t138 (t138.length : Int) 0)) else (none)) else (none)
def impl_count.l1 : Nat -> List (S55) -> Int -> Int -> List Int -> Int -> Int -> Option (Int)
 | 0, _, _, _, _, _, _ => none
 | k + 1, x0, x2, x7, x33, x34, x35 => if x35 < x34 then (if 0 <= x35 then (if x35 < (x33.length : Int) then (if x7 > x2 then (some x7) else ((impl_count.f k x0 (rd x33 x35) (wrap64 (x2 - x7))).bind fun t142 => (impl_count.l1 k x0 x2 (wrap64 (x7 + t142)) x33 x34 (wrap64 (x35 + 1))))) else (none)) else (none)) else (some x7)
def impl_count.l0 : Nat -> List (S55) -> Int -> Int -> Option (Int)
 | 0, _, _, _ => none
 | k + 1, x0, x1, x2 => if 0 <= x1 then (if x1 < (x0.length : Int) then (if ((rd_T55 x0 x1).f0) = 0 then (if ((rd_T55 x0 x1).f1) ≥ 0 then (impl_count.l0 k x0 ((rd_T55 x0 x1).f1) x2) else (impl_count.j1 k x0 x1 x2)) else (impl_count.j1 k x0 x1 x2)) else (none)) else (none)
def impl_count.f : Nat -> List (S55) -> Int -> Int -> Option (Int)
 | 0, _, _, _ => none
 | k + 1, l0, a1, a2 => impl_count.l0 k l0 a1 a2
end
theorem impl_count.mono_l : ∀ k, (∀ y0 y1 y2, LeO (impl_count.f k y0 y1 y2) (impl_count.f (k + 1) y0 y1 y2)) /\ (∀ y0 y1 y2, LeO (impl_count.j1 k y0 y1 y2) (impl_count.j1 (k + 1) y0 y1 y2)) /\ (∀ y0 y1 y2 y3 y4 y5, LeO (impl_count.l1 k y0 y1 y2 y3 y4 y5) (impl_count.l1 (k + 1) y0 y1 y2 y3 y4 y5)) /\ (∀ y0 y1 y2, LeO (impl_count.l0 k y0 y1 y2) (impl_count.l0 (k + 1) y0 y1 y2))
 | 0 => ⟨fun _ _ _ r h => by simp [impl_count.f] at h, fun _ _ _ r h => by simp [impl_count.j1] at h, fun _ _ _ _ _ _ r h => by simp [impl_count.l1] at h, fun _ _ _ r h => by simp [impl_count.l0] at h⟩
 | k + 1 => by
  obtain ⟨ih0, ih1, ih2, ih3⟩ := impl_count.mono_l k
  refine ⟨?_, ?_, ?_, ?_⟩
  ·intro y0 y1 y2
   unfold impl_count.f
   with_reducible repeat' first | exact ih0 _ _ _ | exact ih1 _ _ _ | exact ih2 _ _ _ _ _ _ | exact ih3 _ _ _ | exact impl_partsOf.mono _ _ _ _ | exact lrz _ | exact lnz _ | refine liz ?_ ?_ | refine lbz ?_ fun _ => ?_
  ·intro y0 y1 y2
   unfold impl_count.j1
   with_reducible repeat' first | exact ih0 _ _ _ | exact ih1 _ _ _ | exact ih2 _ _ _ _ _ _ | exact ih3 _ _ _ | exact impl_partsOf.mono _ _ _ _ | exact lrz _ | exact lnz _ | refine liz ?_ ?_ | refine lbz ?_ fun _ => ?_
  ·intro y0 y1 y2 y3 y4 y5
   unfold impl_count.l1
   with_reducible repeat' first | exact ih0 _ _ _ | exact ih1 _ _ _ | exact ih2 _ _ _ _ _ _ | exact ih3 _ _ _ | exact impl_partsOf.mono _ _ _ _ | exact lrz _ | exact lnz _ | refine liz ?_ ?_ | refine lbz ?_ fun _ => ?_
  ·intro y0 y1 y2
   unfold impl_count.l0
   with_reducible repeat' first | exact ih0 _ _ _ | exact ih1 _ _ _ | exact ih2 _ _ _ _ _ _ | exact ih3 _ _ _ | exact impl_partsOf.mono _ _ _ _ | exact lrz _ | exact lnz _ | refine liz ?_ ?_ | refine lbz ?_ fun _ => ?_
theorem impl_count.mono : ∀ a0 a1 a2 k, LeO (impl_count.f k a0 a1 a2) (impl_count.f (k + 1) a0 a1 a2) := by
 intro a0 a1 a2 k
 obtain ⟨ih0, ih1, ih2, ih3⟩ := impl_count.mono_l k
 exact ih0 a0 a1 a2
set_option maxHeartbeats 8000000 in
set_option maxRecDepth 100000 in
theorem impl_count.calls (k : Nat) : ∀ (A0 : Option Addr) (c0 : Nat) (l0 : List (S55)) (a1 : Int) (a2 : Int) (r : Int) (w : World) (hr0 : Kd.C k55 w A0 l0.length l0) (hc0 : l0.length <= c0) (h : impl_count.f k l0 a1 a2 = some r),
  Calls Tryd.prog 80 #[.slice A0 l0.length c0, .int .i64 a1, .int .i64 a2] w fun e w' => e = .returned (.int .i64 r) /\ Below w.heap.size w w' := by
 induction k using Nat.strongRecOn with
 | _ k ih =>
 intro A0 c0 l0 a1 a2 r w hr0 hc0 h
 cases k with
 | zero => exact absurd h (by simp [impl_count.f])
 | succ k =>
 simp only [impl_count.f] at h
 have hu55 := Tryd.underlying55
 have HR0 := Aside0.mk hr0
 have HC0 := Aside0.mk hc0
 clear hr0 hc0
 have HB := Aside0.mk (Below.refl w.heap.size w)
 have H : (impl_count.l0 k l0 a1 a2) = some r := h
 clear h
 have HC4 := Aside0.mk H
 clear H
 go_enter Tryd.func80, Tryd.ntmps80
 go_upto_block 0 with (fail)
 go_cut [1] (fun v1 wc => ∃ (kq : Nat) (x1_3 : Int), v1 = .int .i64 x1_3 /\ Aside0 (impl_count.j1 kq l0 x1_3 a2 = some r) /\ Aside0 (kq <= k) /\ Aside0 (Below w.heap.size w wc))
 case first =>
  have H := HC4.out
  clear HC4
  have H' := Aside0.mk H
  clear H
  go_wp2
  go_loopg [1] k (fun kq v1 w' => ∃ (x1_1 : Int), v1 = .int .i64 x1_1 /\ Aside0 (impl_count.l0 kq l0 x1_1 a2 = some r) /\ Aside0 (kq <= k) /\ Aside0 (Below w.heap.size w w'))
  case atStart => exact ⟨(a1), ez, H', ⟨Nat.le_refl _⟩, ⟨(bz0 HB.out)⟩⟩
  case round =>
   clear H'
   try clear p2
   obtain ⟨x1_1, rfl, HA, HK1, HB⟩ := hrel
   cases gk with
   | zero => exact absurd HA.out (by simp [impl_count.l0])
   | succ k1 =>
    have H := HA.out
    clear HA
    simp only [impl_count.l0] at H
    replace H := iz H
    obtain ⟨c5, H⟩ := H
    have c5b0 := decide_eq_true c5
    clear c5
    (first | rw [c5b0] | (simp only [i64_w, i32_w]; rw [c5b0]) | skip)
    replace H := iz H
    obtain ⟨c6, H⟩ := H
    have c6b0 := decide_eq_true c6
    clear c6
    by_cases c7 : ((rd_T55 l0 x1_1).f0) = 0
    ·rw [if_pos c7] at H
     have c7b0 : (((rd_T55 l0 x1_1).f0) == 0) = true := beq_iff_eq.mpr c7
     have c7b1 : (((rd_T55 l0 x1_1).f0) != 0) = false := bne_eq_false_iff_eq.mpr c7
     clear c7
     by_cases c8 : ((rd_T55 l0 x1_1).f1) ≥ 0
     ·rw [if_pos c8] at H
      have c8b0 : decide (0 <= ((rd_T55 l0 x1_1).f1)) = true := decide_eq_true c8
      clear c8
      have H' := Aside0.mk H
      clear H
      have p134 : 0 <= (x1_1 : Int) := oz
      have q134 : x1_1 < (l0.length : Int) := oz
      obtain ⟨ad134, e134, hx134_0, hx134_1, hx134_2⟩ := at_T55 (Kd.C_below HR0.out HB.out) x1_1 p134 q134
      cases e134
      replace p134 := eq_true p134
      replace q134 := eq_true q134
      have p135 : 0 <= (x1_1 : Int) := oz
      have q135 : x1_1 < (l0.length : Int) := oz
      obtain ⟨ad135, e135, hx135_0, hx135_1, hx135_2⟩ := at_T55 (Kd.C_below HR0.out HB.out) x1_1 p135 q135
      obtain rfl : ad134 = ad135 := (by injection e135)
      replace p135 := eq_true p135
      replace q135 := eq_true q135
      have p136 : 0 <= (x1_1 : Int) := oz
      have q136 : x1_1 < (l0.length : Int) := oz
      obtain ⟨ad136, e136, hx136_0, hx136_1, hx136_2⟩ := at_T55 (Kd.C_below HR0.out HB.out) x1_1 p136 q136
      obtain rfl : ad134 = ad136 := (by injection e136)
      replace p136 := eq_true p136
      replace q136 := eq_true q136
      go_wp2
      go_roundg k1
      case measure => have := HK1.out; omega
      case rel => exact ⟨((rd_T55 l0 x1_1).f1), ez, H', ⟨by have := HK1.out; omega⟩, ⟨(bz0 HB.out)⟩⟩
     ·rw [if_neg c8] at H
      have c8b0 : decide (0 <= ((rd_T55 l0 x1_1).f1)) = false := decide_eq_false c8
      clear c8
      have H' := Aside0.mk H
      clear H
      have p134 : 0 <= (x1_1 : Int) := oz
      have q134 : x1_1 < (l0.length : Int) := oz
      obtain ⟨ad134, e134, hx134_0, hx134_1, hx134_2⟩ := at_T55 (Kd.C_below HR0.out HB.out) x1_1 p134 q134
      cases e134
      replace p134 := eq_true p134
      replace q134 := eq_true q134
      have p135 : 0 <= (x1_1 : Int) := oz
      have q135 : x1_1 < (l0.length : Int) := oz
      obtain ⟨ad135, e135, hx135_0, hx135_1, hx135_2⟩ := at_T55 (Kd.C_below HR0.out HB.out) x1_1 p135 q135
      obtain rfl : ad134 = ad135 := (by injection e135)
      replace p135 := eq_true p135
      replace q135 := eq_true q135
      go_wp2
      go_meet
      case rel => exact ⟨_, (x1_1), ez, H', ⟨by have := HK1.out; first | omega | exact Nat.le_refl _⟩, ⟨(bz0 HB.out)⟩⟩
    ·rw [if_neg c7] at H
     have c7b0 : (((rd_T55 l0 x1_1).f0) == 0) = false := beq_eq_false_iff_ne.mpr c7
     have c7b1 : (((rd_T55 l0 x1_1).f0) != 0) = true := bne_iff_ne.mpr c7
     have H' := Aside0.mk H
     clear H
     have p134 : 0 <= (x1_1 : Int) := oz
     have q134 : x1_1 < (l0.length : Int) := oz
     obtain ⟨ad134, e134, hx134_0, hx134_1, hx134_2⟩ := at_T55 (Kd.C_below HR0.out HB.out) x1_1 p134 q134
     cases e134
     replace p134 := eq_true p134
     replace q134 := eq_true q134
     go_wp2
     go_meet
     case rel => exact ⟨_, (x1_1), ez, H', ⟨by have := HK1.out; first | omega | exact Nat.le_refl _⟩, ⟨(bz0 HB.out)⟩⟩
 case rest =>
  clear HC4
  try clear p1
  try clear q1
  try clear hx1
  try clear p2
  try clear c5
  try clear c5b0
  try clear c6
  try clear c6b0
  try clear c7
  try clear c7b0
  try clear c7b1
  try clear c8
  try clear c8b0
  try clear hx134_0
  try clear hx134_1
  try clear hx134_2
  try clear hx135_0
  try clear hx135_1
  try clear hx135_2
  try clear hx136_0
  try clear hx136_1
  try clear hx136_2
  try clear p134
  try clear p135
  try clear p136
  try clear p2
  try clear q134
  try clear q135
  try clear q136
  obtain ⟨kq, x1_3, rfl, HA, HJ3, HB⟩ := hcut
  cases kq with
  | zero => exact absurd HA.out (by simp [impl_count.j1])
  | succ kj3 =>
   have H := HA.out
   clear HA
   simp only [impl_count.j1] at H
   replace H := iz H
   obtain ⟨c9, H⟩ := H
   have c9b0 := decide_eq_true c9
   clear c9
   replace H := iz H
   obtain ⟨c10, H⟩ := H
   have c10b0 := decide_eq_true c10
   clear c10
   replace H := bi H
   obtain ⟨t138, A110, H⟩ := H
   try dsimp only at H
   have A11 := Aside0.mk A110
   clear A110
   have H' := Aside0.mk H
   clear H
   have p137 : 0 <= (x1_3 : Int) := oz
   have q137 : x1_3 < (l0.length : Int) := oz
   obtain ⟨ad137, e137, hx137_0, hx137_1, hx137_2⟩ := at_T55 (Kd.C_below HR0.out HB.out) x1_3 p137 q137
   cases e137
   replace p137 := eq_true p137
   replace q137 := eq_true q137
   go_wp2_with (first | ((with_reducible refine gate_callee (f := 79) rfl ?_); refine goesL_ (some 33) rfl rfl Tryd.func79 (by kernel_rfl) rfl #[.agg #[.int .i64 ((rd_T55 l0 x1_3).f0), .int .i64 ((rd_T55 l0 x1_3).f1), .int .i64 ((rd_T55 l0 x1_3).f2)]] rfl lz ?_; (with_reducible refine (impl_partsOf.calls kj3 ((rd_T55 l0 x1_3).f0) ((rd_T55 l0 x1_3).f1) ((rd_T55 l0 x1_3).f2) t138 _ A11.out).mono ?_); rintro e w12 ⟨v139, rfl, ho0, hb⟩; refine ⟨_, rfl, ?_⟩; have HO140 := Aside0.mk (Kd.R_lower ho0 (below_size (bz0 HB.out))); replace HB := Aside0.mk (below_step (bz0 HB.out) hb); (try clear hb); (try clear ho0); obtain ⟨Ao13, co13, eo13⟩ := Kd.R_slice HO140.out; subst eo13))
   go_loopg [7, 35] kj3 (fun kq v7 v35 w' => ∃ (x7_2 : Int) (x35_2 : Int), v7 = .int .i64 x7_2 /\ v35 = .int .i64 x35_2 /\ Aside0 (impl_count.l1 kq l0 a2 x7_2 t138 (t138.length : Int) x35_2 = some r) /\ Aside0 (kq <= kj3) /\ Aside0 (Kd.R (Kd.int .i64) 3 w' w.heap.size (fun _ => True) (.slice Ao13 t138.length co13) t138) /\ Aside0 (Below w.heap.size w w'))
   case atStart => exact ⟨(1), (0), ez, ez, H', ⟨Nat.le_refl _⟩, ⟨by refine rq ?_; exact HO140.out⟩, ⟨(bz0 HB.out)⟩⟩
   case round =>
    clear H'
    try clear c1
    try clear p1
    try clear q1
    try clear hx1
    try clear p2
    try clear c5
    try clear c5b0
    try clear c6
    try clear c6b0
    try clear c7
    try clear c7b0
    try clear c7b1
    try clear c8
    try clear c8b0
    try clear c9
    try clear c9b0
    try clear c10
    try clear c10b0
    try clear p13
    try clear q13
    try clear hx13
    try clear hx134_0
    try clear hx134_1
    try clear hx134_2
    try clear hx135_0
    try clear hx135_1
    try clear hx135_2
    try clear hx136_0
    try clear hx136_1
    try clear hx136_2
    try clear hx137_0
    try clear hx137_1
    try clear hx137_2
    try clear p1
    try clear p134
    try clear p135
    try clear p136
    try clear p137
    try clear p2
    try clear q1
    try clear q134
    try clear q135
    try clear q136
    try clear q137
    obtain ⟨x7_2, x35_2, rfl, rfl, HA, HK2, HO_33, HB⟩ := hrel
    cases gk with
    | zero => exact absurd HA.out (by simp [impl_count.l1])
    | succ k2 =>
     have H := HA.out
     clear HA
     simp only [impl_count.l1] at H
     by_cases c14 : x35_2 < (t138.length : Int)
     ·rw [if_pos c14] at H
      have c14b0 := decide_eq_true c14
      clear c14
      replace H := iz H
      obtain ⟨c15, H⟩ := H
      have c15b0 := decide_eq_true c15
      clear c15
      replace H := iz H
      obtain ⟨c16, H⟩ := H
      have c16b0 := decide_eq_true c16
      clear c16
      by_cases c17 : x7_2 > a2
      ·rw [if_pos c17] at H
       have c17b0 : decide (a2 < x7_2) = true := decide_eq_true c17
       clear c17
       obtain rfl := Option.some.inj H
       have p141 : 0 <= (x35_2 : Int) := oz
       have q141 : x35_2 < (t138.length : Int) := oz
       obtain ⟨ad141, e141, hx141_0⟩ := Kd.at_int (Kd.R_reads' HO_33.out).2.2 x35_2 p141 q141
       cases e141
       replace p141 := eq_true p141
       replace q141 := eq_true q141
       go_wp2
       go_ret
       exact ⟨gz, (bz0 HB.out)⟩
      ·rw [if_neg c17] at H
       have c17b0 : decide (a2 < x7_2) = false := decide_eq_false c17
       clear c17
       replace H := bi H
       obtain ⟨t142, A180, H⟩ := H
       try dsimp only at H
       have A18 := Aside0.mk A180
       clear A180
       have H' := Aside0.mk H
       clear H
       have p141 : 0 <= (x35_2 : Int) := oz
       have q141 : x35_2 < (t138.length : Int) := oz
       obtain ⟨ad141, e141, hx141_0⟩ := Kd.at_int (Kd.R_reads' HO_33.out).2.2 x35_2 p141 q141
       cases e141
       replace p141 := eq_true p141
       replace q141 := eq_true q141
       go_wp2_with (first | ((with_reducible refine gate_callee (f := 80) rfl ?_); refine goesL_ (some 48) rfl rfl Tryd.func80 (by kernel_rfl) rfl #[.slice (some ad137) l0.length c0, .int .i64 (rd t138 x35_2), .int .i64 (wrap64 (a2 - x7_2))] rfl lz ?_; (with_reducible refine (ih k2 (by have := HJ3.out; have := HK2.out; omega) _ _ l0 (rd t138 x35_2) (wrap64 (a2 - x7_2)) t142 _ ?side1 ?side2 A18.out).mono ?_); (case side1 => exact cz (Kd.C_below HR0.out HB.out)); (case side2 => exact HC0.out); rintro e w19 ⟨rfl, hb⟩; refine ⟨_, rfl, ?_⟩; replace HO_33 := qz HO_33 hb; replace HB := Aside0.mk (below_step (bz0 HB.out) hb); (try clear hb); (try clear hi)))
       go_roundg k2
       case measure => have := HJ3.out; have := HK2.out; omega
       case rel => exact ⟨(wrap64 (x7_2 + t142)), (wrap64 (x35_2 + 1)), ez, ez, H', ⟨by have := HJ3.out; have := HK2.out; omega⟩, ⟨by refine rq ?_; exact HO_33.out⟩, ⟨(bz0 HB.out)⟩⟩
     ·rw [if_neg c14] at H
      have c14b0 := decide_eq_false c14
      clear c14
      obtain rfl := Option.some.inj H
      go_wp2
      go_ret
      exact ⟨gz, (bz0 HB.out)⟩
def impl_sizeOf.f (k : Nat) (l0 : List (S55)) (a1 : Int) : Option (Int) := (impl_count.f k l0 a1 60).bind fun t143 => (some (mn t143 61))
theorem impl_sizeOf.mono : ∀ a0 a1 k, LeO (impl_sizeOf.f k a0 a1) (impl_sizeOf.f (k + 1) a0 a1) := by
 intro a0 a1 k
 unfold impl_sizeOf.f
 with_reducible repeat' first | exact impl_count.mono _ _ _ _ | exact lrz _ | exact lnz _ | refine liz ?_ ?_ | refine lbz ?_ fun _ => ?_
set_option maxHeartbeats 8000000 in
set_option maxRecDepth 100000 in
theorem impl_sizeOf.calls (k : Nat) (A0 : Option Addr) (c0 : Nat) (l0 : List (S55)) (a1 : Int) (r : Int) (w : World) (hr0 : Kd.C k55 w A0 l0.length l0) (hc0 : l0.length <= c0) (h : impl_sizeOf.f k l0 a1 = some r) :
  Calls Tryd.prog 53 #[.slice A0 l0.length c0, .int .i64 a1] w fun e w' => e = .returned (.int .i64 r) /\ Below w.heap.size w w' := by
 have HR0 := Aside0.mk hr0
 have HC0 := Aside0.mk hc0
 clear hr0 hc0
 have HB := Aside0.mk (Below.refl w.heap.size w)
 have H : ((impl_count.f k l0 a1 60).bind fun t143 => (some (mn t143 61))) = some r := h
 clear h
 replace H := bi H
 obtain ⟨t143, A30, H⟩ := H
 try dsimp only at H
 have A3 := Aside0.mk A30
 clear A30
 obtain ⟨ji4, hji4⟩ : ∃ j_ : Int, (mn t143 61) = j_ := ⟨_, rfl⟩
 replace H : (some ji4) = some r := by first | (rw [hji4] at H; exact H) | (simp only [hji4] at H ⊢; exact H)
 (try rw [hji4] at A3)
 (try (have hji4h : ji4 <= 61 := by (rw [<- hji4]; unfold mn; (repeat' split) <;> omega)))
 (try (have hji4g : ji4 <= 64 := by omega))
 have hji4_ : (if 61 < t143 then 61 else t143) = ji4 := hji4
 obtain rfl := Option.some.inj H
 go_enter Tryd.func53, Tryd.ntmps53
 go_wp2_with (first | ((with_reducible refine gate_callee (f := 80) rfl ?_); refine goesL_ (some 7) rfl rfl Tryd.func80 (by kernel_rfl) rfl #[.slice A0 l0.length c0, .int .i64 a1, .int .i64 60] rfl lz ?_; (with_reducible refine (impl_count.calls k _ _ l0 a1 60 t143 _ ?side1 ?side2 A3.out).mono ?_); (case side1 => repeat (first | exact HR0.out | (with_reducible refine Kd.C_alloc ?_ _) | (with_reducible refine Kd.C_drewN ?_ _) | (with_reducible refine Kd.C_drew ?_))); (case side2 => exact HC0.out); rintro e w5 ⟨rfl, hb⟩; refine ⟨_, rfl, ?_⟩; replace HB := Aside0.mk (below_step (bz0 HB.out) hb); (try clear hb); (try clear hi)))
 go_ret
 exact ⟨by first | rfl | (simp [errW_none, errW_some] <;> rfl) | (simp only [<- hji4]; first | rfl | (simp [errW_none, errW_some] <;> rfl)) | (simp [*, errW_none, errW_some] <;> rfl), (bz0 HB.out)⟩
def impl_SizeOf.f (k : Nat) (l0 : List (S55)) (a1 : Int) : Option (Int) := (impl_TableOk.f k l0).bind fun t144 => (if t144 = true then ((impl_in.f a1 0 (wrap64 ((l0.length : Int) - 1))).bind fun t145 => (if t145 = true then ((impl_sizeOf.f k l0 a1).bind fun t146 => (some t146)) else (some 0))) else (some 0))
theorem impl_SizeOf.mono : ∀ a0 a1 k, LeO (impl_SizeOf.f k a0 a1) (impl_SizeOf.f (k + 1) a0 a1) := by
 intro a0 a1 k
 unfold impl_SizeOf.f
 with_reducible repeat' first | exact impl_TableOk.mono _ _ | exact impl_sizeOf.mono _ _ _ | exact lrz _ | exact lnz _ | refine liz ?_ ?_ | refine lbz ?_ fun _ => ?_
set_option maxHeartbeats 8000000 in
set_option maxRecDepth 100000 in
theorem impl_SizeOf.calls (k : Nat) (A0 : Option Addr) (c0 : Nat) (l0 : List (S55)) (a1 : Int) (r : Int) (w : World) (hr0 : Kd.C k55 w A0 l0.length l0) (hc0 : l0.length <= c0) (h : impl_SizeOf.f k l0 a1 = some r) :
  Calls Tryd.prog 21 #[.slice A0 l0.length c0, .int .i64 a1] w fun e w' => e = .returned (.int .i64 r) /\ Below w.heap.size w w' := by
 have HR0 := Aside0.mk hr0
 have HC0 := Aside0.mk hc0
 clear hr0 hc0
 have HB := Aside0.mk (Below.refl w.heap.size w)
 have H : ((impl_TableOk.f k l0).bind fun t144 => (if t144 = true then ((impl_in.f a1 0 (wrap64 ((l0.length : Int) - 1))).bind fun t145 => (if t145 = true then ((impl_sizeOf.f k l0 a1).bind fun t146 => (some t146)) else (some 0))) else (some 0))) = some r := h
 clear h
 replace H := bi H
 obtain ⟨t144, A30, H⟩ := H
 try dsimp only at H
 have A3 := Aside0.mk A30
 clear A30
 by_cases c4 : t144 = true
 ·subst c4
  have H1 := hp H
  clear H
  have H := H1
  clear H1
  replace H := bi H
  obtain ⟨t145, A50, H⟩ := H
  try dsimp only at H
  have A5 := Aside0.mk A50
  clear A50
  by_cases c6 : t145 = true
  ·subst c6
   have H1 := hp H
   clear H
   have H := H1
   clear H1
   replace H := bi H
   obtain ⟨t146, A70, H⟩ := H
   try dsimp only at H
   have A7 := Aside0.mk A70
   clear A70
   obtain rfl := Option.some.inj H
   go_enter Tryd.func21, Tryd.ntmps21
   go_wp2_with (first | ((with_reducible refine gate_callee (f := 52) rfl ?_); refine goesL_ (some 6) rfl rfl Tryd.func52 (by kernel_rfl) rfl #[.slice A0 l0.length c0] rfl lz ?_; (with_reducible refine (impl_TableOk.calls k _ _ l0 true _ ?side1 ?side2 A3.out).mono ?_); (case side1 => repeat (first | exact HR0.out | (with_reducible refine Kd.C_alloc ?_ _) | (with_reducible refine Kd.C_drewN ?_ _) | (with_reducible refine Kd.C_drew ?_))); (case side2 => exact HC0.out); rintro e w8 ⟨rfl, hb⟩; refine ⟨_, rfl, ?_⟩; replace HB := Aside0.mk (below_step (bz0 HB.out) hb); (try clear hb); (try clear hi)) | (go_at_call 42; (with_reducible refine (impl_in.calls a1 0 (wrap64 ((l0.length : Int) - 1)) true _ A5.out).mono ?_); rintro e w' ⟨rfl, ⟨nd, rfl⟩⟩) | ((with_reducible refine gate_callee (f := 53) rfl ?_); refine goesL_ (some 18) rfl rfl Tryd.func53 (by kernel_rfl) rfl #[.slice A0 l0.length c0, .int .i64 a1] rfl lz ?_; (with_reducible refine (impl_sizeOf.calls k _ _ l0 a1 t146 _ ?side1 ?side2 A7.out).mono ?_); (case side1 => exact cz (Kd.C_below HR0.out (bz0 HB.out))); (case side2 => exact HC0.out); rintro e w9 ⟨rfl, hb⟩; refine ⟨_, rfl, ?_⟩; replace HB := Aside0.mk (below_step (bz0 HB.out) hb); (try clear hb); (try clear hi)))
   go_ret
   exact ⟨gz, (bz0 HB.out)⟩
  ·replace c6 := Bool.eq_false_iff.mpr c6
   subst c6
   have H1 := hq H
   clear H
   have H := H1
   clear H1
   obtain rfl := Option.some.inj H
   go_enter Tryd.func21, Tryd.ntmps21
   go_wp2_with (first | ((with_reducible refine gate_callee (f := 52) rfl ?_); refine goesL_ (some 6) rfl rfl Tryd.func52 (by kernel_rfl) rfl #[.slice A0 l0.length c0] rfl lz ?_; (with_reducible refine (impl_TableOk.calls k _ _ l0 true _ ?side1 ?side2 A3.out).mono ?_); (case side1 => repeat (first | exact HR0.out | (with_reducible refine Kd.C_alloc ?_ _) | (with_reducible refine Kd.C_drewN ?_ _) | (with_reducible refine Kd.C_drew ?_))); (case side2 => exact HC0.out); rintro e w10 ⟨rfl, hb⟩; refine ⟨_, rfl, ?_⟩; replace HB := Aside0.mk (below_step (bz0 HB.out) hb); (try clear hb); (try clear hi)) | (go_at_call 42; (with_reducible refine (impl_in.calls a1 0 (wrap64 ((l0.length : Int) - 1)) false _ A5.out).mono ?_); rintro e w' ⟨rfl, ⟨nd, rfl⟩⟩))
   go_ret
   exact ⟨gz, (bz0 HB.out)⟩
 ·replace c4 := Bool.eq_false_iff.mpr c4
  subst c4
  have H1 := hq H
  clear H
  have H := H1
  clear H1
  obtain rfl := Option.some.inj H
  go_enter Tryd.func21, Tryd.ntmps21
  go_wp2_with (first | ((with_reducible refine gate_callee (f := 52) rfl ?_); refine goesL_ (some 6) rfl rfl Tryd.func52 (by kernel_rfl) rfl #[.slice A0 l0.length c0] rfl lz ?_; (with_reducible refine (impl_TableOk.calls k _ _ l0 false _ ?side1 ?side2 A3.out).mono ?_); (case side1 => repeat (first | exact HR0.out | (with_reducible refine Kd.C_alloc ?_ _) | (with_reducible refine Kd.C_drewN ?_ _) | (with_reducible refine Kd.C_drew ?_))); (case side2 => exact HC0.out); rintro e w11 ⟨rfl, hb⟩; refine ⟨_, rfl, ?_⟩; replace HB := Aside0.mk (below_step (bz0 HB.out) hb); (try clear hb); (try clear hi)))
  go_ret
  exact ⟨gz, (bz0 HB.out)⟩
def spec_l1In.f (a0 : Int) (a1 : Int) (a2 : Int) : Option (Bool) := if a0 ≥ a1 then (some (decide (a0 <= a2))) else (some false)
set_option maxHeartbeats 8000000 in
set_option maxRecDepth 100000 in
theorem spec_l1In.calls (a0 : Int) (a1 : Int) (a2 : Int) (r : Bool) (w : World) (h : spec_l1In.f a0 a1 a2 = some r) :
  Calls Tryd.prog 44 #[.int .i64 a0, .int .i64 a1, .int .i64 a2] w fun e w' => e = .returned (.bool r) /\ Drawn0 w w' := by
 have H : (if a0 ≥ a1 then (some (decide (a0 <= a2))) else (some false)) = some r := h
 clear h
 by_cases c4 : a0 ≥ a1
 ·rw [if_pos c4] at H
  have c4b0 : decide (a1 <= a0) = true := decide_eq_true c4
  clear c4
  obtain rfl := Option.some.inj H
  go_enter Tryd.func44, Tryd.ntmps44
  go_wp2
  go_ret
  exact ⟨e2z, dz⟩
 ·rw [if_neg c4] at H
  have c4b0 : decide (a1 <= a0) = false := decide_eq_false c4
  clear c4
  obtain rfl := Option.some.inj H
  go_enter Tryd.func44, Tryd.ntmps44
  go_wp2
  go_ret
  exact ⟨e2z, dz⟩
def spec_l8Kids.j0 : Nat -> Int -> Bool -> Int -> Int -> Int -> Option (List Int)
 | 0, _, _, _, _, _ => none
 | k + 1, x4, x13, x148000, x148001, x148002 => if x13 = true then (some (([x148001, x148002] : List Int))) else (if x4 = 4 then (some (([x148001] : List Int))) else (if x4 = 5 then (some (([x148001] : List Int))) else (some (([] : List Int)))))
def spec_l8Kids.f (k : Nat) (a0_0 : Int) (a0_1 : Int) (a0_2 : Int) : Option (List Int) := if a0_0 = 0 then (if a0_1 ≥ 0 then (some (([a0_1] : List Int))) else (some (([] : List Int)))) else (if a0_0 = 2 then (spec_l8Kids.j0 k a0_0 (a0_0 == 2) a0_0 a0_1 a0_2) else (spec_l8Kids.j0 k a0_0 (a0_0 == 3) a0_0 a0_1 a0_2))
theorem spec_l8Kids.mono_l : ∀ k, (∀ y0 y1 y2 y3 y4, LeO (spec_l8Kids.j0 k y0 y1 y2 y3 y4) (spec_l8Kids.j0 (k + 1) y0 y1 y2 y3 y4))
 | 0 => fun _ _ _ _ _ r h => by simp [spec_l8Kids.j0] at h
 | k + 1 => by
  have ih0 := spec_l8Kids.mono_l k
  ·intro y0 y1 y2 y3 y4
   unfold spec_l8Kids.j0
   with_reducible repeat' first | exact ih0 _ _ _ _ _ | exact lrz _ | exact lnz _ | refine liz ?_ ?_ | refine lbz ?_ fun _ => ?_
theorem spec_l8Kids.mono : ∀ a0 a1 a2 k, LeO (spec_l8Kids.f k a0 a1 a2) (spec_l8Kids.f (k + 1) a0 a1 a2) := by
 intro a0 a1 a2 k
 have ih0 := spec_l8Kids.mono_l k
 unfold spec_l8Kids.f
 with_reducible repeat' first | exact ih0 _ _ _ _ _ | exact lrz _ | exact lnz _ | refine liz ?_ ?_ | refine lbz ?_ fun _ => ?_
set_option maxHeartbeats 8000000 in
set_option maxRecDepth 100000 in
theorem spec_l8Kids.calls (k : Nat) (a0_0 : Int) (a0_1 : Int) (a0_2 : Int) (r : List Int) (w : World) (h : spec_l8Kids.f k a0_0 a0_1 a0_2 = some r) :
  Calls Tryd.prog 56 #[.agg #[.int .i64 a0_0, .int .i64 a0_1, .int .i64 a0_2]] w fun e w' => ∃ v0_ : Value, e = .returned (v0_) /\ Kd.R (Kd.int .i64) 3 w' w.heap.size (fun _ => True) v0_ r /\ Below w.heap.size w w' := by
 have hu55 := Tryd.underlying55
 have HB := Aside0.mk (Below.refl w.heap.size w)
 have H : (if a0_0 = 0 then (if a0_1 ≥ 0 then (some (([a0_1] : List Int))) else (some (([] : List Int)))) else (if a0_0 = 2 then (spec_l8Kids.j0 k a0_0 (a0_0 == 2) a0_0 a0_1 a0_2) else (spec_l8Kids.j0 k a0_0 (a0_0 == 3) a0_0 a0_1 a0_2))) = some r := h
 clear h
 by_cases c2 : a0_0 = 0
 ·rw [if_pos c2] at H
  have c2b0 : (a0_0 == 0) = true := beq_iff_eq.mpr c2
  have c2b1 : (a0_0 != 0) = false := bne_eq_false_iff_eq.mpr c2
  clear c2
  by_cases c3 : a0_1 ≥ 0
  ·rw [if_pos c3] at H
   have c3b0 : decide (0 <= a0_1) = true := decide_eq_true c3
   clear c3
   obtain ⟨y148, hy148⟩ : ∃ y_ : List Int, y_ = (([a0_1] : List Int)) := ⟨_, rfl⟩
   replace H : (some y148) = some r := yz hy148 H
   have Ny148 := Aside0.mk hy148
   clear hy148
   obtain rfl := Option.some.inj H
   go_enter Tryd.func56, Tryd.ntmps56
   go_wp2_with (first | ((with_reducible refine gate_dst (N := 1) rfl ?_); refine box_event ?hg (N := 1) ?hd (cs := #[.int .i64 a0_0, .int .i64 a0_1, .int .i64 a0_2]) (t := 55) ?hr ?_; (case hd => rfl); (case hg => rfl); (case hr => exact vz); intro gb147 hg w4 hbox hb; have BK147 := Aside0.mk (hbox); have GW147 := Aside0.mk ((by rw [hg]; exact (below_size (bz0 HB.out)) : w.heap.size <= gb147)); have GE147 := GW147; replace HB := Aside0.mk (below_step (bz0 HB.out) hb); clear hb hbox hg; obtain ⟨hcz5_0, hcz5_1, hcz5_2⟩ := cz3 BK147.out; obtain ⟨hfz5_0, hfz5_1, hfz5_2⟩ := fz3 BK147.out) | ((with_reducible refine gate_dst (N := 12) rfl ?_); refine Kd.R_lit (Kd.int .i64) _ 3 ?hg (N := 12) ?hd (xs := ([a0_1] : List Int)) (inner := [.int .i64 a0_1]) (ok := fun _ => True) (okp := fun _ => True) ?hr ?hp (fun _ hk => hk) trivial (Below.refl _ _) (Nat.le_refl _) (by simp) ?_; (case hd => rfl); (case hg => rfl); (case hr => exact vz); (case hp => exact (Reps.one (show Kd.M (Kd.int .i64) _ _ _ a0_1 [.int .i64 a0_1] from rfl) (Reps.none _ _))); intro v149 w6 ho7 hb hg_ hnew_; clear hg_ hnew_; (first | rw [<- Ny148.out] at ho7 | (simp only [Int.reduceToNat] at ho7; rw [<- Ny148.out] at ho7)); have HO150 := Aside0.mk (Kd.R_lower ho7 (below_size (bz1 HB.out GE147.out))); replace BK147 := Aside0.mk (blk_below (kz BK147.out) hb); replace HB := Aside0.mk (below_step (bz1 HB.out GE147.out) hb); clear hb ho7))
   go_ret
   exact ⟨_, gz, by refine rq ?_; exact HO150.out, (bz1 HB.out GE147.out)⟩
  ·rw [if_neg c3] at H
   have c3b0 : decide (0 <= a0_1) = false := decide_eq_false c3
   clear c3
   obtain ⟨y151, hy151⟩ : ∃ y_ : List Int, y_ = (([] : List Int)) := ⟨_, rfl⟩
   replace H : (some y151) = some r := yz hy151 H
   have Ny151 := Aside0.mk hy151
   clear hy151
   obtain rfl := Option.some.inj H
   go_enter Tryd.func56, Tryd.ntmps56
   go_wp2_with (first | ((with_reducible refine gate_dst (N := 1) rfl ?_); refine box_event ?hg (N := 1) ?hd (cs := #[.int .i64 a0_0, .int .i64 a0_1, .int .i64 a0_2]) (t := 55) ?hr ?_; (case hd => rfl); (case hg => rfl); (case hr => exact vz); intro gb147 hg w8 hbox hb; have BK147 := Aside0.mk (hbox); have GW147 := Aside0.mk ((by rw [hg]; exact (below_size (bz0 HB.out)) : w.heap.size <= gb147)); have GE147 := GW147; replace HB := Aside0.mk (below_step (bz0 HB.out) hb); clear hb hbox hg; obtain ⟨hcz9_0, hcz9_1, hcz9_2⟩ := cz3 BK147.out; obtain ⟨hfz9_0, hfz9_1, hfz9_2⟩ := fz3 BK147.out) | ((with_reducible refine gate_dst (N := 27) rfl ?_); refine Kd.R_lit (Kd.int .i64) _ 3 ?hg (N := 27) ?hd (xs := ([] : List Int)) (inner := []) (ok := fun _ => True) (okp := fun _ => True) ?hr ?hp (fun _ hk => hk) trivial (Below.refl _ _) (Nat.le_refl _) (by simp) ?_; (case hd => rfl); (case hg => rfl); (case hr => exact vz); (case hp => exact (Reps.none _ _)); intro v152 w10 ho11 hb hg_ hnew_; clear hg_ hnew_; (first | rw [<- Ny151.out] at ho11 | (simp only [Int.reduceToNat] at ho11; rw [<- Ny151.out] at ho11)); have HO153 := Aside0.mk (Kd.R_lower ho11 (below_size (bz1 HB.out GE147.out))); replace BK147 := Aside0.mk (blk_below (kz BK147.out) hb); replace HB := Aside0.mk (below_step (bz1 HB.out GE147.out) hb); clear hb ho11))
   go_ret
   exact ⟨_, gz, by refine rq ?_; exact HO153.out, (bz1 HB.out GE147.out)⟩
 ·rw [if_neg c2] at H
  have c2b0 : (a0_0 == 0) = false := beq_eq_false_iff_ne.mpr c2
  have c2b1 : (a0_0 != 0) = true := bne_iff_ne.mpr c2
  have HC12 := Aside0.mk H
  clear H
  go_enter Tryd.func56, Tryd.ntmps56
  go_upto_if 13 with (first | ((with_reducible refine gate_dst (N := 1) rfl ?_); refine box_event ?hg (N := 1) ?hd (cs := #[.int .i64 a0_0, .int .i64 a0_1, .int .i64 a0_2]) (t := 55) ?hr ?_; (case hd => rfl); (case hg => rfl); (case hr => exact vz); intro gb147 hg w13 hbox hb; have BK147 := Aside0.mk (hbox); have GW147 := Aside0.mk ((by rw [hg]; exact (below_size (bz0 HB.out)) : w.heap.size <= gb147)); have GE147 := GW147; replace HB := Aside0.mk (below_step (bz0 HB.out) hb); clear hb hbox hg; obtain ⟨hcz14_0, hcz14_1, hcz14_2⟩ := cz3 BK147.out; obtain ⟨hfz14_0, hfz14_1, hfz14_2⟩ := fz3 BK147.out))
  (try simp only [Act.put, sz1, sz2, sz3])
  go_cut [13] (fun v13 wc => ∃ (kq : Nat) (x13_11 : Bool), v13 = .bool x13_11 /\ Aside0 (spec_l8Kids.j0 kq a0_0 x13_11 a0_0 a0_1 a0_2 = some r) /\ Aside0 (kq <= k) /\ Aside0 (wc.heap[gb147]? = some (.cells #[.int .i64 a0_0, .int .i64 a0_1, .int .i64 a0_2] 55 (0, 0))) /\ Aside0 (Below w.heap.size w wc))
  case first =>
   have H := HC12.out
   clear HC12
   by_cases c15 : a0_0 = 2
   ·rw [if_pos c15] at H
    have c15b0 : (a0_0 == 2) = true := beq_iff_eq.mpr c15
    have c15b1 : (a0_0 != 2) = false := bne_eq_false_iff_eq.mpr c15
    clear c15
    (first | rw [c15b0] | (simp only [i64_w, i32_w]; rw [c15b0]) | skip)
    have H' := Aside0.mk H
    clear H
    go_wp2
    go_meet
    case rel => exact ⟨_, ((a0_0 == 2)), ez, H', ⟨by first | omega | exact Nat.le_refl _⟩, ⟨by refine kq ?_; exact BK147.out⟩, ⟨(bz1 HB.out GE147.out)⟩⟩
   ·rw [if_neg c15] at H
    have c15b0 : (a0_0 == 2) = false := beq_eq_false_iff_ne.mpr c15
    have c15b1 : (a0_0 != 2) = true := bne_iff_ne.mpr c15
    (first | rw [c15b0] | (simp only [i64_w, i32_w]; rw [c15b0]) | skip)
    have H' := Aside0.mk H
    clear H
    go_wp2
    go_meet
    case rel => exact ⟨_, ((a0_0 == 3)), ez, H', ⟨by first | omega | exact Nat.le_refl _⟩, ⟨by refine kq ?_; exact BK147.out⟩, ⟨(bz1 HB.out GE147.out)⟩⟩
  case rest =>
   clear HC12
   try clear c1
   try clear c2
   try clear c2b0
   try clear c2b1
   try clear p2
   try clear c3
   try clear c3b0
   try clear c5
   try clear c15
   try clear c15b0
   try clear c15b1
   try clear hcz14_0 hcz14_1 hcz14_2
   try clear hcz5_0 hcz5_1 hcz5_2
   try clear hcz9_0 hcz9_1 hcz9_2
   try clear hfz14_0 hfz14_1 hfz14_2
   try clear hfz5_0 hfz5_1 hfz5_2
   try clear hfz9_0 hfz9_1 hfz9_2
   obtain ⟨kq, x13_11, rfl, HA, HJ11, BK147, HB⟩ := hcut
   cases kq with
   | zero => exact absurd HA.out (by simp [spec_l8Kids.j0])
   | succ kj11 =>
    have H := HA.out
    clear HA
    simp only [spec_l8Kids.j0] at H
    by_cases c16 : x13_11 = true
    ·subst c16
     have H1 := hp H
     clear H
     have H := H1
     clear H1
     obtain ⟨y154, hy154⟩ : ∃ y_ : List Int, y_ = (([a0_1, a0_2] : List Int)) := ⟨_, rfl⟩
     replace H : (some y154) = some r := yz hy154 H
     have Ny154 := Aside0.mk hy154
     clear hy154
     obtain rfl := Option.some.inj H
     obtain ⟨hcz17_0, hcz17_1, hcz17_2⟩ := cz3 BK147.out
     obtain ⟨hfz17_0, hfz17_1, hfz17_2⟩ := fz3 BK147.out
     go_wp2_with (first | ((with_reducible refine gate_dst (N := 20) rfl ?_); refine Kd.R_lit (Kd.int .i64) _ 3 ?hg (N := 20) ?hd (xs := ([a0_1, a0_2] : List Int)) (inner := [.int .i64 a0_1, .int .i64 a0_2]) (ok := fun _ => True) (okp := fun _ => True) ?hr ?hp (fun _ hk => hk) trivial (Below.refl _ _) (Nat.le_refl _) (by simp) ?_; (case hd => rfl); (case hg => rfl); (case hr => exact vz); (case hp => exact (Reps.one (show Kd.M (Kd.int .i64) _ _ _ a0_1 [.int .i64 a0_1] from rfl) (Reps.one (show Kd.M (Kd.int .i64) _ _ _ a0_2 [.int .i64 a0_2] from rfl) (Reps.none _ _)))); intro v155 w18 ho19 hb hg_ hnew_; clear hg_ hnew_; (first | rw [<- Ny154.out] at ho19 | (simp only [Int.reduceToNat] at ho19; rw [<- Ny154.out] at ho19)); have HO156 := Aside0.mk (Kd.R_lower ho19 (below_size (bz1 HB.out GE147.out))); replace BK147 := Aside0.mk (blk_below (kz BK147.out) hb); replace HB := Aside0.mk (below_step (bz1 HB.out GE147.out) hb); clear hb ho19))
     go_ret
     exact ⟨_, gz, by refine rq ?_; exact HO156.out, (bz1 HB.out GE147.out)⟩
    ·replace c16 := Bool.eq_false_iff.mpr c16
     subst c16
     have H1 := hq H
     clear H
     have H := H1
     clear H1
     by_cases c20 : a0_0 = 4
     ·rw [if_pos c20] at H
      have c20b0 : (a0_0 == 4) = true := beq_iff_eq.mpr c20
      have c20b1 : (a0_0 != 4) = false := bne_eq_false_iff_eq.mpr c20
      clear c20
      obtain ⟨y157, hy157⟩ : ∃ y_ : List Int, y_ = (([a0_1] : List Int)) := ⟨_, rfl⟩
      replace H : (some y157) = some r := yz hy157 H
      have Ny157 := Aside0.mk hy157
      clear hy157
      obtain rfl := Option.some.inj H
      obtain ⟨hcz21_0, hcz21_1, hcz21_2⟩ := cz3 BK147.out
      obtain ⟨hfz21_0, hfz21_1, hfz21_2⟩ := fz3 BK147.out
      go_wp2_with (first | ((with_reducible refine gate_dst (N := 26) rfl ?_); refine Kd.R_lit (Kd.int .i64) _ 3 ?hg (N := 26) ?hd (xs := ([a0_1] : List Int)) (inner := [.int .i64 a0_1]) (ok := fun _ => True) (okp := fun _ => True) ?hr ?hp (fun _ hk => hk) trivial (Below.refl _ _) (Nat.le_refl _) (by simp) ?_; (case hd => rfl); (case hg => rfl); (case hr => exact vz); (case hp => exact (Reps.one (show Kd.M (Kd.int .i64) _ _ _ a0_1 [.int .i64 a0_1] from rfl) (Reps.none _ _))); intro v158 w22 ho23 hb hg_ hnew_; clear hg_ hnew_; (first | rw [<- Ny157.out] at ho23 | (simp only [Int.reduceToNat] at ho23; rw [<- Ny157.out] at ho23)); have HO159 := Aside0.mk (Kd.R_lower ho23 (below_size (bz1 HB.out GE147.out))); replace BK147 := Aside0.mk (blk_below (kz BK147.out) hb); replace HB := Aside0.mk (below_step (bz1 HB.out GE147.out) hb); clear hb ho23))
      go_ret
      exact ⟨_, gz, by refine rq ?_; exact HO159.out, (bz1 HB.out GE147.out)⟩
     ·rw [if_neg c20] at H
      have c20b0 : (a0_0 == 4) = false := beq_eq_false_iff_ne.mpr c20
      have c20b1 : (a0_0 != 4) = true := bne_iff_ne.mpr c20
      by_cases c24 : a0_0 = 5
      ·rw [if_pos c24] at H
       have c24b0 : (a0_0 == 5) = true := beq_iff_eq.mpr c24
       have c24b1 : (a0_0 != 5) = false := bne_eq_false_iff_eq.mpr c24
       clear c24
       obtain ⟨y160, hy160⟩ : ∃ y_ : List Int, y_ = (([a0_1] : List Int)) := ⟨_, rfl⟩
       replace H : (some y160) = some r := yz hy160 H
       have Ny160 := Aside0.mk hy160
       clear hy160
       obtain rfl := Option.some.inj H
       obtain ⟨hcz25_0, hcz25_1, hcz25_2⟩ := cz3 BK147.out
       obtain ⟨hfz25_0, hfz25_1, hfz25_2⟩ := fz3 BK147.out
       go_wp2_with (first | ((with_reducible refine gate_dst (N := 26) rfl ?_); refine Kd.R_lit (Kd.int .i64) _ 3 ?hg (N := 26) ?hd (xs := ([a0_1] : List Int)) (inner := [.int .i64 a0_1]) (ok := fun _ => True) (okp := fun _ => True) ?hr ?hp (fun _ hk => hk) trivial (Below.refl _ _) (Nat.le_refl _) (by simp) ?_; (case hd => rfl); (case hg => rfl); (case hr => exact vz); (case hp => exact (Reps.one (show Kd.M (Kd.int .i64) _ _ _ a0_1 [.int .i64 a0_1] from rfl) (Reps.none _ _))); intro v161 w26 ho27 hb hg_ hnew_; clear hg_ hnew_; (first | rw [<- Ny160.out] at ho27 | (simp only [Int.reduceToNat] at ho27; rw [<- Ny160.out] at ho27)); have HO162 := Aside0.mk (Kd.R_lower ho27 (below_size (bz1 HB.out GE147.out))); replace BK147 := Aside0.mk (blk_below (kz BK147.out) hb); replace HB := Aside0.mk (below_step (bz1 HB.out GE147.out) hb); clear hb ho27))
       go_ret
       exact ⟨_, gz, by refine rq ?_; exact HO162.out, (bz1 HB.out GE147.out)⟩
      ·rw [if_neg c24] at H
       have c24b0 : (a0_0 == 5) = false := beq_eq_false_iff_ne.mpr c24
       have c24b1 : (a0_0 != 5) = true := bne_iff_ne.mpr c24
       obtain ⟨y163, hy163⟩ : ∃ y_ : List Int, y_ = (([] : List Int)) := ⟨_, rfl⟩
       replace H : (some y163) = some r := yz hy163 H
       have Ny163 := Aside0.mk hy163
       clear hy163
       obtain rfl := Option.some.inj H
       go_wp2_with (first | ((with_reducible refine gate_dst (N := 27) rfl ?_); refine Kd.R_lit (Kd.int .i64) _ 3 ?hg (N := 27) ?hd (xs := ([] : List Int)) (inner := []) (ok := fun _ => True) (okp := fun _ => True) ?hr ?hp (fun _ hk => hk) trivial (Below.refl _ _) (Nat.le_refl _) (by simp) ?_; (case hd => rfl); (case hg => rfl); (case hr => exact vz); (case hp => exact (Reps.none _ _)); intro v164 w28 ho29 hb hg_ hnew_; clear hg_ hnew_; (first | rw [<- Ny163.out] at ho29 | (simp only [Int.reduceToNat] at ho29; rw [<- Ny163.out] at ho29)); have HO165 := Aside0.mk (Kd.R_lower ho29 (below_size (bz1 HB.out GE147.out))); replace BK147 := Aside0.mk (blk_below (kz BK147.out) hb); replace HB := Aside0.mk (below_step (bz1 HB.out GE147.out) hb); clear hb ho29))
       go_ret
       exact ⟨_, gz, by refine rq ?_; exact HO165.out, (bz1 HB.out GE147.out)⟩
end Go.Proofs.YtlhofeikcaejpaaDoor.PFnUnified
