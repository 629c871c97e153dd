/- PFnExactShowTypex3, of the words and walks that the law FnExactShowType needs; made by this session's program out of printed texts. -/

import Derived.Test.YtlhofeikcaejpaaDoorVEShowTypePx0
import Derived.Test.YtlhofeikcaejpaaDoorVEShowTypePx1
import Derived.Test.YtlhofeikcaejpaaDoorVEShowTypePx2
namespace Go.Proofs.YtlhofeikcaejpaaDoor.PFnExactShowType
open Go.RowKit Go.Proofs.YtlhofeikcaejpaaDoorW.PrintWords Go.Proofs.YtlhofeikcaejpaaDoorW.PrintLast Go.Proofs.YtlhofeikcaejpaaDoorW.PrintMore
attribute [local go_sem] max2_int min2_int max_two min_two max_three min_three max_four min_four
set_option linter.unusedVariables false
set_option linter.unusedSimpArgs false
mutual
def impl_count.j1 : Nat -> List (S55) -> Int -> Int -> Option (Int)
 | 0, _, _, _ => none
 | k + 1, x0, x1, x2 => if 0 <= x1 then (if x1 < (x0.length : Int) then ((impl_partsOf.f k ((rd_T55 x0 x1).f0) ((rd_T55 x0 x1).f1) ((rd_T55 x0 x1).f2)).bind fun t138 => (impl_count.l1 k x0 x2 1 t138 (t138.length : Int) 0)) else (none)) else (none)
def impl_count.l1 : Nat -> List (S55) -> Int -> Int -> List Int -> Int -> Int -> Option (Int)
 | 0, _, _, _, _, _, _ => none
 | k + 1, x0, x2, x7, x33, x34, x35 => if x35 < x34 then (if 0 <= x35 then (if x35 < (x33.length : Int) then (if x7 > x2 then (some x7) else ((impl_count.f k x0 (rd x33 x35) (wrap64 (x2 - x7))).bind fun t142 => (impl_count.l1 k x0 x2 (wrap64 (x7 + t142)) x33 x34 (wrap64 (x35 + 1))))) else (none)) else (none)) else (some x7)
def impl_count.l0 : Nat -> List (S55) -> Int -> Int -> Option (Int)
 | 0, _, _, _ => none
 | k + 1, x0, x1, x2 => if 0 <= x1 then (if x1 < (x0.length : Int) then (if ((rd_T55 x0 x1).f0) = 0 then (if ((rd_T55 x0 x1).f1) ≥ 0 then (impl_count.l0 k x0 ((rd_T55 x0 x1).f1) x2) else (impl_count.j1 k x0 x1 x2)) else (impl_count.j1 k x0 x1 x2)) else (none)) else (none)
def impl_count.f : Nat -> List (S55) -> Int -> Int -> Option (Int)
 | 0, _, _, _ => none
 | k + 1, l0, a1, a2 => impl_count.l0 k l0 a1 a2
end
theorem impl_count.mono_l : ∀ k, (∀ y0 y1 y2, LeO (impl_count.f k y0 y1 y2) (impl_count.f (k + 1) y0 y1 y2)) /\ (∀ y0 y1 y2, LeO (impl_count.j1 k y0 y1 y2) (impl_count.j1 (k + 1) y0 y1 y2)) /\ (∀ y0 y1 y2 y3 y4 y5, LeO (impl_count.l1 k y0 y1 y2 y3 y4 y5) (impl_count.l1 (k + 1) y0 y1 y2 y3 y4 y5)) /\ (∀ y0 y1 y2, LeO (impl_count.l0 k y0 y1 y2) (impl_count.l0 (k + 1) y0 y1 y2))
 | 0 => ⟨fun _ _ _ r h => by simp [impl_count.f] at h, fun _ _ _ r h => by simp [impl_count.j1] at h, fun _ _ _ _ _ _ r h => by simp [impl_count.l1] at h, fun _ _ _ r h => by simp [impl_count.l0] at h⟩
 | k + 1 => by
  obtain ⟨ih0, ih1, ih2, ih3⟩ := impl_count.mono_l k
  refine ⟨?_, ?_, ?_, ?_⟩
  ·intro y0 y1 y2
   unfold impl_count.f
   with_reducible repeat' first | exact ih0 _ _ _ | exact ih1 _ _ _ | exact ih2 _ _ _ _ _ _ | exact ih3 _ _ _ | exact impl_partsOf.mono _ _ _ _ | exact lrz _ | exact lnz _ | refine liz ?_ ?_ | refine lbz ?_ fun _ => ?_
  ·intro y0 y1 y2
   unfold impl_count.j1
   with_reducible repeat' first | exact ih0 _ _ _ | exact ih1 _ _ _ | exact ih2 _ _ _ _ _ _ | exact ih3 _ _ _ | exact impl_partsOf.mono _ _ _ _ | exact lrz _ | exact lnz _ | refine liz ?_ ?_ | refine lbz ?_ fun _ => ?_
  ·intro y0 y1 y2 y3 y4 y5
   unfold impl_count.l1
   with_reducible repeat' first | exact ih0 _ _ _ | exact ih1 _ _ _ | exact ih2 _ _ _ _ _ _ | exact ih3 _ _ _ | exact impl_partsOf.mono _ _ _ _ | exact lrz _ | exact lnz _ | refine liz ?_ ?_ | refine lbz ?_ fun _ => ?_
  ·intro y0 y1 y2
   unfold impl_count.l0
   with_reducible repeat' first | exact ih0 _ _ _ | exact ih1 _ _ _ | exact ih2 _ _ _ _ _ _ | exact ih3 _ _ _ | exact impl_partsOf.mono _ _ _ _ | exact lrz _ | exact lnz _ | refine liz ?_ ?_ | refine lbz ?_ fun _ => ?_
theorem impl_count.mono : ∀ a0 a1 a2 k, LeO (impl_count.f k a0 a1 a2) (impl_count.f (k + 1) a0 a1 a2) := by
 intro a0 a1 a2 k
 obtain ⟨ih0, ih1, ih2, ih3⟩ := impl_count.mono_l k
 exact ih0 a0 a1 a2
set_option maxHeartbeats 8000000 in
set_option maxRecDepth 100000 in
theorem impl_count.calls (k : Nat) : ∀ (A0 : Option Addr) (c0 : Nat) (l0 : List (S55)) (a1 : Int) (a2 : Int) (r : Int) (w : World) (hr0 : Kd.C k55 w A0 l0.length l0) (hc0 : l0.length <= c0) (h : impl_count.f k l0 a1 a2 = some r),
  Calls Tryd.prog 80 #[.slice A0 l0.length c0, .int .i64 a1, .int .i64 a2] w fun e w' => e = .returned (.int .i64 r) /\ Below w.heap.size w w' := by
 induction k using Nat.strongRecOn with
 | _ k ih =>
 intro A0 c0 l0 a1 a2 r w hr0 hc0 h
 cases k with
 | zero => exact absurd h (by simp [impl_count.f])
 | succ k =>
 simp only [impl_count.f] at h
 have hu55 := Tryd.underlying55
 have HR0 := Aside0.mk hr0
 have HC0 := Aside0.mk hc0
 clear hr0 hc0
 have HB := Aside0.mk (Below.refl w.heap.size w)
 have H : (impl_count.l0 k l0 a1 a2) = some r := h
 clear h
 have HC4 := Aside0.mk H
 clear H
 go_enter Tryd.func80, Tryd.ntmps80
 go_upto_block 0 with (fail)
 go_cut [1] (fun v1 wc => ∃ (kq : Nat) (x1_3 : Int), v1 = .int .i64 x1_3 /\ Aside0 (impl_count.j1 kq l0 x1_3 a2 = some r) /\ Aside0 (kq <= k) /\ Aside0 (Below w.heap.size w wc))
 case first =>
  have H := HC4.out
  clear HC4
  have H' := Aside0.mk H
  clear H
  go_wp2
  go_loopg [1] k (fun kq v1 w' => ∃ (x1_1 : Int), v1 = .int .i64 x1_1 /\ Aside0 (impl_count.l0 kq l0 x1_1 a2 = some r) /\ Aside0 (kq <= k) /\ Aside0 (Below w.heap.size w w'))
  case atStart => exact ⟨(a1), ez, H', ⟨Nat.le_refl _⟩, ⟨(bz0 HB.out)⟩⟩
  case round =>
   clear H'
   try clear p2
   obtain ⟨x1_1, rfl, HA, HK1, HB⟩ := hrel
   cases gk with
   | zero => exact absurd HA.out (by simp [impl_count.l0])
   | succ k1 =>
    have H := HA.out
    clear HA
    simp only [impl_count.l0] at H
    replace H := iz H
    obtain ⟨c5, H⟩ := H
    have c5b0 := decide_eq_true c5
    clear c5
    (first | rw [c5b0] | (simp only [i64_w, i32_w]; rw [c5b0]) | skip)
    replace H := iz H
    obtain ⟨c6, H⟩ := H
    have c6b0 := decide_eq_true c6
    clear c6
    by_cases c7 : ((rd_T55 l0 x1_1).f0) = 0
    ·rw [if_pos c7] at H
     have c7b0 : (((rd_T55 l0 x1_1).f0) == 0) = true := beq_iff_eq.mpr c7
     have c7b1 : (((rd_T55 l0 x1_1).f0) != 0) = false := bne_eq_false_iff_eq.mpr c7
     clear c7
     by_cases c8 : ((rd_T55 l0 x1_1).f1) ≥ 0
     ·rw [if_pos c8] at H
      have c8b0 : decide (0 <= ((rd_T55 l0 x1_1).f1)) = true := decide_eq_true c8
      clear c8
      have H' := Aside0.mk H
      clear H
      have p134 : 0 <= (x1_1 : Int) := oz
      have q134 : x1_1 < (l0.length : Int) := oz
      obtain ⟨ad134, e134, hx134_0, hx134_1, hx134_2⟩ := at_T55 (Kd.C_below HR0.out HB.out) x1_1 p134 q134
      cases e134
      replace p134 := eq_true p134
      replace q134 := eq_true q134
      have p135 : 0 <= (x1_1 : Int) := oz
      have q135 : x1_1 < (l0.length : Int) := oz
      obtain ⟨ad135, e135, hx135_0, hx135_1, hx135_2⟩ := at_T55 (Kd.C_below HR0.out HB.out) x1_1 p135 q135
      obtain rfl : ad134 = ad135 := (by injection e135)
      replace p135 := eq_true p135
      replace q135 := eq_true q135
      have p136 : 0 <= (x1_1 : Int) := oz
      have q136 : x1_1 < (l0.length : Int) := oz
      obtain ⟨ad136, e136, hx136_0, hx136_1, hx136_2⟩ := at_T55 (Kd.C_below HR0.out HB.out) x1_1 p136 q136
      obtain rfl : ad134 = ad136 := (by injection e136)
      replace p136 := eq_true p136
      replace q136 := eq_true q136
      go_wp2
      go_roundg k1
      case measure => have := HK1.out; omega
      case rel => exact ⟨((rd_T55 l0 x1_1).f1), ez, H', ⟨by have := HK1.out; omega⟩, ⟨(bz0 HB.out)⟩⟩
     ·rw [if_neg c8] at H
      have c8b0 : decide (0 <= ((rd_T55 l0 x1_1).f1)) = false := decide_eq_false c8
      clear c8
      have H' := Aside0.mk H
      clear H
      have p134 : 0 <= (x1_1 : Int) := oz
      have q134 : x1_1 < (l0.length : Int) := oz
      obtain ⟨ad134, e134, hx134_0, hx134_1, hx134_2⟩ := at_T55 (Kd.C_below HR0.out HB.out) x1_1 p134 q134
      cases e134
      replace p134 := eq_true p134
      replace q134 := eq_true q134
      have p135 : 0 <= (x1_1 : Int) := oz
      have q135 : x1_1 < (l0.length : Int) := oz
      obtain ⟨ad135, e135, hx135_0, hx135_1, hx135_2⟩ := at_T55 (Kd.C_below HR0.out HB.out) x1_1 p135 q135
      obtain rfl : ad134 = ad135 := (by injection e135)
      replace p135 := eq_true p135
      replace q135 := eq_true q135
      go_wp2
      go_meet
      case rel => exact ⟨_, (x1_1), ez, H', ⟨by have := HK1.out; first | omega | exact Nat.le_refl _⟩, ⟨(bz0 HB.out)⟩⟩
    ·rw [if_neg c7] at H
     have c7b0 : (((rd_T55 l0 x1_1).f0) == 0) = false := beq_eq_false_iff_ne.mpr c7
     have c7b1 : (((rd_T55 l0 x1_1).f0) != 0) = true := bne_iff_ne.mpr c7
     have H' := Aside0.mk H
     clear H
     have p134 : 0 <= (x1_1 : Int) := oz
     have q134 : x1_1 < (l0.length : Int) := oz
     obtain ⟨ad134, e134, hx134_0, hx134_1, hx134_2⟩ := at_T55 (Kd.C_below HR0.out HB.out) x1_1 p134 q134
     cases e134
     replace p134 := eq_true p134
     replace q134 := eq_true q134
     go_wp2
     go_meet
     case rel => exact ⟨_, (x1_1), ez, H', ⟨by have := HK1.out; first | omega | exact Nat.le_refl _⟩, ⟨(bz0 HB.out)⟩⟩
 case rest =>
  clear HC4
  try clear p1
  try clear q1
  try clear hx1
  try clear p2
  try clear c5
  try clear c5b0
  try clear c6
  try clear c6b0
  try clear c7
  try clear c7b0
  try clear c7b1
  try clear c8
  try clear c8b0
  try clear hx134_0
  try clear hx134_1
  try clear hx134_2
  try clear hx135_0
  try clear hx135_1
  try clear hx135_2
  try clear hx136_0
  try clear hx136_1
  try clear hx136_2
  try clear p134
  try clear p135
  try clear p136
  try clear p2
  try clear q134
  try clear q135
  try clear q136
  obtain ⟨kq, x1_3, rfl, HA, HJ3, HB⟩ := hcut
  cases kq with
  | zero => exact absurd HA.out (by simp [impl_count.j1])
  | succ kj3 =>
   have H := HA.out
   clear HA
   simp only [impl_count.j1] at H
   replace H := iz H
   obtain ⟨c9, H⟩ := H
   have c9b0 := decide_eq_true c9
   clear c9
   replace H := iz H
   obtain ⟨c10, H⟩ := H
   have c10b0 := decide_eq_true c10
   clear c10
   replace H := bi H
   obtain ⟨t138, A110, H⟩ := H
   try dsimp only at H
   have A11 := Aside0.mk A110
   clear A110
   have H' := Aside0.mk H
   clear H
   have p137 : 0 <= (x1_3 : Int) := oz
   have q137 : x1_3 < (l0.length : Int) := oz
   obtain ⟨ad137, e137, hx137_0, hx137_1, hx137_2⟩ := at_T55 (Kd.C_below HR0.out HB.out) x1_3 p137 q137
   cases e137
   replace p137 := eq_true p137
   replace q137 := eq_true q137
   go_wp2_with (first | ((with_reducible refine gate_callee (f := 79) rfl ?_); refine goesL_ (some 33) rfl rfl Tryd.func79 (by kernel_rfl) rfl #[.agg #[.int .i64 ((rd_T55 l0 x1_3).f0), .int .i64 ((rd_T55 l0 x1_3).f1), .int .i64 ((rd_T55 l0 x1_3).f2)]] rfl lz ?_; (with_reducible refine (impl_partsOf.calls kj3 ((rd_T55 l0 x1_3).f0) ((rd_T55 l0 x1_3).f1) ((rd_T55 l0 x1_3).f2) t138 _ A11.out).mono ?_); rintro e w12 ⟨v139, rfl, ho0, hb⟩; refine ⟨_, rfl, ?_⟩; have HO140 := Aside0.mk (Kd.R_lower ho0 (below_size (bz0 HB.out))); replace HB := Aside0.mk (below_step (bz0 HB.out) hb); (try clear hb); (try clear ho0); obtain ⟨Ao13, co13, eo13⟩ := Kd.R_slice HO140.out; subst eo13))
   go_loopg [7, 35] kj3 (fun kq v7 v35 w' => ∃ (x7_2 : Int) (x35_2 : Int), v7 = .int .i64 x7_2 /\ v35 = .int .i64 x35_2 /\ Aside0 (impl_count.l1 kq l0 a2 x7_2 t138 (t138.length : Int) x35_2 = some r) /\ Aside0 (kq <= kj3) /\ Aside0 (Kd.R (Kd.int .i64) 3 w' w.heap.size (fun _ => True) (.slice Ao13 t138.length co13) t138) /\ Aside0 (Below w.heap.size w w'))
   case atStart => exact ⟨(1), (0), ez, ez, H', ⟨Nat.le_refl _⟩, ⟨by refine rq ?_; exact HO140.out⟩, ⟨(bz0 HB.out)⟩⟩
   case round =>
    clear H'
    try clear c1
    try clear p1
    try clear q1
    try clear hx1
    try clear p2
    try clear c5
    try clear c5b0
    try clear c6
    try clear c6b0
    try clear c7
    try clear c7b0
    try clear c7b1
    try clear c8
    try clear c8b0
    try clear c9
    try clear c9b0
    try clear c10
    try clear c10b0
    try clear p13
    try clear q13
    try clear hx13
    try clear hx134_0
    try clear hx134_1
    try clear hx134_2
    try clear hx135_0
    try clear hx135_1
    try clear hx135_2
    try clear hx136_0
    try clear hx136_1
    try clear hx136_2
    try clear hx137_0
    try clear hx137_1
    try clear hx137_2
    try clear p1
    try clear p134
    try clear p135
    try clear p136
    try clear p137
    try clear p2
    try clear q1
    try clear q134
    try clear q135
    try clear q136
    try clear q137
    obtain ⟨x7_2, x35_2, rfl, rfl, HA, HK2, HO_33, HB⟩ := hrel
    cases gk with
    | zero => exact absurd HA.out (by simp [impl_count.l1])
    | succ k2 =>
     have H := HA.out
     clear HA
     simp only [impl_count.l1] at H
     by_cases c14 : x35_2 < (t138.length : Int)
     ·rw [if_pos c14] at H
      have c14b0 := decide_eq_true c14
      clear c14
      replace H := iz H
      obtain ⟨c15, H⟩ := H
      have c15b0 := decide_eq_true c15
      clear c15
      replace H := iz H
      obtain ⟨c16, H⟩ := H
      have c16b0 := decide_eq_true c16
      clear c16
      by_cases c17 : x7_2 > a2
      ·rw [if_pos c17] at H
       have c17b0 : decide (a2 < x7_2) = true := decide_eq_true c17
       clear c17
       obtain rfl := Option.some.inj H
       have p141 : 0 <= (x35_2 : Int) := oz
       have q141 : x35_2 < (t138.length : Int) := oz
       obtain ⟨ad141, e141, hx141_0⟩ := Kd.at_int (Kd.R_reads' HO_33.out).2.2 x35_2 p141 q141
       cases e141
       replace p141 := eq_true p141
       replace q141 := eq_true q141
       go_wp2
       go_ret
       exact ⟨gz, (bz0 HB.out)⟩
      ·rw [if_neg c17] at H
       have c17b0 : decide (a2 < x7_2) = false := decide_eq_false c17
       clear c17
       replace H := bi H
       obtain ⟨t142, A180, H⟩ := H
       try dsimp only at H
       have A18 := Aside0.mk A180
       clear A180
       have H' := Aside0.mk H
       clear H
       have p141 : 0 <= (x35_2 : Int) := oz
       have q141 : x35_2 < (t138.length : Int) := oz
       obtain ⟨ad141, e141, hx141_0⟩ := Kd.at_int (Kd.R_reads' HO_33.out).2.2 x35_2 p141 q141
       cases e141
       replace p141 := eq_true p141
       replace q141 := eq_true q141
       go_wp2_with (first | ((with_reducible refine gate_callee (f := 80) rfl ?_); refine goesL_ (some 48) rfl rfl Tryd.func80 (by kernel_rfl) rfl #[.slice (some ad137) l0.length c0, .int .i64 (rd t138 x35_2), .int .i64 (wrap64 (a2 - x7_2))] rfl lz ?_; (with_reducible refine (ih k2 (by have := HJ3.out; have := HK2.out; omega) _ _ l0 (rd t138 x35_2) (wrap64 (a2 - x7_2)) t142 _ ?side1 ?side2 A18.out).mono ?_); (case side1 => exact cz (Kd.C_below HR0.out HB.out)); (case side2 => exact HC0.out); rintro e w19 ⟨rfl, hb⟩; refine ⟨_, rfl, ?_⟩; replace HO_33 := qz HO_33 hb; replace HB := Aside0.mk (below_step (bz0 HB.out) hb); (try clear hb); (try clear hi)))
       go_roundg k2
       case measure => have := HJ3.out; have := HK2.out; omega
       case rel => exact ⟨(wrap64 (x7_2 + t142)), (wrap64 (x35_2 + 1)), ez, ez, H', ⟨by have := HJ3.out; have := HK2.out; omega⟩, ⟨by refine rq ?_; exact HO_33.out⟩, ⟨(bz0 HB.out)⟩⟩
     ·rw [if_neg c14] at H
      have c14b0 := decide_eq_false c14
      clear c14
      obtain rfl := Option.some.inj H
      go_wp2
      go_ret
      exact ⟨gz, (bz0 HB.out)⟩
def impl_sizeOf.f (k : Nat) (l0 : List (S55)) (a1 : Int) : Option (Int) := (impl_count.f k l0 a1 60).bind fun t143 => (some (mn t143 61))
theorem impl_sizeOf.mono : ∀ a0 a1 k, LeO (impl_sizeOf.f k a0 a1) (impl_sizeOf.f (k + 1) a0 a1) := by
 intro a0 a1 k
 unfold impl_sizeOf.f
 with_reducible repeat' first | exact impl_count.mono _ _ _ _ | exact lrz _ | exact lnz _ | refine liz ?_ ?_ | refine lbz ?_ fun _ => ?_
set_option maxHeartbeats 8000000 in
set_option maxRecDepth 100000 in
theorem impl_sizeOf.calls (k : Nat) (A0 : Option Addr) (c0 : Nat) (l0 : List (S55)) (a1 : Int) (r : Int) (w : World) (hr0 : Kd.C k55 w A0 l0.length l0) (hc0 : l0.length <= c0) (h : impl_sizeOf.f k l0 a1 = some r) :
  Calls Tryd.prog 53 #[.slice A0 l0.length c0, .int .i64 a1] w fun e w' => e = .returned (.int .i64 r) /\ Below w.heap.size w w' := by
 have HR0 := Aside0.mk hr0
 have HC0 := Aside0.mk hc0
 clear hr0 hc0
 have HB := Aside0.mk (Below.refl w.heap.size w)
 have H : ((impl_count.f k l0 a1 60).bind fun t143 => (some (mn t143 61))) = some r := h
 clear h
 replace H := bi H
 obtain ⟨t143, A30, H⟩ := H
 try dsimp only at H
 have A3 := Aside0.mk A30
 clear A30
 obtain ⟨ji4, hji4⟩ : ∃ j_ : Int, (mn t143 61) = j_ := ⟨_, rfl⟩
 replace H : (some ji4) = some r := by first | (rw [hji4] at H; exact H) | (simp only [hji4] at H ⊢; exact H)
 (try rw [hji4] at A3)
 (try (have hji4h : ji4 <= 61 := by (rw [<- hji4]; unfold mn; (repeat' split) <;> omega)))
 (try (have hji4g : ji4 <= 64 := by omega))
 have hji4_ : (if 61 < t143 then 61 else t143) = ji4 := hji4
 obtain rfl := Option.some.inj H
 go_enter Tryd.func53, Tryd.ntmps53
 go_wp2_with (first | ((with_reducible refine gate_callee (f := 80) rfl ?_); refine goesL_ (some 7) rfl rfl Tryd.func80 (by kernel_rfl) rfl #[.slice A0 l0.length c0, .int .i64 a1, .int .i64 60] rfl lz ?_; (with_reducible refine (impl_count.calls k _ _ l0 a1 60 t143 _ ?side1 ?side2 A3.out).mono ?_); (case side1 => repeat (first | exact HR0.out | (with_reducible refine Kd.C_alloc ?_ _) | (with_reducible refine Kd.C_drewN ?_ _) | (with_reducible refine Kd.C_drew ?_))); (case side2 => exact HC0.out); rintro e w5 ⟨rfl, hb⟩; refine ⟨_, rfl, ?_⟩; replace HB := Aside0.mk (below_step (bz0 HB.out) hb); (try clear hb); (try clear hi)))
 go_ret
 exact ⟨by first | rfl | (simp [errW_none, errW_some] <;> rfl) | (simp only [<- hji4]; first | rfl | (simp [errW_none, errW_some] <;> rfl)) | (simp [*, errW_none, errW_some] <;> rfl), (bz0 HB.out)⟩
def impl_SizeOf.f (k : Nat) (l0 : List (S55)) (a1 : Int) : Option (Int) := (impl_TableOk.f k l0).bind fun t144 => (if t144 = true then ((impl_in.f a1 0 (wrap64 ((l0.length : Int) - 1))).bind fun t145 => (if t145 = true then ((impl_sizeOf.f k l0 a1).bind fun t146 => (some t146)) else (some 0))) else (some 0))
theorem impl_SizeOf.mono : ∀ a0 a1 k, LeO (impl_SizeOf.f k a0 a1) (impl_SizeOf.f (k + 1) a0 a1) := by
 intro a0 a1 k
 unfold impl_SizeOf.f
 with_reducible repeat' first | exact impl_TableOk.mono _ _ | exact impl_sizeOf.mono _ _ _ | exact lrz _ | exact lnz _ | refine liz ?_ ?_ | refine lbz ?_ fun _ => ?_
set_option maxHeartbeats 8000000 in
set_option maxRecDepth 100000 in
theorem impl_SizeOf.calls (k : Nat) (A0 : Option Addr) (c0 : Nat) (l0 : List (S55)) (a1 : Int) (r : Int) (w : World) (hr0 : Kd.C k55 w A0 l0.length l0) (hc0 : l0.length <= c0) (h : impl_SizeOf.f k l0 a1 = some r) :
  Calls Tryd.prog 21 #[.slice A0 l0.length c0, .int .i64 a1] w fun e w' => e = .returned (.int .i64 r) /\ Below w.heap.size w w' := by
 have HR0 := Aside0.mk hr0
 have HC0 := Aside0.mk hc0
 clear hr0 hc0
 have HB := Aside0.mk (Below.refl w.heap.size w)
 have H : ((impl_TableOk.f k l0).bind fun t144 => (if t144 = true then ((impl_in.f a1 0 (wrap64 ((l0.length : Int) - 1))).bind fun t145 => (if t145 = true then ((impl_sizeOf.f k l0 a1).bind fun t146 => (some t146)) else (some 0))) else (some 0))) = some r := h
 clear h
 replace H := bi H
 obtain ⟨t144, A30, H⟩ := H
 try dsimp only at H
 have A3 := Aside0.mk A30
 clear A30
 by_cases c4 : t144 = true
 ·subst c4
  have H1 := hp H
  clear H
  have H := H1
  clear H1
  replace H := bi H
  obtain ⟨t145, A50, H⟩ := H
  try dsimp only at H
  have A5 := Aside0.mk A50
  clear A50
  by_cases c6 : t145 = true
  ·subst c6
   have H1 := hp H
   clear H
   have H := H1
   clear H1
   replace H := bi H
   obtain ⟨t146, A70, H⟩ := H
   try dsimp only at H
   have A7 := Aside0.mk A70
   clear A70
   obtain rfl := Option.some.inj H
   go_enter Tryd.func21, Tryd.ntmps21
   go_wp2_with (first | ((with_reducible refine gate_callee (f := 52) rfl ?_); refine goesL_ (some 6) rfl rfl Tryd.func52 (by kernel_rfl) rfl #[.slice A0 l0.length c0] rfl lz ?_; (with_reducible refine (impl_TableOk.calls k _ _ l0 true _ ?side1 ?side2 A3.out).mono ?_); (case side1 => repeat (first | exact HR0.out | (with_reducible refine Kd.C_alloc ?_ _) | (with_reducible refine Kd.C_drewN ?_ _) | (with_reducible refine Kd.C_drew ?_))); (case side2 => exact HC0.out); rintro e w8 ⟨rfl, hb⟩; refine ⟨_, rfl, ?_⟩; replace HB := Aside0.mk (below_step (bz0 HB.out) hb); (try clear hb); (try clear hi)) | (go_at_call 42; (with_reducible refine (impl_in.calls a1 0 (wrap64 ((l0.length : Int) - 1)) true _ A5.out).mono ?_); rintro e w' ⟨rfl, ⟨nd, rfl⟩⟩) | ((with_reducible refine gate_callee (f := 53) rfl ?_); refine goesL_ (some 18) rfl rfl Tryd.func53 (by kernel_rfl) rfl #[.slice A0 l0.length c0, .int .i64 a1] rfl lz ?_; (with_reducible refine (impl_sizeOf.calls k _ _ l0 a1 t146 _ ?side1 ?side2 A7.out).mono ?_); (case side1 => exact cz (Kd.C_below HR0.out (bz0 HB.out))); (case side2 => exact HC0.out); rintro e w9 ⟨rfl, hb⟩; refine ⟨_, rfl, ?_⟩; replace HB := Aside0.mk (below_step (bz0 HB.out) hb); (try clear hb); (try clear hi)))
   go_ret
   exact ⟨gz, (bz0 HB.out)⟩
  ·replace c6 := Bool.eq_false_iff.mpr c6
   subst c6
   have H1 := hq H
   clear H
   have H := H1
   clear H1
   obtain rfl := Option.some.inj H
   go_enter Tryd.func21, Tryd.ntmps21
   go_wp2_with (first | ((with_reducible refine gate_callee (f := 52) rfl ?_); refine goesL_ (some 6) rfl rfl Tryd.func52 (by kernel_rfl) rfl #[.slice A0 l0.length c0] rfl lz ?_; (with_reducible refine (impl_TableOk.calls k _ _ l0 true _ ?side1 ?side2 A3.out).mono ?_); (case side1 => repeat (first | exact HR0.out | (with_reducible refine Kd.C_alloc ?_ _) | (with_reducible refine Kd.C_drewN ?_ _) | (with_reducible refine Kd.C_drew ?_))); (case side2 => exact HC0.out); rintro e w10 ⟨rfl, hb⟩; refine ⟨_, rfl, ?_⟩; replace HB := Aside0.mk (below_step (bz0 HB.out) hb); (try clear hb); (try clear hi)) | (go_at_call 42; (with_reducible refine (impl_in.calls a1 0 (wrap64 ((l0.length : Int) - 1)) false _ A5.out).mono ?_); rintro e w' ⟨rfl, ⟨nd, rfl⟩⟩))
   go_ret
   exact ⟨gz, (bz0 HB.out)⟩
 ·replace c4 := Bool.eq_false_iff.mpr c4
  subst c4
  have H1 := hq H
  clear H
  have H := H1
  clear H1
  obtain rfl := Option.some.inj H
  go_enter Tryd.func21, Tryd.ntmps21
  go_wp2_with (first | ((with_reducible refine gate_callee (f := 52) rfl ?_); refine goesL_ (some 6) rfl rfl Tryd.func52 (by kernel_rfl) rfl #[.slice A0 l0.length c0] rfl lz ?_; (with_reducible refine (impl_TableOk.calls k _ _ l0 false _ ?side1 ?side2 A3.out).mono ?_); (case side1 => repeat (first | exact HR0.out | (with_reducible refine Kd.C_alloc ?_ _) | (with_reducible refine Kd.C_drewN ?_ _) | (with_reducible refine Kd.C_drew ?_))); (case side2 => exact HC0.out); rintro e w11 ⟨rfl, hb⟩; refine ⟨_, rfl, ?_⟩; replace HB := Aside0.mk (below_step (bz0 HB.out) hb); (try clear hb); (try clear hi)))
  go_ret
  exact ⟨gz, (bz0 HB.out)⟩
def strconv_Itoa_49.f (a0 : Int) : Option (ByteArray) := if -9223372036854775808 <= a0 then (if a0 <= 9223372036854775807 then (some (⟨(Lib.itoa a0).toArray⟩ : ByteArray)) else (none)) else (none)
theorem strconv_Itoa_49.calls (a0 : Int) (r : ByteArray) (w : World) (h : strconv_Itoa_49.f a0 = some r) (hT_ : PW w) :
  Calls Tryd.prog 49 #[.int .i64 a0] w fun e w' => e = .returned (.string r) /\ Below w.heap.size w w' := by
 unfold strconv_Itoa_49.f at h
 split at h
 ·split at h
  ·rename_i h0 h1
   obtain rfl := Option.some.inj h
   exact (Tryd.strconv_Itoa a0 h0 h1 w hT_.tab).mono fun e w' ⟨h1, n, os, h2⟩ => ⟨h1, by rw [h2]; exact below_grow _ _ _⟩
  ·cases h
 ·cases h
def impl_Dec.f (a0 : Int) : Option (ByteArray) := (strconv_Itoa_49.f a0).bind fun t147 => (some t147)
set_option maxHeartbeats 8000000 in
set_option maxRecDepth 100000 in
theorem impl_Dec.calls (a0 : Int) (r : ByteArray) (w : World) (h : impl_Dec.f a0 = some r) (hT_ : PW w) :
  Calls Tryd.prog 18 #[.int .i64 a0] w fun e w' => e = .returned (.string r) /\ Below w.heap.size w w' := by
 have HB := Aside0.mk (Below.refl w.heap.size w)
 have H : ((strconv_Itoa_49.f a0).bind fun t147 => (some t147)) = some r := h
 clear h
 replace H := bi H
 obtain ⟨t147, A20, H⟩ := H
 try dsimp only at H
 have A2 := Aside0.mk A20
 clear A20
 obtain rfl := Option.some.inj H
 go_enter Tryd.func18, Tryd.ntmps18
 go_wp2_with (first | ((with_reducible refine gate_callee (f := 49) rfl ?_); refine goesL_ (some 4) rfl rfl Tryd.func49 (by kernel_rfl) rfl #[.int .i64 a0] rfl lz ?_; (with_reducible refine (strconv_Itoa_49.calls a0 t147 _ A2.out ?hT_).mono ?_); (case hT_ => exact PW.below hT_ (bz0 HB.out)); rintro e w3 ⟨rfl, hb⟩; refine ⟨_, rfl, ?_⟩; replace HB := Aside0.mk (below_step (bz0 HB.out) hb); (try clear hb); (try clear hi)))
 go_ret
 exact ⟨gz, (bz0 HB.out)⟩
end Go.Proofs.YtlhofeikcaejpaaDoor.PFnExactShowType
