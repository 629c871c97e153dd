/- PFnExactUnifiedx4, of the words and walks that the law FnExactUnified needs; made by this session's program out of printed texts. -/

import Derived.Test.YtlhofeikcaejpaaDoorVEUnifiedPx0
import Derived.Test.YtlhofeikcaejpaaDoorVEUnifiedPx1
import Derived.Test.YtlhofeikcaejpaaDoorVEUnifiedPx3
namespace Go.Proofs.YtlhofeikcaejpaaDoor.PFnExactUnified
open Go.RowKit Go.Proofs.YtlhofeikcaejpaaDoorW.PrintWords Go.Proofs.YtlhofeikcaejpaaDoorW.PrintLast Go.Proofs.YtlhofeikcaejpaaDoorW.PrintMore
attribute [local go_sem] max2_int min2_int max_two min_two max_three min_three max_four min_four
set_option linter.unusedVariables false
set_option linter.unusedSimpArgs false
mutual
def impl_count.j1 : Nat -> List (S55) -> Int -> Int -> Option (Int)
 | 0, _, _, _ => none
 | k + 1, x0, x1, x2 => if 0 <= x1 then (if x1 < (x0.length : Int) then ((impl_partsOf.f k ((rd_T55 x0 x1).f0) ((rd_T55 x0 x1).f1) ((rd_T55 x0 x1).f2)).bind fun t154 => (impl_count.l1 k x0 x2 1 t154 (t154.length : Int) 0)) else (none)) else (none)
def impl_count.l1 : Nat -> List (S55) -> Int -> Int -> List Int -> Int -> Int -> Option (Int)
 | 0, _, _, _, _, _, _ => none
 | k + 1, x0, x2, x7, x33, x34, x35 => if x35 < x34 then (if 0 <= x35 then (if x35 < (x33.length : Int) then (if x7 > x2 then (some x7) else ((impl_count.f k x0 (rd x33 x35) (wrap64 (x2 - x7))).bind fun t158 => (impl_count.l1 k x0 x2 (wrap64 (x7 + t158)) x33 x34 (wrap64 (x35 + 1))))) else (none)) else (none)) else (some x7)
def impl_count.l0 : Nat -> List (S55) -> Int -> Int -> Option (Int)
 | 0, _, _, _ => none
 | k + 1, x0, x1, x2 => if 0 <= x1 then (if x1 < (x0.length : Int) then (if ((rd_T55 x0 x1).f0) = 0 then (if ((rd_T55 x0 x1).f1) ≥ 0 then (impl_count.l0 k x0 ((rd_T55 x0 x1).f1) x2) else (impl_count.j1 k x0 x1 x2)) else (impl_count.j1 k x0 x1 x2)) else (none)) else (none)
def impl_count.f : Nat -> List (S55) -> Int -> Int -> Option (Int)
 | 0, _, _, _ => none
 | k + 1, l0, a1, a2 => impl_count.l0 k l0 a1 a2
end
theorem impl_count.mono_l : ∀ k, (∀ y0 y1 y2, LeO (impl_count.f k y0 y1 y2) (impl_count.f (k + 1) y0 y1 y2)) /\ (∀ y0 y1 y2, LeO (impl_count.j1 k y0 y1 y2) (impl_count.j1 (k + 1) y0 y1 y2)) /\ (∀ y0 y1 y2 y3 y4 y5, LeO (impl_count.l1 k y0 y1 y2 y3 y4 y5) (impl_count.l1 (k + 1) y0 y1 y2 y3 y4 y5)) /\ (∀ y0 y1 y2, LeO (impl_count.l0 k y0 y1 y2) (impl_count.l0 (k + 1) y0 y1 y2))
 | 0 => ⟨fun _ _ _ r h => by simp [impl_count.f] at h, fun _ _ _ r h => by simp [impl_count.j1] at h, fun _ _ _ _ _ _ r h => by simp [impl_count.l1] at h, fun _ _ _ r h => by simp [impl_count.l0] at h⟩
 | k + 1 => by
  obtain ⟨ih0, ih1, ih2, ih3⟩ := impl_count.mono_l k
  refine ⟨?_, ?_, ?_, ?_⟩
  ·intro y0 y1 y2
   unfold impl_count.f
   with_reducible repeat' first | exact ih0 _ _ _ | exact ih1 _ _ _ | exact ih2 _ _ _ _ _ _ | exact ih3 _ _ _ | exact impl_partsOf.mono _ _ _ _ | exact lrz _ | exact lnz _ | refine liz ?_ ?_ | refine lbz ?_ fun _ => ?_
  ·intro y0 y1 y2
   unfold impl_count.j1
   with_reducible repeat' first | exact ih0 _ _ _ | exact ih1 _ _ _ | exact ih2 _ _ _ _ _ _ | exact ih3 _ _ _ | exact impl_partsOf.mono _ _ _ _ | exact lrz _ | exact lnz _ | refine liz ?_ ?_ | refine lbz ?_ fun _ => ?_
  ·intro y0 y1 y2 y3 y4 y5
   unfold impl_count.l1
   with_reducible repeat' first | exact ih0 _ _ _ | exact ih1 _ _ _ | exact ih2 _ _ _ _ _ _ | exact ih3 _ _ _ | exact impl_partsOf.mono _ _ _ _ | exact lrz _ | exact lnz _ | refine liz ?_ ?_ | refine lbz ?_ fun _ => ?_
  ·intro y0 y1 y2
   unfold impl_count.l0
   with_reducible repeat' first | exact ih0 _ _ _ | exact ih1 _ _ _ | exact ih2 _ _ _ _ _ _ | exact ih3 _ _ _ | exact impl_partsOf.mono _ _ _ _ | exact lrz _ | exact lnz _ | refine liz ?_ ?_ | refine lbz ?_ fun _ => ?_
theorem impl_count.mono : ∀ a0 a1 a2 k, LeO (impl_count.f k a0 a1 a2) (impl_count.f (k + 1) a0 a1 a2) := by
 intro a0 a1 a2 k
 obtain ⟨ih0, ih1, ih2, ih3⟩ := impl_count.mono_l k
 exact ih0 a0 a1 a2
set_option maxHeartbeats 8000000 in
set_option maxRecDepth 100000 in
theorem impl_count.calls (k : Nat) : ∀ (A0 : Option Addr) (c0 : Nat) (l0 : List (S55)) (a1 : Int) (a2 : Int) (r : Int) (w : World) (hr0 : Kd.C k55 w A0 l0.length l0) (hc0 : l0.length <= c0) (h : impl_count.f k l0 a1 a2 = some r),
  Calls Tryd.prog 80 #[.slice A0 l0.length c0, .int .i64 a1, .int .i64 a2] w fun e w' => e = .returned (.int .i64 r) /\ Below w.heap.size w w' := by
 induction k using Nat.strongRecOn with
 | _ k ih =>
 intro A0 c0 l0 a1 a2 r w hr0 hc0 h
 cases k with
 | zero => exact absurd h (by simp [impl_count.f])
 | succ k =>
 simp only [impl_count.f] at h
 have hu55 := Tryd.underlying55
 have HR0 := Aside0.mk hr0
 have HC0 := Aside0.mk hc0
 clear hr0 hc0
 have HB := Aside0.mk (Below.refl w.heap.size w)
 have H : (impl_count.l0 k l0 a1 a2) = some r := h
 clear h
 have HC4 := Aside0.mk H
 clear H
 go_enter Tryd.func80, Tryd.ntmps80
 go_upto_block 0 with (fail)
 go_cut [1] (fun v1 wc => ∃ (kq : Nat) (x1_3 : Int), v1 = .int .i64 x1_3 /\ Aside0 (impl_count.j1 kq l0 x1_3 a2 = some r) /\ Aside0 (kq <= k) /\ Aside0 (Below w.heap.size w wc))
 case first =>
  have H := HC4.out
  clear HC4
  have H' := Aside0.mk H
  clear H
  go_wp2
  go_loopg [1] k (fun kq v1 w' => ∃ (x1_1 : Int), v1 = .int .i64 x1_1 /\ Aside0 (impl_count.l0 kq l0 x1_1 a2 = some r) /\ Aside0 (kq <= k) /\ Aside0 (Below w.heap.size w w'))
  case atStart => exact ⟨(a1), ez, H', ⟨Nat.le_refl _⟩, ⟨(bz0 HB.out)⟩⟩
  case round =>
   clear H'
   try clear p2
   obtain ⟨x1_1, rfl, HA, HK1, HB⟩ := hrel
   cases gk with
   | zero => exact absurd HA.out (by simp [impl_count.l0])
   | succ k1 =>
    have H := HA.out
    clear HA
    simp only [impl_count.l0] at H
    replace H := iz H
    obtain ⟨c5, H⟩ := H
    have c5b0 := decide_eq_true c5
    clear c5
    (first | rw [c5b0] | (simp only [i64_w, i32_w]; rw [c5b0]) | skip)
    replace H := iz H
    obtain ⟨c6, H⟩ := H
    have c6b0 := decide_eq_true c6
    clear c6
    by_cases c7 : ((rd_T55 l0 x1_1).f0) = 0
    ·rw [if_pos c7] at H
     have c7b0 : (((rd_T55 l0 x1_1).f0) == 0) = true := beq_iff_eq.mpr c7
     have c7b1 : (((rd_T55 l0 x1_1).f0) != 0) = false := bne_eq_false_iff_eq.mpr c7
     clear c7
     by_cases c8 : ((rd_T55 l0 x1_1).f1) ≥ 0
     ·rw [if_pos c8] at H
      have c8b0 : decide (0 <= ((rd_T55 l0 x1_1).f1)) = true := decide_eq_true c8
      clear c8
      have H' := Aside0.mk H
      clear H
      have p150 : 0 <= (x1_1 : Int) := oz
      have q150 : x1_1 < (l0.length : Int) := oz
      obtain ⟨ad150, e150, hx150_0, hx150_1, hx150_2⟩ := at_T55 (Kd.C_below HR0.out HB.out) x1_1 p150 q150
      cases e150
      replace p150 := eq_true p150
      replace q150 := eq_true q150
      have p151 : 0 <= (x1_1 : Int) := oz
      have q151 : x1_1 < (l0.length : Int) := oz
      obtain ⟨ad151, e151, hx151_0, hx151_1, hx151_2⟩ := at_T55 (Kd.C_below HR0.out HB.out) x1_1 p151 q151
      obtain rfl : ad150 = ad151 := (by injection e151)
      replace p151 := eq_true p151
      replace q151 := eq_true q151
      have p152 : 0 <= (x1_1 : Int) := oz
      have q152 : x1_1 < (l0.length : Int) := oz
      obtain ⟨ad152, e152, hx152_0, hx152_1, hx152_2⟩ := at_T55 (Kd.C_below HR0.out HB.out) x1_1 p152 q152
      obtain rfl : ad150 = ad152 := (by injection e152)
      replace p152 := eq_true p152
      replace q152 := eq_true q152
      go_wp2
      go_roundg k1
      case measure => have := HK1.out; omega
      case rel => exact ⟨((rd_T55 l0 x1_1).f1), ez, H', ⟨by have := HK1.out; omega⟩, ⟨(bz0 HB.out)⟩⟩
     ·rw [if_neg c8] at H
      have c8b0 : decide (0 <= ((rd_T55 l0 x1_1).f1)) = false := decide_eq_false c8
      clear c8
      have H' := Aside0.mk H
      clear H
      have p150 : 0 <= (x1_1 : Int) := oz
      have q150 : x1_1 < (l0.length : Int) := oz
      obtain ⟨ad150, e150, hx150_0, hx150_1, hx150_2⟩ := at_T55 (Kd.C_below HR0.out HB.out) x1_1 p150 q150
      cases e150
      replace p150 := eq_true p150
      replace q150 := eq_true q150
      have p151 : 0 <= (x1_1 : Int) := oz
      have q151 : x1_1 < (l0.length : Int) := oz
      obtain ⟨ad151, e151, hx151_0, hx151_1, hx151_2⟩ := at_T55 (Kd.C_below HR0.out HB.out) x1_1 p151 q151
      obtain rfl : ad150 = ad151 := (by injection e151)
      replace p151 := eq_true p151
      replace q151 := eq_true q151
      go_wp2
      go_meet
      case rel => exact ⟨_, (x1_1), ez, H', ⟨by have := HK1.out; first | omega | exact Nat.le_refl _⟩, ⟨(bz0 HB.out)⟩⟩
    ·rw [if_neg c7] at H
     have c7b0 : (((rd_T55 l0 x1_1).f0) == 0) = false := beq_eq_false_iff_ne.mpr c7
     have c7b1 : (((rd_T55 l0 x1_1).f0) != 0) = true := bne_iff_ne.mpr c7
     have H' := Aside0.mk H
     clear H
     have p150 : 0 <= (x1_1 : Int) := oz
     have q150 : x1_1 < (l0.length : Int) := oz
     obtain ⟨ad150, e150, hx150_0, hx150_1, hx150_2⟩ := at_T55 (Kd.C_below HR0.out HB.out) x1_1 p150 q150
     cases e150
     replace p150 := eq_true p150
     replace q150 := eq_true q150
     go_wp2
     go_meet
     case rel => exact ⟨_, (x1_1), ez, H', ⟨by have := HK1.out; first | omega | exact Nat.le_refl _⟩, ⟨(bz0 HB.out)⟩⟩
 case rest =>
  clear HC4
  try clear p1
  try clear q1
  try clear hx1
  try clear p2
  try clear c5
  try clear c5b0
  try clear c6
  try clear c6b0
  try clear c7
  try clear c7b0
  try clear c7b1
  try clear c8
  try clear c8b0
  try clear hx150_0
  try clear hx150_1
  try clear hx150_2
  try clear hx151_0
  try clear hx151_1
  try clear hx151_2
  try clear hx152_0
  try clear hx152_1
  try clear hx152_2
  try clear p150
  try clear p151
  try clear p152
  try clear p2
  try clear q150
  try clear q151
  try clear q152
  obtain ⟨kq, x1_3, rfl, HA, HJ3, HB⟩ := hcut
  cases kq with
  | zero => exact absurd HA.out (by simp [impl_count.j1])
  | succ kj3 =>
   have H := HA.out
   clear HA
   simp only [impl_count.j1] at H
   replace H := iz H
   obtain ⟨c9, H⟩ := H
   have c9b0 := decide_eq_true c9
   clear c9
   replace H := iz H
   obtain ⟨c10, H⟩ := H
   have c10b0 := decide_eq_true c10
   clear c10
   replace H := bi H
   obtain ⟨t154, A110, H⟩ := H
   try dsimp only at H
   have A11 := Aside0.mk A110
   clear A110
   have H' := Aside0.mk H
   clear H
   have p153 : 0 <= (x1_3 : Int) := oz
   have q153 : x1_3 < (l0.length : Int) := oz
   obtain ⟨ad153, e153, hx153_0, hx153_1, hx153_2⟩ := at_T55 (Kd.C_below HR0.out HB.out) x1_3 p153 q153
   cases e153
   replace p153 := eq_true p153
   replace q153 := eq_true q153
   go_wp2_with (first | ((with_reducible refine gate_callee (f := 79) rfl ?_); refine goesL_ (some 33) rfl rfl Tryd.func79 (by kernel_rfl) rfl #[.agg #[.int .i64 ((rd_T55 l0 x1_3).f0), .int .i64 ((rd_T55 l0 x1_3).f1), .int .i64 ((rd_T55 l0 x1_3).f2)]] rfl lz ?_; (with_reducible refine (impl_partsOf.calls kj3 ((rd_T55 l0 x1_3).f0) ((rd_T55 l0 x1_3).f1) ((rd_T55 l0 x1_3).f2) t154 _ A11.out).mono ?_); rintro e w12 ⟨v155, rfl, ho0, hb⟩; refine ⟨_, rfl, ?_⟩; have HO156 := Aside0.mk (Kd.R_lower ho0 (below_size (bz0 HB.out))); replace HB := Aside0.mk (below_step (bz0 HB.out) hb); (try clear hb); (try clear ho0); obtain ⟨Ao13, co13, eo13⟩ := Kd.R_slice HO156.out; subst eo13))
   go_loopg [7, 35] kj3 (fun kq v7 v35 w' => ∃ (x7_2 : Int) (x35_2 : Int), v7 = .int .i64 x7_2 /\ v35 = .int .i64 x35_2 /\ Aside0 (impl_count.l1 kq l0 a2 x7_2 t154 (t154.length : Int) x35_2 = some r) /\ Aside0 (kq <= kj3) /\ Aside0 (Kd.R (Kd.int .i64) 3 w' w.heap.size (fun _ => True) (.slice Ao13 t154.length co13) t154) /\ Aside0 (Below w.heap.size w w'))
   case atStart => exact ⟨(1), (0), ez, ez, H', ⟨Nat.le_refl _⟩, ⟨by refine rq ?_; exact HO156.out⟩, ⟨(bz0 HB.out)⟩⟩
   case round =>
    clear H'
    try clear c1
    try clear p1
    try clear q1
    try clear hx1
    try clear p2
    try clear c5
    try clear c5b0
    try clear c6
    try clear c6b0
    try clear c7
    try clear c7b0
    try clear c7b1
    try clear c8
    try clear c8b0
    try clear c9
    try clear c9b0
    try clear c10
    try clear c10b0
    try clear hx150_0
    try clear hx150_1
    try clear hx150_2
    try clear hx151_0
    try clear hx151_1
    try clear hx151_2
    try clear hx152_0
    try clear hx152_1
    try clear hx152_2
    try clear hx153_0
    try clear hx153_1
    try clear hx153_2
    try clear p1
    try clear p150
    try clear p151
    try clear p152
    try clear p153
    try clear p2
    try clear q1
    try clear q150
    try clear q151
    try clear q152
    try clear q153
    obtain ⟨x7_2, x35_2, rfl, rfl, HA, HK2, HO_33, HB⟩ := hrel
    cases gk with
    | zero => exact absurd HA.out (by simp [impl_count.l1])
    | succ k2 =>
     have H := HA.out
     clear HA
     simp only [impl_count.l1] at H
     by_cases c14 : x35_2 < (t154.length : Int)
     ·rw [if_pos c14] at H
      have c14b0 := decide_eq_true c14
      clear c14
      replace H := iz H
      obtain ⟨c15, H⟩ := H
      have c15b0 := decide_eq_true c15
      clear c15
      replace H := iz H
      obtain ⟨c16, H⟩ := H
      have c16b0 := decide_eq_true c16
      clear c16
      by_cases c17 : x7_2 > a2
      ·rw [if_pos c17] at H
       have c17b0 : decide (a2 < x7_2) = true := decide_eq_true c17
       clear c17
       obtain rfl := Option.some.inj H
       have p157 : 0 <= (x35_2 : Int) := oz
       have q157 : x35_2 < (t154.length : Int) := oz
       obtain ⟨ad157, e157, hx157_0⟩ := Kd.at_int (Kd.R_reads' HO_33.out).2.2 x35_2 p157 q157
       cases e157
       replace p157 := eq_true p157
       replace q157 := eq_true q157
       go_wp2
       go_ret
       exact ⟨gz, (bz0 HB.out)⟩
      ·rw [if_neg c17] at H
       have c17b0 : decide (a2 < x7_2) = false := decide_eq_false c17
       clear c17
       replace H := bi H
       obtain ⟨t158, A180, H⟩ := H
       try dsimp only at H
       have A18 := Aside0.mk A180
       clear A180
       have H' := Aside0.mk H
       clear H
       have p157 : 0 <= (x35_2 : Int) := oz
       have q157 : x35_2 < (t154.length : Int) := oz
       obtain ⟨ad157, e157, hx157_0⟩ := Kd.at_int (Kd.R_reads' HO_33.out).2.2 x35_2 p157 q157
       cases e157
       replace p157 := eq_true p157
       replace q157 := eq_true q157
       go_wp2_with (first | ((with_reducible refine gate_callee (f := 80) rfl ?_); refine goesL_ (some 48) rfl rfl Tryd.func80 (by kernel_rfl) rfl #[.slice (some ad153) l0.length c0, .int .i64 (rd t154 x35_2), .int .i64 (wrap64 (a2 - x7_2))] rfl lz ?_; (with_reducible refine (ih k2 (by have := HJ3.out; have := HK2.out; omega) _ _ l0 (rd t154 x35_2) (wrap64 (a2 - x7_2)) t158 _ ?side1 ?side2 A18.out).mono ?_); (case side1 => exact cz (Kd.C_below HR0.out HB.out)); (case side2 => exact HC0.out); rintro e w19 ⟨rfl, hb⟩; refine ⟨_, rfl, ?_⟩; replace HO_33 := qz HO_33 hb; replace HB := Aside0.mk (below_step (bz0 HB.out) hb); (try clear hb); (try clear hi)))
       go_roundg k2
       case measure => have := HJ3.out; have := HK2.out; omega
       case rel => exact ⟨(wrap64 (x7_2 + t158)), (wrap64 (x35_2 + 1)), ez, ez, H', ⟨by have := HJ3.out; have := HK2.out; omega⟩, ⟨by refine rq ?_; exact HO_33.out⟩, ⟨(bz0 HB.out)⟩⟩
     ·rw [if_neg c14] at H
      have c14b0 := decide_eq_false c14
      clear c14
      obtain rfl := Option.some.inj H
      go_wp2
      go_ret
      exact ⟨gz, (bz0 HB.out)⟩
def impl_sizeOf.f (k : Nat) (l0 : List (S55)) (a1 : Int) : Option (Int) := (impl_count.f k l0 a1 60).bind fun t159 => (some (mn t159 61))
theorem impl_sizeOf.mono : ∀ a0 a1 k, LeO (impl_sizeOf.f k a0 a1) (impl_sizeOf.f (k + 1) a0 a1) := by
 intro a0 a1 k
 unfold impl_sizeOf.f
 with_reducible repeat' first | exact impl_count.mono _ _ _ _ | exact lrz _ | exact lnz _ | refine liz ?_ ?_ | refine lbz ?_ fun _ => ?_
set_option maxHeartbeats 8000000 in
set_option maxRecDepth 100000 in
theorem impl_sizeOf.calls (k : Nat) (A0 : Option Addr) (c0 : Nat) (l0 : List (S55)) (a1 : Int) (r : Int) (w : World) (hr0 : Kd.C k55 w A0 l0.length l0) (hc0 : l0.length <= c0) (h : impl_sizeOf.f k l0 a1 = some r) :
  Calls Tryd.prog 53 #[.slice A0 l0.length c0, .int .i64 a1] w fun e w' => e = .returned (.int .i64 r) /\ Below w.heap.size w w' := by
 have HR0 := Aside0.mk hr0
 have HC0 := Aside0.mk hc0
 clear hr0 hc0
 have HB := Aside0.mk (Below.refl w.heap.size w)
 have H : ((impl_count.f k l0 a1 60).bind fun t159 => (some (mn t159 61))) = some r := h
 clear h
 replace H := bi H
 obtain ⟨t159, A30, H⟩ := H
 try dsimp only at H
 have A3 := Aside0.mk A30
 clear A30
 obtain ⟨ji4, hji4⟩ : ∃ j_ : Int, (mn t159 61) = j_ := ⟨_, rfl⟩
 replace H : (some ji4) = some r := by first | (rw [hji4] at H; exact H) | (simp only [hji4] at H ⊢; exact H)
 (try rw [hji4] at A3)
 (try (have hji4h : ji4 <= 61 := by (rw [<- hji4]; unfold mn; (repeat' split) <;> omega)))
 (try (have hji4g : ji4 <= 64 := by omega))
 have hji4_ : (if 61 < t159 then 61 else t159) = ji4 := hji4
 obtain rfl := Option.some.inj H
 go_enter Tryd.func53, Tryd.ntmps53
 go_wp2_with (first | ((with_reducible refine gate_callee (f := 80) rfl ?_); refine goesL_ (some 7) rfl rfl Tryd.func80 (by kernel_rfl) rfl #[.slice A0 l0.length c0, .int .i64 a1, .int .i64 60] rfl lz ?_; (with_reducible refine (impl_count.calls k _ _ l0 a1 60 t159 _ ?side1 ?side2 A3.out).mono ?_); (case side1 => repeat (first | exact HR0.out | (with_reducible refine Kd.C_alloc ?_ _) | (with_reducible refine Kd.C_drewN ?_ _) | (with_reducible refine Kd.C_drew ?_))); (case side2 => exact HC0.out); rintro e w5 ⟨rfl, hb⟩; refine ⟨_, rfl, ?_⟩; replace HB := Aside0.mk (below_step (bz0 HB.out) hb); (try clear hb); (try clear hi)))
 go_ret
 exact ⟨by first | rfl | (simp [errW_none, errW_some] <;> rfl) | (simp only [<- hji4]; first | rfl | (simp [errW_none, errW_some] <;> rfl)) | (simp [*, errW_none, errW_some] <;> rfl), (bz0 HB.out)⟩
def impl_SizeOf.f (k : Nat) (l0 : List (S55)) (a1 : Int) : Option (Int) := (impl_TableOk.f k l0).bind fun t160 => (if t160 = true then ((impl_in.f a1 0 (wrap64 ((l0.length : Int) - 1))).bind fun t161 => (if t161 = true then ((impl_sizeOf.f k l0 a1).bind fun t162 => (some t162)) else (some 0))) else (some 0))
theorem impl_SizeOf.mono : ∀ a0 a1 k, LeO (impl_SizeOf.f k a0 a1) (impl_SizeOf.f (k + 1) a0 a1) := by
 intro a0 a1 k
 unfold impl_SizeOf.f
 with_reducible repeat' first | exact impl_TableOk.mono _ _ | exact impl_sizeOf.mono _ _ _ | exact lrz _ | exact lnz _ | refine liz ?_ ?_ | refine lbz ?_ fun _ => ?_
set_option maxHeartbeats 8000000 in
set_option maxRecDepth 100000 in
theorem impl_SizeOf.calls (k : Nat) (A0 : Option Addr) (c0 : Nat) (l0 : List (S55)) (a1 : Int) (r : Int) (w : World) (hr0 : Kd.C k55 w A0 l0.length l0) (hc0 : l0.length <= c0) (h : impl_SizeOf.f k l0 a1 = some r) :
  Calls Tryd.prog 21 #[.slice A0 l0.length c0, .int .i64 a1] w fun e w' => e = .returned (.int .i64 r) /\ Below w.heap.size w w' := by
 have HR0 := Aside0.mk hr0
 have HC0 := Aside0.mk hc0
 clear hr0 hc0
 have HB := Aside0.mk (Below.refl w.heap.size w)
 have H : ((impl_TableOk.f k l0).bind fun t160 => (if t160 = true then ((impl_in.f a1 0 (wrap64 ((l0.length : Int) - 1))).bind fun t161 => (if t161 = true then ((impl_sizeOf.f k l0 a1).bind fun t162 => (some t162)) else (some 0))) else (some 0))) = some r := h
 clear h
 replace H := bi H
 obtain ⟨t160, A30, H⟩ := H
 try dsimp only at H
 have A3 := Aside0.mk A30
 clear A30
 by_cases c4 : t160 = true
 ·subst c4
  have H1 := hp H
  clear H
  have H := H1
  clear H1
  replace H := bi H
  obtain ⟨t161, A50, H⟩ := H
  try dsimp only at H
  have A5 := Aside0.mk A50
  clear A50
  by_cases c6 : t161 = true
  ·subst c6
   have H1 := hp H
   clear H
   have H := H1
   clear H1
   replace H := bi H
   obtain ⟨t162, A70, H⟩ := H
   try dsimp only at H
   have A7 := Aside0.mk A70
   clear A70
   obtain rfl := Option.some.inj H
   go_enter Tryd.func21, Tryd.ntmps21
   go_wp2_with (first | ((with_reducible refine gate_callee (f := 52) rfl ?_); refine goesL_ (some 6) rfl rfl Tryd.func52 (by kernel_rfl) rfl #[.slice A0 l0.length c0] rfl lz ?_; (with_reducible refine (impl_TableOk.calls k _ _ l0 true _ ?side1 ?side2 A3.out).mono ?_); (case side1 => repeat (first | exact HR0.out | (with_reducible refine Kd.C_alloc ?_ _) | (with_reducible refine Kd.C_drewN ?_ _) | (with_reducible refine Kd.C_drew ?_))); (case side2 => exact HC0.out); rintro e w8 ⟨rfl, hb⟩; refine ⟨_, rfl, ?_⟩; replace HB := Aside0.mk (below_step (bz0 HB.out) hb); (try clear hb); (try clear hi)) | (go_at_call 42; (with_reducible refine (impl_in.calls a1 0 (wrap64 ((l0.length : Int) - 1)) true _ A5.out).mono ?_); rintro e w' ⟨rfl, ⟨nd, rfl⟩⟩) | ((with_reducible refine gate_callee (f := 53) rfl ?_); refine goesL_ (some 18) rfl rfl Tryd.func53 (by kernel_rfl) rfl #[.slice A0 l0.length c0, .int .i64 a1] rfl lz ?_; (with_reducible refine (impl_sizeOf.calls k _ _ l0 a1 t162 _ ?side1 ?side2 A7.out).mono ?_); (case side1 => exact cz (Kd.C_below HR0.out (bz0 HB.out))); (case side2 => exact HC0.out); rintro e w9 ⟨rfl, hb⟩; refine ⟨_, rfl, ?_⟩; replace HB := Aside0.mk (below_step (bz0 HB.out) hb); (try clear hb); (try clear hi)))
   go_ret
   exact ⟨gz, (bz0 HB.out)⟩
  ·replace c6 := Bool.eq_false_iff.mpr c6
   subst c6
   have H1 := hq H
   clear H
   have H := H1
   clear H1
   obtain rfl := Option.some.inj H
   go_enter Tryd.func21, Tryd.ntmps21
   go_wp2_with (first | ((with_reducible refine gate_callee (f := 52) rfl ?_); refine goesL_ (some 6) rfl rfl Tryd.func52 (by kernel_rfl) rfl #[.slice A0 l0.length c0] rfl lz ?_; (with_reducible refine (impl_TableOk.calls k _ _ l0 true _ ?side1 ?side2 A3.out).mono ?_); (case side1 => repeat (first | exact HR0.out | (with_reducible refine Kd.C_alloc ?_ _) | (with_reducible refine Kd.C_drewN ?_ _) | (with_reducible refine Kd.C_drew ?_))); (case side2 => exact HC0.out); rintro e w10 ⟨rfl, hb⟩; refine ⟨_, rfl, ?_⟩; replace HB := Aside0.mk (below_step (bz0 HB.out) hb); (try clear hb); (try clear hi)) | (go_at_call 42; (with_reducible refine (impl_in.calls a1 0 (wrap64 ((l0.length : Int) - 1)) false _ A5.out).mono ?_); rintro e w' ⟨rfl, ⟨nd, rfl⟩⟩))
   go_ret
   exact ⟨gz, (bz0 HB.out)⟩
 ·replace c4 := Bool.eq_false_iff.mpr c4
  subst c4
  have H1 := hq H
  clear H
  have H := H1
  clear H1
  obtain rfl := Option.some.inj H
  go_enter Tryd.func21, Tryd.ntmps21
  go_wp2_with (first | ((with_reducible refine gate_callee (f := 52) rfl ?_); refine goesL_ (some 6) rfl rfl Tryd.func52 (by kernel_rfl) rfl #[.slice A0 l0.length c0] rfl lz ?_; (with_reducible refine (impl_TableOk.calls k _ _ l0 false _ ?side1 ?side2 A3.out).mono ?_); (case side1 => repeat (first | exact HR0.out | (with_reducible refine Kd.C_alloc ?_ _) | (with_reducible refine Kd.C_drewN ?_ _) | (with_reducible refine Kd.C_drew ?_))); (case side2 => exact HC0.out); rintro e w11 ⟨rfl, hb⟩; refine ⟨_, rfl, ?_⟩; replace HB := Aside0.mk (below_step (bz0 HB.out) hb); (try clear hb); (try clear hi)))
  go_ret
  exact ⟨gz, (bz0 HB.out)⟩
def strconv_Itoa_49.f (a0 : Int) : Option (ByteArray) := if -9223372036854775808 <= a0 then (if a0 <= 9223372036854775807 then (some (⟨(Lib.itoa a0).toArray⟩ : ByteArray)) else (none)) else (none)
theorem strconv_Itoa_49.calls (a0 : Int) (r : ByteArray) (w : World) (h : strconv_Itoa_49.f a0 = some r) (hT_ : PW w) :
  Calls Tryd.prog 49 #[.int .i64 a0] w fun e w' => e = .returned (.string r) /\ Below w.heap.size w w' := by
 unfold strconv_Itoa_49.f at h
 split at h
 ·split at h
  ·rename_i h0 h1
   obtain rfl := Option.some.inj h
   exact (Tryd.strconv_Itoa a0 h0 h1 w hT_.tab).mono fun e w' ⟨h1, n, os, h2⟩ => ⟨h1, by rw [h2]; exact below_grow _ _ _⟩
  ·cases h
 ·cases h
def impl_Dec.f (a0 : Int) : Option (ByteArray) := (strconv_Itoa_49.f a0).bind fun t163 => (some t163)
set_option maxHeartbeats 8000000 in
set_option maxRecDepth 100000 in
theorem impl_Dec.calls (a0 : Int) (r : ByteArray) (w : World) (h : impl_Dec.f a0 = some r) (hT_ : PW w) :
  Calls Tryd.prog 18 #[.int .i64 a0] w fun e w' => e = .returned (.string r) /\ Below w.heap.size w w' := by
 have HB := Aside0.mk (Below.refl w.heap.size w)
 have H : ((strconv_Itoa_49.f a0).bind fun t163 => (some t163)) = some r := h
 clear h
 replace H := bi H
 obtain ⟨t163, A20, H⟩ := H
 try dsimp only at H
 have A2 := Aside0.mk A20
 clear A20
 obtain rfl := Option.some.inj H
 go_enter Tryd.func18, Tryd.ntmps18
 go_wp2_with (first | ((with_reducible refine gate_callee (f := 49) rfl ?_); refine goesL_ (some 4) rfl rfl Tryd.func49 (by kernel_rfl) rfl #[.int .i64 a0] rfl lz ?_; (with_reducible refine (strconv_Itoa_49.calls a0 t163 _ A2.out ?hT_).mono ?_); (case hT_ => exact PW.below hT_ (bz0 HB.out)); rintro e w3 ⟨rfl, hb⟩; refine ⟨_, rfl, ?_⟩; replace HB := Aside0.mk (below_step (bz0 HB.out) hb); (try clear hb); (try clear hi)))
 go_ret
 exact ⟨gz, (bz0 HB.out)⟩
end Go.Proofs.YtlhofeikcaejpaaDoor.PFnExactUnified
