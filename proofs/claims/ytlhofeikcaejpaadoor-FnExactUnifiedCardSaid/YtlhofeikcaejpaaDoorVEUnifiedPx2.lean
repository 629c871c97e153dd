/- PFnExactUnifiedx2, of the words and walks that the law FnExactUnified needs; made by this session's program out of printed texts. -/

import Derived.Test.YtlhofeikcaejpaaDoorVEUnifiedPx0
import Derived.Test.YtlhofeikcaejpaaDoorVEUnifiedPx1
namespace Go.Proofs.YtlhofeikcaejpaaDoor.PFnExactUnified
open Go.RowKit Go.Proofs.YtlhofeikcaejpaaDoorW.PrintWords Go.Proofs.YtlhofeikcaejpaaDoorW.PrintLast Go.Proofs.YtlhofeikcaejpaaDoorW.PrintMore
attribute [local go_sem] max2_int min2_int max_two min_two max_three min_three max_four min_four
set_option linter.unusedVariables false
set_option linter.unusedSimpArgs false
mutual
def impl_entryOk.j0 : Nat -> List (S55) -> Bool -> Int -> Int -> Int -> Option (Bool)
 | 0, _, _, _, _, _ => none
 | k + 1, x0, x21, x126000, x126001, x126002 => if x21 = true then (some false) else (if x126000 = 1 then (some (x126001 == 0)) else (if x126000 = 0 then (if x126001 = (-1) then (some true) else (impl_entryOk.j1 k x0 x126000 x126001 x126002)) else (impl_entryOk.j1 k x0 x126000 x126001 x126002)))
def impl_entryOk.j1 : Nat -> List (S55) -> Int -> Int -> Int -> Option (Bool)
 | 0, _, _, _, _ => none
 | k + 1, x0, x126000, x126001, x126002 => (impl_partsOf.f k x126000 x126001 x126002).bind fun t128 => (impl_entryOk.l0 k x0 t128 (t128.length : Int) 0 x126000 x126001 x126002)
def impl_entryOk.l0 : Nat -> List (S55) -> List Int -> Int -> Int -> Int -> Int -> Int -> Option (Bool)
 | 0, _, _, _, _, _, _, _ => none
 | k + 1, x0, x39, x40, x41, x126000, x126001, x126002 => if x41 < x40 then (if 0 <= x41 then (if x41 < (x39.length : Int) then ((impl_in.f (rd x39 x41) 0 (wrap64 ((x0.length : Int) - 1))).bind fun t132 => (if t132 = true then (impl_entryOk.l0 k x0 x39 x40 (wrap64 (x41 + 1)) x126000 x126001 x126002) else (some false))) else (none)) else (none)) else (some (decide (x126001 ≥ 0)))
end
def impl_entryOk.f (k : Nat) (l0 : List (S55)) (a1_0 : Int) (a1_1 : Int) (a1_2 : Int) : Option (Bool) := (impl_in.f a1_0 0 5).bind fun t126 => (if t126 = true then ((impl_twoParts.f a1_0).bind fun t127 => (if t127 = true then (impl_entryOk.j0 k l0 false a1_0 a1_1 a1_2) else (impl_entryOk.j0 k l0 (a1_2 != 0) a1_0 a1_1 a1_2))) else (impl_entryOk.j0 k l0 true a1_0 a1_1 a1_2))
theorem impl_entryOk.mono_l : ∀ k, (∀ y0 y1 y2 y3 y4, LeO (impl_entryOk.j0 k y0 y1 y2 y3 y4) (impl_entryOk.j0 (k + 1) y0 y1 y2 y3 y4)) /\ (∀ y0 y1 y2 y3, LeO (impl_entryOk.j1 k y0 y1 y2 y3) (impl_entryOk.j1 (k + 1) y0 y1 y2 y3)) /\ (∀ y0 y1 y2 y3 y4 y5 y6, LeO (impl_entryOk.l0 k y0 y1 y2 y3 y4 y5 y6) (impl_entryOk.l0 (k + 1) y0 y1 y2 y3 y4 y5 y6))
 | 0 => ⟨fun _ _ _ _ _ r h => by simp [impl_entryOk.j0] at h, fun _ _ _ _ r h => by simp [impl_entryOk.j1] at h, fun _ _ _ _ _ _ _ r h => by simp [impl_entryOk.l0] at h⟩
 | k + 1 => by
  obtain ⟨ih0, ih1, ih2⟩ := impl_entryOk.mono_l k
  refine ⟨?_, ?_, ?_⟩
  ·intro y0 y1 y2 y3 y4
   unfold impl_entryOk.j0
   with_reducible repeat' first | exact ih0 _ _ _ _ _ | exact ih1 _ _ _ _ | exact ih2 _ _ _ _ _ _ _ | exact impl_partsOf.mono _ _ _ _ | exact lrz _ | exact lnz _ | refine liz ?_ ?_ | refine lbz ?_ fun _ => ?_
  ·intro y0 y1 y2 y3
   unfold impl_entryOk.j1
   with_reducible repeat' first | exact ih0 _ _ _ _ _ | exact ih1 _ _ _ _ | exact ih2 _ _ _ _ _ _ _ | exact impl_partsOf.mono _ _ _ _ | exact lrz _ | exact lnz _ | refine liz ?_ ?_ | refine lbz ?_ fun _ => ?_
  ·intro y0 y1 y2 y3 y4 y5 y6
   unfold impl_entryOk.l0
   with_reducible repeat' first | exact ih0 _ _ _ _ _ | exact ih1 _ _ _ _ | exact ih2 _ _ _ _ _ _ _ | exact impl_partsOf.mono _ _ _ _ | exact lrz _ | exact lnz _ | refine liz ?_ ?_ | refine lbz ?_ fun _ => ?_
theorem impl_entryOk.mono : ∀ a0 a1 a2 a3 k, LeO (impl_entryOk.f k a0 a1 a2 a3) (impl_entryOk.f (k + 1) a0 a1 a2 a3) := by
 intro a0 a1 a2 a3 k
 obtain ⟨ih0, ih1, ih2⟩ := impl_entryOk.mono_l k
 unfold impl_entryOk.f
 with_reducible repeat' first | exact ih0 _ _ _ _ _ | exact ih1 _ _ _ _ | exact ih2 _ _ _ _ _ _ _ | exact impl_partsOf.mono _ _ _ _ | exact lrz _ | exact lnz _ | refine liz ?_ ?_ | refine lbz ?_ fun _ => ?_
set_option maxHeartbeats 8000000 in
set_option maxRecDepth 100000 in
theorem impl_entryOk.calls (k : Nat) (A0 : Option Addr) (c0 : Nat) (l0 : List (S55)) (a1_0 : Int) (a1_1 : Int) (a1_2 : Int) (r : Bool) (w : World) (hr0 : Kd.C k55 w A0 l0.length l0) (hc0 : l0.length <= c0) (h : impl_entryOk.f k l0 a1_0 a1_1 a1_2 = some r) :
  Calls Tryd.prog 78 #[.slice A0 l0.length c0, .agg #[.int .i64 a1_0, .int .i64 a1_1, .int .i64 a1_2]] w fun e w' => e = .returned (.bool r) /\ Below w.heap.size w w' := by
 have hu55 := Tryd.underlying55
 have HR0 := Aside0.mk hr0
 have HC0 := Aside0.mk hc0
 clear hr0 hc0
 have HB := Aside0.mk (Below.refl w.heap.size w)
 have H : ((impl_in.f a1_0 0 5).bind fun t126 => (if t126 = true then ((impl_twoParts.f a1_0).bind fun t127 => (if t127 = true then (impl_entryOk.j0 k l0 false a1_0 a1_1 a1_2) else (impl_entryOk.j0 k l0 (a1_2 != 0) a1_0 a1_1 a1_2))) else (impl_entryOk.j0 k l0 true a1_0 a1_1 a1_2))) = some r := h
 clear h
 have HC3 := Aside0.mk H
 clear H
 go_enter Tryd.func78, Tryd.ntmps78
 go_upto_region 1 with (first | ((with_reducible refine gate_dst (N := 3) rfl ?_); refine box_event ?hg (N := 3) ?hd (cs := #[.int .i64 a1_0, .int .i64 a1_1, .int .i64 a1_2]) (t := 55) ?hr ?_; (case hd => rfl); (case hg => rfl); (case hr => exact vz); intro gb125 hg w4 hbox hb; have BK125 := Aside0.mk (hbox); have GW125 := Aside0.mk ((by rw [hg]; exact (below_size (bz0 HB.out)) : w.heap.size <= gb125)); have GE125 := GW125; replace HB := Aside0.mk (below_step (bz0 HB.out) hb); clear hb hbox hg))
 (try simp only [Act.put, sz1, sz2, sz3])
 go_cut [21] (fun v21 wc => ∃ (kq : Nat) (x21_2 : Bool), v21 = .bool x21_2 /\ Aside0 (impl_entryOk.j0 kq l0 x21_2 a1_0 a1_1 a1_2 = some r) /\ Aside0 (kq <= k) /\ Aside0 (wc.heap[gb125]? = some (.cells #[.int .i64 a1_0, .int .i64 a1_1, .int .i64 a1_2] 55 (0, 0))) /\ Aside0 (Below w.heap.size w wc))
 case first =>
  have H := HC3.out
  clear HC3
  replace H := bi H
  obtain ⟨t126, A50, H⟩ := H
  try dsimp only at H
  have A5 := Aside0.mk A50
  clear A50
  by_cases c6 : t126 = true
  ·subst c6
   have H1 := hp H
   clear H
   have H := H1
   clear H1
   replace H := bi H
   obtain ⟨t127, A70, H⟩ := H
   try dsimp only at H
   have A7 := Aside0.mk A70
   clear A70
   by_cases c8 : t127 = true
   ·subst c8
    have H1 := hp H
    clear H
    have H := H1
    clear H1
    have H' := Aside0.mk H
    clear H
    obtain ⟨hcz9_0, hcz9_1, hcz9_2⟩ := cz3 BK125.out
    obtain ⟨hfz9_0, hfz9_1, hfz9_2⟩ := fz3 BK125.out
    go_wp2_with (first | ((with_reducible refine gate_callee (f := 42) rfl ?_); refine goesL_ (some 9) rfl rfl Tryd.func42 (by kernel_rfl) rfl #[.int .i64 a1_0, .int .i64 0, .int .i64 5] rfl lz ?_; (with_reducible refine (impl_in.calls a1_0 0 5 true _ A5.out).mono ?_); rintro e w' ⟨rfl, ⟨nd, rfl⟩⟩; refine ⟨_, rfl, ?_⟩) | (go_at_call 95; (with_reducible refine (impl_twoParts.calls a1_0 true _ A7.out).mono ?_); rintro e w' ⟨rfl, ⟨nd, rfl⟩⟩))
    go_meet
    case rel => exact ⟨_, (false), ez, H', ⟨by first | omega | exact Nat.le_refl _⟩, ⟨by refine kq ?_; exact BK125.out⟩, ⟨(bz1 HB.out GE125.out)⟩⟩
   ·replace c8 := Bool.eq_false_iff.mpr c8
    subst c8
    have H1 := hq H
    clear H
    have H := H1
    clear H1
    have H' := Aside0.mk H
    clear H
    obtain ⟨hcz10_0, hcz10_1, hcz10_2⟩ := cz3 BK125.out
    obtain ⟨hfz10_0, hfz10_1, hfz10_2⟩ := fz3 BK125.out
    go_wp2_with (first | ((with_reducible refine gate_callee (f := 42) rfl ?_); refine goesL_ (some 9) rfl rfl Tryd.func42 (by kernel_rfl) rfl #[.int .i64 a1_0, .int .i64 0, .int .i64 5] rfl lz ?_; (with_reducible refine (impl_in.calls a1_0 0 5 true _ A5.out).mono ?_); rintro e w' ⟨rfl, ⟨nd, rfl⟩⟩; refine ⟨_, rfl, ?_⟩) | (go_at_call 95; (with_reducible refine (impl_twoParts.calls a1_0 false _ A7.out).mono ?_); rintro e w' ⟨rfl, ⟨nd, rfl⟩⟩))
    go_meet
    case rel => exact ⟨_, ((a1_2 != 0)), ez, H', ⟨by first | omega | exact Nat.le_refl _⟩, ⟨by refine kq ?_; exact BK125.out⟩, ⟨(bz1 HB.out GE125.out)⟩⟩
  ·replace c6 := Bool.eq_false_iff.mpr c6
   subst c6
   have H1 := hq H
   clear H
   have H := H1
   clear H1
   have H' := Aside0.mk H
   clear H
   obtain ⟨hcz11_0, hcz11_1, hcz11_2⟩ := cz3 BK125.out
   obtain ⟨hfz11_0, hfz11_1, hfz11_2⟩ := fz3 BK125.out
   go_wp2_with (first | ((with_reducible refine gate_callee (f := 42) rfl ?_); refine goesL_ (some 9) rfl rfl Tryd.func42 (by kernel_rfl) rfl #[.int .i64 a1_0, .int .i64 0, .int .i64 5] rfl lz ?_; (with_reducible refine (impl_in.calls a1_0 0 5 false _ A5.out).mono ?_); rintro e w' ⟨rfl, ⟨nd, rfl⟩⟩; refine ⟨_, rfl, ?_⟩))
   go_meet
   case rel => exact ⟨_, (true), ez, H', ⟨by first | omega | exact Nat.le_refl _⟩, ⟨by refine kq ?_; exact BK125.out⟩, ⟨(bz1 HB.out GE125.out)⟩⟩
 case rest =>
  clear HC3
  try clear p2
  try clear c4
  try clear c6
  try clear c7
  try clear c8
  try clear hcz10_0 hcz10_1 hcz10_2
  try clear hcz11_0 hcz11_1 hcz11_2
  try clear hcz9_0 hcz9_1 hcz9_2
  try clear hfz10_0 hfz10_1 hfz10_2
  try clear hfz11_0 hfz11_1 hfz11_2
  try clear hfz9_0 hfz9_1 hfz9_2
  obtain ⟨kq, x21_2, rfl, HA, HJ2, BK125, HB⟩ := hcut
  cases kq with
  | zero => exact absurd HA.out (by simp [impl_entryOk.j0])
  | succ kj2 =>
   have H := HA.out
   clear HA
   simp only [impl_entryOk.j0] at H
   by_cases c12 : x21_2 = true
   ·subst c12
    have H1 := hp H
    clear H
    have H := H1
    clear H1
    obtain rfl := Option.some.inj H
    go_wp2
    go_ret
    exact ⟨gz, (bz1 HB.out GE125.out)⟩
   ·replace c12 := Bool.eq_false_iff.mpr c12
    subst c12
    have H1 := hq H
    clear H
    have H := H1
    clear H1
    have HC13 := Aside0.mk H
    clear H
    go_upto_block 0 with (fail)
    go_cut [] (fun wc => ∃ (kq : Nat), Aside0 (impl_entryOk.j1 kq l0 a1_0 a1_1 a1_2 = some r) /\ Aside0 (kq <= kj2) /\ Aside0 (wc.heap[gb125]? = some (.cells #[.int .i64 a1_0, .int .i64 a1_1, .int .i64 a1_2] 55 (0, 0))) /\ Aside0 (Below w.heap.size w wc))
    case first =>
     have H := HC13.out
     clear HC13
     by_cases c14 : a1_0 = 1
     ·rw [if_pos c14] at H
      have c14b0 : (a1_0 == 1) = true := beq_iff_eq.mpr c14
      have c14b1 : (a1_0 != 1) = false := bne_eq_false_iff_eq.mpr c14
      clear c14
      (first | rw [c14b0] | (simp only [i64_w, i32_w]; rw [c14b0]) | skip)
      obtain rfl := Option.some.inj H
      obtain ⟨hcz15_0, hcz15_1, hcz15_2⟩ := cz3 BK125.out
      obtain ⟨hfz15_0, hfz15_1, hfz15_2⟩ := fz3 BK125.out
      go_wp2
      go_ret
      exact ⟨gz, (bz1 HB.out GE125.out)⟩
     ·rw [if_neg c14] at H
      have c14b0 : (a1_0 == 1) = false := beq_eq_false_iff_ne.mpr c14
      have c14b1 : (a1_0 != 1) = true := bne_iff_ne.mpr c14
      (first | rw [c14b0] | (simp only [i64_w, i32_w]; rw [c14b0]) | skip)
      by_cases c16 : a1_0 = 0
      ·rw [if_pos c16] at H
       have c16b0 : (a1_0 == 0) = true := beq_iff_eq.mpr c16
       have c16b1 : (a1_0 != 0) = false := bne_eq_false_iff_eq.mpr c16
       clear c16
       by_cases c17 : a1_1 = (-1)
       ·rw [if_pos c17] at H
        have c17b0 : (a1_1 == (-1)) = true := beq_iff_eq.mpr c17
        have c17b1 : (a1_1 != (-1)) = false := bne_eq_false_iff_eq.mpr c17
        clear c17
        obtain rfl := Option.some.inj H
        obtain ⟨hcz18_0, hcz18_1, hcz18_2⟩ := cz3 BK125.out
        obtain ⟨hfz18_0, hfz18_1, hfz18_2⟩ := fz3 BK125.out
        go_wp2
        go_ret
        exact ⟨gz, (bz1 HB.out GE125.out)⟩
       ·rw [if_neg c17] at H
        have c17b0 : (a1_1 == (-1)) = false := beq_eq_false_iff_ne.mpr c17
        have c17b1 : (a1_1 != (-1)) = true := bne_iff_ne.mpr c17
        have H' := Aside0.mk H
        clear H
        obtain ⟨hcz19_0, hcz19_1, hcz19_2⟩ := cz3 BK125.out
        obtain ⟨hfz19_0, hfz19_1, hfz19_2⟩ := fz3 BK125.out
        go_wp2
        go_meet
        case rel => exact ⟨_, H', ⟨by have := HJ2.out; first | omega | exact Nat.le_refl _⟩, ⟨by refine kq ?_; exact BK125.out⟩, ⟨(bz1 HB.out GE125.out)⟩⟩
      ·rw [if_neg c16] at H
       have c16b0 : (a1_0 == 0) = false := beq_eq_false_iff_ne.mpr c16
       have c16b1 : (a1_0 != 0) = true := bne_iff_ne.mpr c16
       have H' := Aside0.mk H
       clear H
       obtain ⟨hcz20_0, hcz20_1, hcz20_2⟩ := cz3 BK125.out
       obtain ⟨hfz20_0, hfz20_1, hfz20_2⟩ := fz3 BK125.out
       go_wp2
       go_meet
       case rel => exact ⟨_, H', ⟨by have := HJ2.out; first | omega | exact Nat.le_refl _⟩, ⟨by refine kq ?_; exact BK125.out⟩, ⟨(bz1 HB.out GE125.out)⟩⟩
    case rest =>
     clear HC13
     try clear c1
     try clear p2
     try clear c4
     try clear c6
     try clear c7
     try clear c8
     try clear c12
     try clear c14
     try clear c14b0
     try clear c14b1
     try clear c16
     try clear c16b0
     try clear c16b1
     try clear c17
     try clear c17b0
     try clear c17b1
     try clear hcz10_0 hcz10_1 hcz10_2
     try clear hcz11_0 hcz11_1 hcz11_2
     try clear hcz15_0 hcz15_1 hcz15_2
     try clear hcz18_0 hcz18_1 hcz18_2
     try clear hcz19_0 hcz19_1 hcz19_2
     try clear hcz20_0 hcz20_1 hcz20_2
     try clear hcz9_0 hcz9_1 hcz9_2
     try clear hfz10_0 hfz10_1 hfz10_2
     try clear hfz11_0 hfz11_1 hfz11_2
     try clear hfz15_0 hfz15_1 hfz15_2
     try clear hfz18_0 hfz18_1 hfz18_2
     try clear hfz19_0 hfz19_1 hfz19_2
     try clear hfz20_0 hfz20_1 hfz20_2
     try clear hfz9_0 hfz9_1 hfz9_2
     try clear p2
     obtain ⟨kq, HA, HJ12, BK125, HB⟩ := hcut
     cases kq with
     | zero => exact absurd HA.out (by simp [impl_entryOk.j1])
     | succ kj12 =>
      have H := HA.out
      clear HA
      simp only [impl_entryOk.j1] at H
      replace H := bi H
      obtain ⟨t128, A210, H⟩ := H
      try dsimp only at H
      have A21 := Aside0.mk A210
      clear A210
      have H' := Aside0.mk H
      clear H
      obtain ⟨hcz22_0, hcz22_1, hcz22_2⟩ := cz3 BK125.out
      obtain ⟨hfz22_0, hfz22_1, hfz22_2⟩ := fz3 BK125.out
      go_wp2_with (first | ((with_reducible refine gate_callee (f := 79) rfl ?_); refine goesL_ (some 39) rfl rfl Tryd.func79 (by kernel_rfl) rfl #[.agg #[.int .i64 a1_0, .int .i64 a1_1, .int .i64 a1_2]] rfl lz ?_; (with_reducible refine (impl_partsOf.calls kj12 a1_0 a1_1 a1_2 t128 _ A21.out).mono ?_); rintro e w23 ⟨v129, rfl, ho0, hb⟩; refine ⟨_, rfl, ?_⟩; have HO130 := Aside0.mk (Kd.R_lower ho0 (below_size (bz1 HB.out GE125.out))); replace BK125 := Aside0.mk (blk_below (kz BK125.out) hb); replace HB := Aside0.mk (below_step (bz1 HB.out GE125.out) hb); (try clear hb); (try clear ho0); obtain ⟨Ao24, co24, eo24⟩ := Kd.R_slice HO130.out; subst eo24))
      go_loopg [41] kj12 (fun kq v41 w' => ∃ (x41_3 : Int), v41 = .int .i64 x41_3 /\ Aside0 (impl_entryOk.l0 kq l0 t128 (t128.length : Int) x41_3 a1_0 a1_1 a1_2 = some r) /\ Aside0 (kq <= kj12) /\ Aside0 (Kd.R (Kd.int .i64) 3 w' w.heap.size (fun _ => True) (.slice Ao24 t128.length co24) t128) /\ Aside0 (w'.heap[gb125]? = some (.cells #[.int .i64 a1_0, .int .i64 a1_1, .int .i64 a1_2] 55 (0, 0))) /\ Aside0 (Below w.heap.size w w'))
      case atStart => exact ⟨(0), ez, H', ⟨Nat.le_refl _⟩, ⟨by refine rq ?_; exact HO130.out⟩, ⟨by refine kq ?_; exact BK125.out⟩, ⟨(bz1 HB.out GE125.out)⟩⟩
      case round =>
       clear H'
       try clear c1
       try clear p2
       try clear c4
       try clear c6
       try clear c7
       try clear c8
       try clear c12
       try clear c14
       try clear c14b0
       try clear c14b1
       try clear c16
       try clear c16b0
       try clear c16b1
       try clear c17
       try clear c17b0
       try clear c17b1
       try clear hcz10_0 hcz10_1 hcz10_2
       try clear hcz11_0 hcz11_1 hcz11_2
       try clear hcz15_0 hcz15_1 hcz15_2
       try clear hcz18_0 hcz18_1 hcz18_2
       try clear hcz19_0 hcz19_1 hcz19_2
       try clear hcz20_0 hcz20_1 hcz20_2
       try clear hcz22_0 hcz22_1 hcz22_2
       try clear hcz9_0 hcz9_1 hcz9_2
       try clear hfz10_0 hfz10_1 hfz10_2
       try clear hfz11_0 hfz11_1 hfz11_2
       try clear hfz15_0 hfz15_1 hfz15_2
       try clear hfz18_0 hfz18_1 hfz18_2
       try clear hfz19_0 hfz19_1 hfz19_2
       try clear hfz20_0 hfz20_1 hfz20_2
       try clear hfz22_0 hfz22_1 hfz22_2
       try clear hfz9_0 hfz9_1 hfz9_2
       try clear p2
       obtain ⟨x41_3, rfl, HA, HK3, HO_39, BK125, HB⟩ := hrel
       cases gk with
       | zero => exact absurd HA.out (by simp [impl_entryOk.l0])
       | succ k3 =>
        have H := HA.out
        clear HA
        simp only [impl_entryOk.l0] at H
        by_cases c25 : x41_3 < (t128.length : Int)
        ·rw [if_pos c25] at H
         have c25b0 := decide_eq_true c25
         clear c25
         replace H := iz H
         obtain ⟨c26, H⟩ := H
         have c26b0 := decide_eq_true c26
         clear c26
         replace H := iz H
         obtain ⟨c27, H⟩ := H
         have c27b0 := decide_eq_true c27
         clear c27
         replace H := bi H
         obtain ⟨t132, A280, H⟩ := H
         try dsimp only at H
         have A28 := Aside0.mk A280
         clear A280
         by_cases c29 : t132 = true
         ·subst c29
          have H1 := hp H
          clear H
          have H := H1
          clear H1
          have H' := Aside0.mk H
          clear H
          have p131 : 0 <= (x41_3 : Int) := oz
          have q131 : x41_3 < (t128.length : Int) := oz
          obtain ⟨ad131, e131, hx131_0⟩ := Kd.at_int (Kd.R_reads' HO_39.out).2.2 x41_3 p131 q131
          cases e131
          replace p131 := eq_true p131
          replace q131 := eq_true q131
          go_wp2_with (first | ((with_reducible refine gate_callee (f := 42) rfl ?_); refine goesL_ (some 49) rfl rfl Tryd.func42 (by kernel_rfl) rfl #[.int .i64 (rd t128 x41_3), .int .i64 0, .int .i64 (wrap64 ((l0.length : Int) - 1))] rfl lz ?_; (with_reducible refine (impl_in.calls (rd t128 x41_3) 0 (wrap64 ((l0.length : Int) - 1)) true _ A28.out).mono ?_); rintro e w' ⟨rfl, ⟨nd, rfl⟩⟩; refine ⟨_, rfl, ?_⟩))
          go_roundg k3
          case measure => have := HJ2.out; have := HJ12.out; have := HK3.out; omega
          case rel => exact ⟨(wrap64 (x41_3 + 1)), ez, H', ⟨by have := HJ2.out; have := HJ12.out; have := HK3.out; omega⟩, ⟨by refine rq ?_; exact HO_39.out⟩, ⟨by refine kq ?_; exact BK125.out⟩, ⟨(bz1 HB.out GE125.out)⟩⟩
         ·replace c29 := Bool.eq_false_iff.mpr c29
          subst c29
          have H1 := hq H
          clear H
          have H := H1
          clear H1
          obtain rfl := Option.some.inj H
          have p131 : 0 <= (x41_3 : Int) := oz
          have q131 : x41_3 < (t128.length : Int) := oz
          obtain ⟨ad131, e131, hx131_0⟩ := Kd.at_int (Kd.R_reads' HO_39.out).2.2 x41_3 p131 q131
          cases e131
          replace p131 := eq_true p131
          replace q131 := eq_true q131
          go_wp2_with (first | ((with_reducible refine gate_callee (f := 42) rfl ?_); refine goesL_ (some 49) rfl rfl Tryd.func42 (by kernel_rfl) rfl #[.int .i64 (rd t128 x41_3), .int .i64 0, .int .i64 (wrap64 ((l0.length : Int) - 1))] rfl lz ?_; (with_reducible refine (impl_in.calls (rd t128 x41_3) 0 (wrap64 ((l0.length : Int) - 1)) false _ A28.out).mono ?_); rintro e w' ⟨rfl, ⟨nd, rfl⟩⟩; refine ⟨_, rfl, ?_⟩))
          go_ret
          exact ⟨gz, (bz1 HB.out GE125.out)⟩
        ·rw [if_neg c25] at H
         have c25b0 := decide_eq_false c25
         clear c25
         obtain rfl := Option.some.inj H
         obtain ⟨hcz30_0, hcz30_1, hcz30_2⟩ := cz3 BK125.out
         obtain ⟨hfz30_0, hfz30_1, hfz30_2⟩ := fz3 BK125.out
         go_wp2
         go_ret
         exact ⟨gz, (bz1 HB.out GE125.out)⟩
end Go.Proofs.YtlhofeikcaejpaaDoor.PFnExactUnified
