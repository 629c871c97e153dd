/- PFnExactUnifiedx3, of the words and walks that the law FnExactUnified needs; made by this session's program out of printed texts. -/

import Derived.Test.YtlhofeikcaejpaaDoorVEUnifiedPx0
import Derived.Test.YtlhofeikcaejpaaDoorVEUnifiedPx1
import Derived.Test.YtlhofeikcaejpaaDoorVEUnifiedPx2
namespace Go.Proofs.YtlhofeikcaejpaaDoor.PFnExactUnified
open Go.RowKit Go.Proofs.YtlhofeikcaejpaaDoorW.PrintWords Go.Proofs.YtlhofeikcaejpaaDoorW.PrintLast Go.Proofs.YtlhofeikcaejpaaDoorW.PrintMore
attribute [local go_sem] max2_int min2_int max_two min_two max_three min_three max_four min_four
set_option linter.unusedVariables false
set_option linter.unusedSimpArgs false
mutual
def impl_TableOk.l0 : Nat -> List (S55) -> List (S55) -> Int -> Int -> Option (Bool)
 | 0, _, _, _, _ => none
 | k + 1, x0, x13, x14, x15 => if x15 < x14 then (if 0 <= x15 then (if x15 < (x13.length : Int) then ((impl_entryOk.f k x0 ((rd_T55 x13 x15).f0) ((rd_T55 x13 x15).f1) ((rd_T55 x13 x15).f2)).bind fun t135 => (if t135 = true then (impl_TableOk.l0 k x0 x13 x14 (wrap64 (x15 + 1))) else (some false))) else (none)) else (none)) else (if (x0.length : Int) > 40 then (some false) else (if 0 <= (x0.length : Int) then (if ((x0.length : Int) : Int).toNat <= 281474976710656 then (impl_TableOk.l1 k x0 (List.replicate ((x0.length : Int) : Int).toNat false) (x0.length : Int) 0) else (none)) else (none)))
def impl_TableOk.l1 : Nat -> List (S55) -> List Bool -> Int -> Int -> Option (Bool)
 | 0, _, _, _, _ => none
 | k + 1, x0, x5, x31, x32 => if x32 < x31 then (impl_TableOk.l2 k x0 x5 x31 x32 x0 (x0.length : Int) 0) else (impl_TableOk.l4 k x5 (x5.length : Int) 0)
def impl_TableOk.l2 : Nat -> List (S55) -> List Bool -> Int -> Int -> List (S55) -> Int -> Int -> Option (Bool)
 | 0, _, _, _, _, _, _, _ => none
 | k + 1, x0, x5, x31, x32, x34, x35, x36 => if x36 < x35 then (if 0 <= x36 then (if x36 < (x34.length : Int) then ((impl_partsOf.f k ((rd_T55 x34 x36).f0) ((rd_T55 x34 x36).f1) ((rd_T55 x34 x36).f2)).bind fun t141 => (impl_TableOk.l3 k x0 x5 x36 true x31 x32 x34 x35 x36 t141 (t141.length : Int) 0)) else (none)) else (none)) else (impl_TableOk.l1 k x0 x5 x31 (wrap64 (x32 + 1)))
def impl_TableOk.l3 : Nat -> List (S55) -> List Bool -> Int -> Bool -> Int -> Int -> List (S55) -> Int -> Int -> List Int -> Int -> Int -> Option (Bool)
 | 0, _, _, _, _, _, _, _, _, _, _, _, _ => none
 | k + 1, x0, x5, x6, x8, x31, x32, x34, x35, x36, x42, x43, x44 => if x44 < x43 then (if 0 <= x44 then (if x44 < (x42.length : Int) then (if x8 = true then (if 0 <= (rd x42 x44) then (if (rd x42 x44) < (x5.length : Int) then (impl_TableOk.l3 k x0 x5 x6 (rdOf false x5 (rd x42 x44)) x31 x32 x34 x35 x36 x42 x43 (wrap64 (x44 + 1))) else (none)) else (none)) else (impl_TableOk.l3 k x0 x5 x6 false x31 x32 x34 x35 x36 x42 x43 (wrap64 (x44 + 1)))) else (none)) else (none)) else (if 0 <= x6 then (if x6 < (x5.length : Int) then (if rdOf false x5 x6 = true then (impl_TableOk.l2 k x0 (x5.set (x6 : Int).toNat true) x31 x32 x34 x35 (wrap64 (x36 + 1))) else (impl_TableOk.l2 k x0 (x5.set (x6 : Int).toNat x8) x31 x32 x34 x35 (wrap64 (x36 + 1)))) else (none)) else (none))
def impl_TableOk.l4 : Nat -> List Bool -> Int -> Int -> Option (Bool)
 | 0, _, _, _ => none
 | k + 1, x68, x69, x70 => if x70 < x69 then (if 0 <= x70 then (if x70 < (x68.length : Int) then (if rdOf false x68 x70 = true then (impl_TableOk.l4 k x68 x69 (wrap64 (x70 + 1))) else (some false)) else (none)) else (none)) else (some true)
end
def impl_TableOk.f (k : Nat) (l0 : List (S55)) : Option (Bool) := impl_TableOk.l0 k l0 l0 (l0.length : Int) 0
theorem impl_TableOk.mono_l : ∀ k, (∀ y0 y1 y2 y3, LeO (impl_TableOk.l0 k y0 y1 y2 y3) (impl_TableOk.l0 (k + 1) y0 y1 y2 y3)) /\ (∀ y0 y1 y2 y3, LeO (impl_TableOk.l1 k y0 y1 y2 y3) (impl_TableOk.l1 (k + 1) y0 y1 y2 y3)) /\ (∀ y0 y1 y2 y3 y4 y5 y6, LeO (impl_TableOk.l2 k y0 y1 y2 y3 y4 y5 y6) (impl_TableOk.l2 (k + 1) y0 y1 y2 y3 y4 y5 y6)) /\ (∀ y0 y1 y2 y3 y4 y5 y6 y7 y8 y9 y10 y11, LeO (impl_TableOk.l3 k y0 y1 y2 y3 y4 y5 y6 y7 y8 y9 y10 y11) (impl_TableOk.l3 (k + 1) y0 y1 y2 y3 y4 y5 y6 y7 y8 y9 y10 y11)) /\ (∀ y0 y1 y2, LeO (impl_TableOk.l4 k y0 y1 y2) (impl_TableOk.l4 (k + 1) y0 y1 y2))
 | 0 => ⟨fun _ _ _ _ r h => by simp [impl_TableOk.l0] at h, fun _ _ _ _ r h => by simp [impl_TableOk.l1] at h, fun _ _ _ _ _ _ _ r h => by simp [impl_TableOk.l2] at h, fun _ _ _ _ _ _ _ _ _ _ _ _ r h => by simp [impl_TableOk.l3] at h, fun _ _ _ r h => by simp [impl_TableOk.l4] at h⟩
 | k + 1 => by
  obtain ⟨ih0, ih1, ih2, ih3, ih4⟩ := impl_TableOk.mono_l k
  refine ⟨?_, ?_, ?_, ?_, ?_⟩
  ·intro y0 y1 y2 y3
   unfold impl_TableOk.l0
   with_reducible repeat' first | exact ih0 _ _ _ _ | exact ih1 _ _ _ _ | exact ih2 _ _ _ _ _ _ _ | exact ih3 _ _ _ _ _ _ _ _ _ _ _ _ | exact ih4 _ _ _ | exact impl_entryOk.mono _ _ _ _ _ | exact impl_partsOf.mono _ _ _ _ | exact lrz _ | exact lnz _ | refine liz ?_ ?_ | refine lbz ?_ fun _ => ?_
  ·intro y0 y1 y2 y3
   unfold impl_TableOk.l1
   with_reducible repeat' first | exact ih0 _ _ _ _ | exact ih1 _ _ _ _ | exact ih2 _ _ _ _ _ _ _ | exact ih3 _ _ _ _ _ _ _ _ _ _ _ _ | exact ih4 _ _ _ | exact impl_entryOk.mono _ _ _ _ _ | exact impl_partsOf.mono _ _ _ _ | exact lrz _ | exact lnz _ | refine liz ?_ ?_ | refine lbz ?_ fun _ => ?_
  ·intro y0 y1 y2 y3 y4 y5 y6
   unfold impl_TableOk.l2
   with_reducible repeat' first | exact ih0 _ _ _ _ | exact ih1 _ _ _ _ | exact ih2 _ _ _ _ _ _ _ | exact ih3 _ _ _ _ _ _ _ _ _ _ _ _ | exact ih4 _ _ _ | exact impl_entryOk.mono _ _ _ _ _ | exact impl_partsOf.mono _ _ _ _ | exact lrz _ | exact lnz _ | refine liz ?_ ?_ | refine lbz ?_ fun _ => ?_
  ·intro y0 y1 y2 y3 y4 y5 y6 y7 y8 y9 y10 y11
   unfold impl_TableOk.l3
   with_reducible repeat' first | exact ih0 _ _ _ _ | exact ih1 _ _ _ _ | exact ih2 _ _ _ _ _ _ _ | exact ih3 _ _ _ _ _ _ _ _ _ _ _ _ | exact ih4 _ _ _ | exact impl_entryOk.mono _ _ _ _ _ | exact impl_partsOf.mono _ _ _ _ | exact lrz _ | exact lnz _ | refine liz ?_ ?_ | refine lbz ?_ fun _ => ?_
  ·intro y0 y1 y2
   unfold impl_TableOk.l4
   with_reducible repeat' first | exact ih0 _ _ _ _ | exact ih1 _ _ _ _ | exact ih2 _ _ _ _ _ _ _ | exact ih3 _ _ _ _ _ _ _ _ _ _ _ _ | exact ih4 _ _ _ | exact impl_entryOk.mono _ _ _ _ _ | exact impl_partsOf.mono _ _ _ _ | exact lrz _ | exact lnz _ | refine liz ?_ ?_ | refine lbz ?_ fun _ => ?_
theorem impl_TableOk.mono : ∀ a0 k, LeO (impl_TableOk.f k a0) (impl_TableOk.f (k + 1) a0) := by
 intro a0 k
 obtain ⟨ih0, ih1, ih2, ih3, ih4⟩ := impl_TableOk.mono_l k
 unfold impl_TableOk.f
 with_reducible repeat' first | exact ih0 _ _ _ _ | exact ih1 _ _ _ _ | exact ih2 _ _ _ _ _ _ _ | exact ih3 _ _ _ _ _ _ _ _ _ _ _ _ | exact ih4 _ _ _ | exact impl_entryOk.mono _ _ _ _ _ | exact impl_partsOf.mono _ _ _ _ | exact lrz _ | exact lnz _ | refine liz ?_ ?_ | refine lbz ?_ fun _ => ?_
set_option maxHeartbeats 8000000 in
set_option maxRecDepth 100000 in
theorem impl_TableOk.calls (k : Nat) (A0 : Option Addr) (c0 : Nat) (l0 : List (S55)) (r : Bool) (w : World) (hr0 : Kd.C k55 w A0 l0.length l0) (hc0 : l0.length <= c0) (h : impl_TableOk.f k l0 = some r) :
  Calls Tryd.prog 52 #[.slice A0 l0.length c0] w fun e w' => e = .returned (.bool r) /\ Below w.heap.size w w' := by
 have hu55 := Tryd.underlying55
 have HR0 := Aside0.mk hr0
 have HC0 := Aside0.mk hc0
 clear hr0 hc0
 have HB := Aside0.mk (Below.refl w.heap.size w)
 have H : (impl_TableOk.l0 k l0 l0 (l0.length : Int) 0) = some r := h
 clear h
 have H' := Aside0.mk H
 clear H
 go_enter Tryd.func52, Tryd.ntmps52
 go_wp2
 go_loopg [15] k (fun kq v15 w' => ∃ (x15_1 : Int), v15 = .int .i64 x15_1 /\ Aside0 (impl_TableOk.l0 kq l0 l0 (l0.length : Int) x15_1 = some r) /\ Aside0 (kq <= k) /\ Aside0 (Below w.heap.size w w'))
 case atStart => exact ⟨(0), ez, H', ⟨Nat.le_refl _⟩, ⟨(bz0 HB.out)⟩⟩
 case round =>
  clear H'
  obtain ⟨x15_1, rfl, HA, HK1, HB⟩ := hrel
  cases gk with
  | zero => exact absurd HA.out (by simp [impl_TableOk.l0])
  | succ k1 =>
   have H := HA.out
   clear HA
   simp only [impl_TableOk.l0] at H
   by_cases c2 : x15_1 < (l0.length : Int)
   ·rw [if_pos c2] at H
    have c2b0 := decide_eq_true c2
    clear c2
    replace H := iz H
    obtain ⟨c3, H⟩ := H
    have c3b0 := decide_eq_true c3
    clear c3
    replace H := iz H
    obtain ⟨c4, H⟩ := H
    have c4b0 := decide_eq_true c4
    clear c4
    replace H := bi H
    obtain ⟨t135, A50, H⟩ := H
    try dsimp only at H
    have A5 := Aside0.mk A50
    clear A50
    by_cases c6 : t135 = true
    ·subst c6
     have H1 := hp H
     clear H
     have H := H1
     clear H1
     have H' := Aside0.mk H
     clear H
     have p133 : 0 <= (x15_1 : Int) := oz
     have q133 : x15_1 < (l0.length : Int) := oz
     obtain ⟨ad133, e133, hx133_0, hx133_1, hx133_2⟩ := at_T55 (Kd.C_below HR0.out HB.out) x15_1 p133 q133
     cases e133
     replace p133 := eq_true p133
     replace q133 := eq_true q133
     go_wp2_with (first | ((with_reducible refine gate_dst (N := 4) rfl ?_); refine box_event ?hg (N := 4) ?hd (cs := #[.int .i64 0, .int .i64 0, .int .i64 0]) (t := 55) ?hr ?_; (case hd => rfl); (case hg => rfl); (case hr => exact vz); intro gb134 hg w7 hbox hb; have BK134 := Aside0.mk (hbox); have GW134 := Aside0.mk ((by rw [hg]; exact (below_size (bz0 HB.out)) : w.heap.size <= gb134)); have GE134 := GW134; replace HB := Aside0.mk (below_step (bz0 HB.out) hb); clear hb hbox hg; obtain ⟨hcz8_0, hcz8_1, hcz8_2⟩ := cz3 BK134.out; obtain ⟨hfz8_0, hfz8_1, hfz8_2⟩ := fz3 BK134.out) | ((with_reducible refine gate_callee (f := 78) rfl ?_); refine goesL_ (some 21) rfl rfl Tryd.func78 (by kernel_rfl) rfl #[.slice (some ad133) l0.length c0, .agg #[.int .i64 ((rd_T55 l0 x15_1).f0), .int .i64 ((rd_T55 l0 x15_1).f1), .int .i64 ((rd_T55 l0 x15_1).f2)]] rfl lz ?_; (with_reducible refine (impl_entryOk.calls k1 _ _ l0 ((rd_T55 l0 x15_1).f0) ((rd_T55 l0 x15_1).f1) ((rd_T55 l0 x15_1).f2) true _ ?side1 ?side2 A5.out).mono ?_); (case side1 => exact Kd.C_below HR0.out (bz1 HB.out GE134.out)); (case side2 => exact HC0.out); rintro e w9 ⟨rfl, hb⟩; refine ⟨_, rfl, ?_⟩; replace BK134 := Aside0.mk (blk_below (g := gb134) (o := .cells #[.int .i64 ((rd_T55 l0 x15_1).f0), .int .i64 ((rd_T55 l0 x15_1).f1), .int .i64 ((rd_T55 l0 x15_1).f2)] 55 (0, 0)) (by refine kq ?_; refine blk_put (cs := #[.int .i64 ((rd_T55 l0 x15_1).f0), .int .i64 ((rd_T55 l0 x15_1).f1), .int .i64 0]) ?_ 2 _ rfl; refine kq ?_; refine blk_put (cs := #[.int .i64 ((rd_T55 l0 x15_1).f0), .int .i64 0, .int .i64 0]) ?_ 1 _ rfl; refine kq ?_; refine blk_put (cs := #[.int .i64 0, .int .i64 0, .int .i64 0]) ?_ 0 _ rfl; refine kq ?_; exact BK134.out) hb); replace HB := Aside0.mk (below_step (bz1 HB.out GE134.out) hb); (try clear hb); (try clear hi)))
     go_roundg k1
     case measure => have := HK1.out; omega
     case rel => exact ⟨(wrap64 (x15_1 + 1)), ez, H', ⟨by have := HK1.out; omega⟩, ⟨(bz1 HB.out GE134.out)⟩⟩
    ·replace c6 := Bool.eq_false_iff.mpr c6
     subst c6
     have H1 := hq H
     clear H
     have H := H1
     clear H1
     obtain rfl := Option.some.inj H
     have p133 : 0 <= (x15_1 : Int) := oz
     have q133 : x15_1 < (l0.length : Int) := oz
     obtain ⟨ad133, e133, hx133_0, hx133_1, hx133_2⟩ := at_T55 (Kd.C_below HR0.out HB.out) x15_1 p133 q133
     cases e133
     replace p133 := eq_true p133
     replace q133 := eq_true q133
     go_wp2_with (first | ((with_reducible refine gate_dst (N := 4) rfl ?_); refine box_event ?hg (N := 4) ?hd (cs := #[.int .i64 0, .int .i64 0, .int .i64 0]) (t := 55) ?hr ?_; (case hd => rfl); (case hg => rfl); (case hr => exact vz); intro gb134 hg w10 hbox hb; have BK134 := Aside0.mk (hbox); have GW134 := Aside0.mk ((by rw [hg]; exact (below_size (bz0 HB.out)) : w.heap.size <= gb134)); have GE134 := GW134; replace HB := Aside0.mk (below_step (bz0 HB.out) hb); clear hb hbox hg; obtain ⟨hcz11_0, hcz11_1, hcz11_2⟩ := cz3 BK134.out; obtain ⟨hfz11_0, hfz11_1, hfz11_2⟩ := fz3 BK134.out) | ((with_reducible refine gate_callee (f := 78) rfl ?_); refine goesL_ (some 21) rfl rfl Tryd.func78 (by kernel_rfl) rfl #[.slice (some ad133) l0.length c0, .agg #[.int .i64 ((rd_T55 l0 x15_1).f0), .int .i64 ((rd_T55 l0 x15_1).f1), .int .i64 ((rd_T55 l0 x15_1).f2)]] rfl lz ?_; (with_reducible refine (impl_entryOk.calls k1 _ _ l0 ((rd_T55 l0 x15_1).f0) ((rd_T55 l0 x15_1).f1) ((rd_T55 l0 x15_1).f2) false _ ?side1 ?side2 A5.out).mono ?_); (case side1 => exact Kd.C_below HR0.out (bz1 HB.out GE134.out)); (case side2 => exact HC0.out); rintro e w12 ⟨rfl, hb⟩; refine ⟨_, rfl, ?_⟩; replace BK134 := Aside0.mk (blk_below (g := gb134) (o := .cells #[.int .i64 ((rd_T55 l0 x15_1).f0), .int .i64 ((rd_T55 l0 x15_1).f1), .int .i64 ((rd_T55 l0 x15_1).f2)] 55 (0, 0)) (by refine kq ?_; refine blk_put (cs := #[.int .i64 ((rd_T55 l0 x15_1).f0), .int .i64 ((rd_T55 l0 x15_1).f1), .int .i64 0]) ?_ 2 _ rfl; refine kq ?_; refine blk_put (cs := #[.int .i64 ((rd_T55 l0 x15_1).f0), .int .i64 0, .int .i64 0]) ?_ 1 _ rfl; refine kq ?_; refine blk_put (cs := #[.int .i64 0, .int .i64 0, .int .i64 0]) ?_ 0 _ rfl; refine kq ?_; exact BK134.out) hb); replace HB := Aside0.mk (below_step (bz1 HB.out GE134.out) hb); (try clear hb); (try clear hi)))
     go_ret
     exact ⟨gz, (bz1 HB.out GE134.out)⟩
   ·rw [if_neg c2] at H
    have c2b0 := decide_eq_false c2
    clear c2
    by_cases c13 : (l0.length : Int) > 40
    ·rw [if_pos c13] at H
     have c13b0 : decide (40 < (l0.length : Int)) = true := decide_eq_true c13
     have c13b1 : decide (40 < l0.length) = true := decide_eq_true (by omega)
     clear c13
     obtain rfl := Option.some.inj H
     go_wp2
     go_ret
     exact ⟨gz, (bz0 HB.out)⟩
    ·rw [if_neg c13] at H
     have c13b0 : decide (40 < (l0.length : Int)) = false := decide_eq_false c13
     have c13b1 : decide (40 < l0.length) = false := decide_eq_false (by omega)
     clear c13
     replace H := iz H
     obtain ⟨c14, H⟩ := H
     have c14b0 := eq_true c14
     have c14b1 : decide (0 <= (l0.length : Int)) = true := decide_eq_true c14
     clear c14
     replace H := iz H
     obtain ⟨c15, H⟩ := H
     have c15b0 := eq_true c15
     have c15b1 : decide (((l0.length : Int) : Int).toNat <= 281474976710656) = true := decide_eq_true c15
     clear c15
     obtain ⟨y136, hy136⟩ : ∃ y_ : List Bool, y_ = (List.replicate ((l0.length : Int) : Int).toNat false) := ⟨_, rfl⟩
     replace H : (impl_TableOk.l1 k1 l0 y136 (l0.length : Int) 0) = some r := yz hy136 H
     have Ny136 := Aside0.mk hy136
     clear hy136
     have H' := Aside0.mk H
     clear H
     go_wp2_with (first | ((with_reducible refine gate_dst (N := 29) rfl ?_); refine Kd.R_make Kd.bool _ 4 rfl (N := 29) rfl 95 _ _ rfl (l0.length : Int) rfl rfl Tryd.underlying95 (.bool false) 1 info4 rfl (by decide) (by omega) false (ok := fun _ => True) (okp := fun _ => True) rfl (fun _ hk => hk) trivial (of_decide_eq_true az) (Nat.le_trans (Nat.mul_le_mul_right _ (of_decide_eq_true az : (l0.length : Int).toNat <= 281474976710656)) (by omega)) (Below.refl _ _) (Nat.le_refl _) ?_; intro v137 w16 ho17 hb hg_ hnew_; clear hg_ hnew_; (first | rw [<- Ny136.out] at ho17 | (simp only [Int.reduceToNat] at ho17; rw [<- Ny136.out] at ho17)); have HO138 := Aside0.mk (Kd.R_lower ho17 (below_size (bz0 HB.out))); replace HB := Aside0.mk (below_step (bz0 HB.out) hb); clear hb ho17))
     (try simp only [Act.put, sz1, sz2, sz3])
     go_loopg [32] k1 (fun kq v32 w' => ∃ (x5_2 : List Bool) (x32_2 : Int), v32 = .int .i64 x32_2 /\ Aside0 (impl_TableOk.l1 kq l0 x5_2 (l0.length : Int) x32_2 = some r) /\ Aside0 (kq <= k1) /\ Aside0 (Kd.R Kd.bool 4 w' w.heap.size (fun _ => True) v137 x5_2) /\ Aside0 (Below w.heap.size w w'))
     case atStart => exact ⟨(y136), (0), ez, H', ⟨Nat.le_refl _⟩, ⟨by refine rq ?_; exact HO138.out⟩, ⟨(bz0 HB.out)⟩⟩
     case round =>
      clear H'
      try clear c1
      try clear p1
      try clear q1
      try clear hx1
      try clear c2
      try clear c2b0
      try clear p2
      try clear c3
      try clear c3b0
      try clear c4
      try clear c4b0
      try clear c5
      try clear c6
      try clear p6
      try clear c7
      try clear c13
      try clear c13b0
      try clear c13b1
      try clear p13
      try clear q13
      try clear hx13
      try clear c14
      try clear c14b0
      try clear c14b1
      try clear c15
      try clear c15b0
      try clear c15b1
      try clear hcz11_0 hcz11_1 hcz11_2
      try clear hcz8_0 hcz8_1 hcz8_2
      try clear hfz11_0 hfz11_1 hfz11_2
      try clear hfz8_0 hfz8_1 hfz8_2
      try clear hx133_0
      try clear hx133_1
      try clear hx133_2
      try clear p133
      try clear q133
      obtain ⟨x5_2, x32_2, rfl, HA, HK2, HO_5, HB⟩ := hrel
      cases gk with
      | zero => exact absurd HA.out (by simp [impl_TableOk.l1])
      | succ k2 =>
       have H := HA.out
       clear HA
       simp only [impl_TableOk.l1] at H
       by_cases c18 : x32_2 < (l0.length : Int)
       ·rw [if_pos c18] at H
        have c18b0 := decide_eq_true c18
        clear c18
        have H' := Aside0.mk H
        clear H
        go_wp2
        go_loopg [36] k2 (fun kq v36 w' => ∃ (x5_3 : List Bool) (x36_3 : Int), v36 = .int .i64 x36_3 /\ Aside0 (impl_TableOk.l2 kq l0 x5_3 (l0.length : Int) x32_2 l0 (l0.length : Int) x36_3 = some r) /\ Aside0 (kq <= k2) /\ Aside0 (Kd.R Kd.bool 4 w' w.heap.size (fun _ => True) v137 x5_3) /\ Aside0 (Below w.heap.size w w'))
        case atStart => exact ⟨(x5_2), (0), ez, H', ⟨Nat.le_refl _⟩, ⟨by refine rq ?_; exact HO_5.out⟩, ⟨(bz0 HB.out)⟩⟩
        case round =>
         clear H'
         try clear c1
         try clear p1
         try clear q1
         try clear hx1
         try clear c2
         try clear c2b0
         try clear p2
         try clear c3
         try clear c3b0
         try clear c4
         try clear c4b0
         try clear c5
         try clear c6
         try clear p6
         try clear c7
         try clear c13
         try clear c13b0
         try clear c13b1
         try clear p13
         try clear q13
         try clear hx13
         try clear c14
         try clear c14b0
         try clear c14b1
         try clear c15
         try clear c15b0
         try clear c15b1
         try clear c18
         try clear c18b0
         try clear hcz11_0 hcz11_1 hcz11_2
         try clear hcz8_0 hcz8_1 hcz8_2
         try clear hfz11_0 hfz11_1 hfz11_2
         try clear hfz8_0 hfz8_1 hfz8_2
         try clear hx133_0
         try clear hx133_1
         try clear hx133_2
         try clear p1
         try clear p13
         try clear p133
         try clear p2
         try clear p6
         try clear q1
         try clear q13
         try clear q133
         obtain ⟨x5_3, x36_3, rfl, HA, HK3, HO_5, HB⟩ := hrel
         cases gk with
         | zero => exact absurd HA.out (by simp [impl_TableOk.l2])
         | succ k3 =>
          have H := HA.out
          clear HA
          simp only [impl_TableOk.l2] at H
          by_cases c19 : x36_3 < (l0.length : Int)
          ·rw [if_pos c19] at H
           have c19b0 := decide_eq_true c19
           clear c19
           replace H := iz H
           obtain ⟨c20, H⟩ := H
           have c20b0 := decide_eq_true c20
           clear c20
           replace H := iz H
           obtain ⟨c21, H⟩ := H
           have c21b0 := decide_eq_true c21
           clear c21
           replace H := bi H
           obtain ⟨t141, A220, H⟩ := H
           try dsimp only at H
           have A22 := Aside0.mk A220
           clear A220
           have H' := Aside0.mk H
           clear H
           have p139 : 0 <= (x36_3 : Int) := oz
           have q139 : x36_3 < (l0.length : Int) := oz
           obtain ⟨ad139, e139, hx139_0, hx139_1, hx139_2⟩ := at_T55 (Kd.C_below HR0.out HB.out) x36_3 p139 q139
           cases e139
           replace p139 := eq_true p139
           replace q139 := eq_true q139
           go_wp2_with (first | ((with_reducible refine gate_dst (N := 7) rfl ?_); refine box_event ?hg (N := 7) ?hd (cs := #[.int .i64 0, .int .i64 0, .int .i64 0]) (t := 55) ?hr ?_; (case hd => rfl); (case hg => rfl); (case hr => exact vz); intro gb140 hg w23 hbox hb; replace HO_5 := qz HO_5 hb; have BK140 := Aside0.mk (hbox); have GW140 := Aside0.mk ((by rw [hg]; exact (below_size (bz0 HB.out)) : w.heap.size <= gb140)); have GE140 := GW140; replace HB := Aside0.mk (below_step (bz0 HB.out) hb); clear hb hbox hg; obtain ⟨hcz24_0, hcz24_1, hcz24_2⟩ := cz3 BK140.out; obtain ⟨hfz24_0, hfz24_1, hfz24_2⟩ := fz3 BK140.out) | ((with_reducible refine gate_callee (f := 79) rfl ?_); refine goesL_ (some 42) rfl rfl Tryd.func79 (by kernel_rfl) rfl #[.agg #[.int .i64 ((rd_T55 l0 x36_3).f0), .int .i64 ((rd_T55 l0 x36_3).f1), .int .i64 ((rd_T55 l0 x36_3).f2)]] rfl lz ?_; (with_reducible refine (impl_partsOf.calls k3 ((rd_T55 l0 x36_3).f0) ((rd_T55 l0 x36_3).f1) ((rd_T55 l0 x36_3).f2) t141 _ A22.out).mono ?_); rintro e w25 ⟨v142, rfl, ho0, hb⟩; refine ⟨_, rfl, ?_⟩; replace HO_5 := Aside0.mk (Kd.R_below (by refine rq ?_; exact (Kd.R_mono (Kd.R_far (p := ⟨gb140, 2, none⟩) (Kd.R_far (p := ⟨gb140, 1, none⟩) (Kd.R_far (p := ⟨gb140, 0, none⟩) (Kd.R_types HO_5.out BK140.out (by decide)) (fun _ hk => hk.2) (.int .i64 ((rd_T55 l0 x36_3).f0))) (fun _ hk => hk.2) (.int .i64 ((rd_T55 l0 x36_3).f1))) (fun _ hk => hk.2) (.int .i64 ((rd_T55 l0 x36_3).f2))) (fun _ h_ => h_.1))) hb); have HO143 := Aside0.mk (Kd.R_lower ho0 (below_size (bz1 HB.out GE140.out))); replace BK140 := Aside0.mk (blk_below (g := gb140) (o := .cells #[.int .i64 ((rd_T55 l0 x36_3).f0), .int .i64 ((rd_T55 l0 x36_3).f1), .int .i64 ((rd_T55 l0 x36_3).f2)] 55 (0, 0)) (by refine kq ?_; refine blk_put (cs := #[.int .i64 ((rd_T55 l0 x36_3).f0), .int .i64 ((rd_T55 l0 x36_3).f1), .int .i64 0]) ?_ 2 _ rfl; refine kq ?_; refine blk_put (cs := #[.int .i64 ((rd_T55 l0 x36_3).f0), .int .i64 0, .int .i64 0]) ?_ 1 _ rfl; refine kq ?_; refine blk_put (cs := #[.int .i64 0, .int .i64 0, .int .i64 0]) ?_ 0 _ rfl; refine kq ?_; exact BK140.out) hb); replace HB := Aside0.mk (below_step (bz1 HB.out GE140.out) hb); (try clear hb); (try clear hk); (try clear ho0); obtain ⟨Ao26, co26, eo26⟩ := Kd.R_slice HO143.out; subst eo26))
           (try simp only [Act.put, sz1, sz2, sz3])
           go_loopg [8, 44] k3 (fun kq v8 v44 w' => ∃ (x8_4 : Bool) (x44_4 : Int), v8 = .bool x8_4 /\ v44 = .int .i64 x44_4 /\ Aside0 (impl_TableOk.l3 kq l0 x5_3 x36_3 x8_4 (l0.length : Int) x32_2 l0 (l0.length : Int) x36_3 t141 (t141.length : Int) x44_4 = some r) /\ Aside0 (kq <= k3) /\ Aside0 (Kd.R Kd.bool 4 w' w.heap.size (fun _ => True) v137 x5_3) /\ Aside0 (Kd.R (Kd.int .i64) 3 w' w.heap.size (fun _ => True) (.slice Ao26 t141.length co26) t141) /\ Aside0 (w'.heap[gb140]? = some (.cells #[.int .i64 ((rd_T55 l0 x36_3).f0), .int .i64 ((rd_T55 l0 x36_3).f1), .int .i64 ((rd_T55 l0 x36_3).f2)] 55 (0, 0))) /\ Aside0 (Below w.heap.size w w'))
           case atStart => exact ⟨(true), (0), ez, ez, H', ⟨Nat.le_refl _⟩, ⟨by refine rq ?_; exact HO_5.out⟩, ⟨by refine rq ?_; exact HO143.out⟩, ⟨by refine kq ?_; exact BK140.out⟩, ⟨(bz1 HB.out GE140.out)⟩⟩
           case round =>
            clear H'
            try clear c1
            try clear p1
            try clear q1
            try clear hx1
            try clear c2
            try clear c2b0
            try clear p2
            try clear c3
            try clear c3b0
            try clear c4
            try clear c4b0
            try clear c5
            try clear c6
            try clear p6
            try clear c7
            try clear c13
            try clear c13b0
            try clear c13b1
            try clear p13
            try clear q13
            try clear hx13
            try clear c14
            try clear c14b0
            try clear c14b1
            try clear c15
            try clear c15b0
            try clear c15b1
            try clear c18
            try clear c18b0
            try clear c19
            try clear c19b0
            try clear c20
            try clear c20b0
            try clear c21
            try clear c21b0
            try clear hcz11_0 hcz11_1 hcz11_2
            try clear hcz24_0 hcz24_1 hcz24_2
            try clear hcz8_0 hcz8_1 hcz8_2
            try clear hfz11_0 hfz11_1 hfz11_2
            try clear hfz24_0 hfz24_1 hfz24_2
            try clear hfz8_0 hfz8_1 hfz8_2
            try clear hx133_0
            try clear hx133_1
            try clear hx133_2
            try clear hx139_0
            try clear hx139_1
            try clear hx139_2
            try clear p1
            try clear p13
            try clear p133
            try clear p139
            try clear p2
            try clear p6
            try clear q1
            try clear q13
            try clear q133
            try clear q139
            obtain ⟨x8_4, x44_4, rfl, rfl, HA, HK4, HO_5, HO_42, BK140, HB⟩ := hrel
            cases gk with
            | zero => exact absurd HA.out (by simp [impl_TableOk.l3])
            | succ k4 =>
             have H := HA.out
             clear HA
             simp only [impl_TableOk.l3] at H
             by_cases c27 : x44_4 < (t141.length : Int)
             ·rw [if_pos c27] at H
              have c27b0 := decide_eq_true c27
              clear c27
              replace H := iz H
              obtain ⟨c28, H⟩ := H
              have c28b0 := decide_eq_true c28
              clear c28
              replace H := iz H
              obtain ⟨c29, H⟩ := H
              have c29b0 := decide_eq_true c29
              clear c29
              by_cases c30 : x8_4 = true
              ·subst c30
               have H1 := hp H
               clear H
               have H := H1
               clear H1
               replace H := iz H
               obtain ⟨c31, H⟩ := H
               have c31b0 := decide_eq_true c31
               clear c31
               replace H := iz H
               obtain ⟨c32, H⟩ := H
               have c32b0 := decide_eq_true c32
               clear c32
               have H' := Aside0.mk H
               clear H
               have p144 : 0 <= (x44_4 : Int) := oz
               have q144 : x44_4 < (t141.length : Int) := oz
               obtain ⟨ad144, e144, hx144_0⟩ := Kd.at_int (Kd.R_reads' HO_42.out).2.2 x44_4 p144 q144
               cases e144
               replace p144 := eq_true p144
               replace q144 := eq_true q144
               obtain ⟨Ao33, co33, eo33⟩ := Kd.R_slice HO_5.out
               subst eo33
               have p145 : 0 <= ((rd t141 x44_4) : Int) := oz
               have q145 : (rd t141 x44_4) < (x5_3.length : Int) := oz
               obtain ⟨ad145, e145, hx145_0⟩ := Kd.at_bool (Kd.R_reads' HO_5.out).2.2 (rd t141 x44_4) p145 q145
               cases e145
               replace p145 := eq_true p145
               replace q145 := eq_true q145
               go_wp2
               go_roundg k4
               case measure => have := HK1.out; have := HK2.out; have := HK3.out; have := HK4.out; omega
               case rel => exact ⟨(rdOf false x5_3 (rd t141 x44_4)), (wrap64 (x44_4 + 1)), ez, ez, H', ⟨by have := HK1.out; have := HK2.out; have := HK3.out; have := HK4.out; omega⟩, ⟨by refine rq ?_; exact HO_5.out⟩, ⟨by refine rq ?_; exact HO_42.out⟩, ⟨by refine kq ?_; exact BK140.out⟩, ⟨(bz1 HB.out GE140.out)⟩⟩
              ·replace c30 := Bool.eq_false_iff.mpr c30
               subst c30
               have H1 := hq H
               clear H
               have H := H1
               clear H1
               have H' := Aside0.mk H
               clear H
               have p144 : 0 <= (x44_4 : Int) := oz
               have q144 : x44_4 < (t141.length : Int) := oz
               obtain ⟨ad144, e144, hx144_0⟩ := Kd.at_int (Kd.R_reads' HO_42.out).2.2 x44_4 p144 q144
               cases e144
               replace p144 := eq_true p144
               replace q144 := eq_true q144
               go_wp2
               go_roundg k4
               case measure => have := HK1.out; have := HK2.out; have := HK3.out; have := HK4.out; omega
               case rel => exact ⟨(false), (wrap64 (x44_4 + 1)), ez, ez, H', ⟨by have := HK1.out; have := HK2.out; have := HK3.out; have := HK4.out; omega⟩, ⟨by refine rq ?_; exact HO_5.out⟩, ⟨by refine rq ?_; exact HO_42.out⟩, ⟨by refine kq ?_; exact BK140.out⟩, ⟨(bz1 HB.out GE140.out)⟩⟩
             ·rw [if_neg c27] at H
              have c27b0 := decide_eq_false c27
              clear c27
              replace H := iz H
              obtain ⟨c34, H⟩ := H
              have c34b0 := decide_eq_true c34
              clear c34
              replace H := iz H
              obtain ⟨c35, H⟩ := H
              have c35b0 := decide_eq_true c35
              clear c35
              obtain ⟨bq36, hbq36⟩ : ∃ b_ : Bool, b_ = (rdOf false x5_3 x36_3) := ⟨_, rfl⟩
              replace H : (if bq36 = true then (impl_TableOk.l2 k4 l0 (x5_3.set (x36_3 : Int).toNat true) (l0.length : Int) x32_2 l0 (l0.length : Int) (wrap64 (x36_3 + 1))) else (impl_TableOk.l2 k4 l0 (x5_3.set (x36_3 : Int).toNat x8_4) (l0.length : Int) x32_2 l0 (l0.length : Int) (wrap64 (x36_3 + 1)))) = some r := by rw [<- hbq36] at H; exact H
              have Nbq36 := Aside0.mk hbq36
              clear hbq36
              by_cases c37 : bq36 = true
              ·subst c37
               have H1 := hp H
               clear H
               have H := H1
               clear H1
               obtain ⟨y147, hy147⟩ : ∃ y_ : List Bool, y_ = (x5_3.set (x36_3 : Int).toNat true) := ⟨_, rfl⟩
               replace H : (impl_TableOk.l2 k4 l0 y147 (l0.length : Int) x32_2 l0 (l0.length : Int) (wrap64 (x36_3 + 1))) = some r := yz hy147 H
               have Ny147 := Aside0.mk hy147
               clear hy147
               have H' := Aside0.mk H
               clear H
               obtain ⟨Ao39, co39, eo39⟩ := Kd.R_slice HO_5.out
               subst eo39
               have p146 : 0 <= (x36_3 : Int) := oz
               have q146 : x36_3 < (x5_3.length : Int) := oz
               obtain ⟨ad146, e146, hx146_0⟩ := Kd.at_bool (Kd.R_reads' HO_5.out).2.2 x36_3 p146 q146
               (try rw [<- Nbq36.out] at hx146_0)
               cases e146
               replace p146 := eq_true p146
               replace q146 := eq_true q146
               have p38 : 0 <= (x36_3 : Int) := oz
               have q38 : (x36_3 : Int) < ((x5_3.length : Int) : Int) := oz
               obtain ⟨go38, co38, eo38, gb38, gl38, cl38, HG38⟩ := Kd.R_form HO_5.out (by omega)
               (first | cases eo38 | (injection eo38 with ea_ en_ ec_; (first | subst ea_ | (injection ea_ with ea_; subst ea_)); subst ec_; clear en_))
               have GB38 := Aside0.mk gb38
               have GG38 := Aside0.mk HG38
               clear gb38 gl38 HG38
               (first | simp only [add_plain] at hx146_0 | skip)
               obtain ⟨hx38_0, hf38_0⟩ := Kd.R_celln false HO_5.out (x36_3 : Int) p38 q38
               replace p38 := eq_true p38
               replace q38 := eq_true q38
               have HP40 := Kd.R_putg HO_5.out (x36_3 : Int) true
               go_wp2_with (first | ((with_reducible refine gate_store (t := 4) (p := 65) rfl ?_); refine store_event (t := 4) (p := 65) (v := ?vo_w41) (w1 := (wr.setCell ⟨go38, (x36_3 : Int).toNat, none⟩ (.bool true))) ?hg ?ho ?hn ?hr ?_; (case ho => rfl); (case hg => rfl); (case hn => rfl); (case hr => exact vz); intro w41 hw; have hg : wr.grownBy w41 (some go38) := (by rw [hw]; exact HP40.2); have hp_ : Kd.R Kd.bool 4 w41 w.heap.size (fun _ => True) (.slice (some ⟨go38, 0, none⟩) x5_3.length co39) y147 := (by rw [hw, Ny147.out]; exact HP40.1); clear HP40; replace HO_42 := Aside0.mk (Kd.R_over' (v := (.slice (some ⟨go38, 0, none⟩) x5_3.length co39)) (rz HO_42.out) (Kd.R_typed HO_5.out) (by decide) hg); replace BK140 := Aside0.mk (blk_grown (g := gb140) (o := .cells #[.int .i64 ((rd_T55 l0 x36_3).f0), .int .i64 ((rd_T55 l0 x36_3).f1), .int .i64 ((rd_T55 l0 x36_3).f2)] 55 (0, 0)) (kz BK140.out) hg (Kd.R_ne HO_5.out BK140.out (by decide))); replace HO_5 := Aside0.mk (hp_); replace HB := Aside0.mk ((by rw [hw]; exact below_set (HB.out) GB38.out : Below w.heap.size w w41)); clear hg hw hp_))
               go_roundg k4
               case measure => have := HK1.out; have := HK2.out; have := HK3.out; have := HK4.out; omega
               case rel => exact ⟨(y147), (wrap64 (x36_3 + 1)), ez, H', ⟨by have := HK1.out; have := HK2.out; have := HK3.out; have := HK4.out; omega⟩, ⟨by refine rq ?_; exact HO_5.out⟩, ⟨(bz1 HB.out GE140.out)⟩⟩
              ·replace c37 := Bool.eq_false_iff.mpr c37
               subst c37
               have H1 := hq H
               clear H
               have H := H1
               clear H1
               obtain ⟨y148, hy148⟩ : ∃ y_ : List Bool, y_ = (x5_3.set (x36_3 : Int).toNat x8_4) := ⟨_, rfl⟩
               replace H : (impl_TableOk.l2 k4 l0 y148 (l0.length : Int) x32_2 l0 (l0.length : Int) (wrap64 (x36_3 + 1))) = some r := yz hy148 H
               have Ny148 := Aside0.mk hy148
               clear hy148
               have H' := Aside0.mk H
               clear H
               obtain ⟨Ao43, co43, eo43⟩ := Kd.R_slice HO_5.out
               subst eo43
               have p146 : 0 <= (x36_3 : Int) := oz
               have q146 : x36_3 < (x5_3.length : Int) := oz
               obtain ⟨ad146, e146, hx146_0⟩ := Kd.at_bool (Kd.R_reads' HO_5.out).2.2 x36_3 p146 q146
               (try rw [<- Nbq36.out] at hx146_0)
               cases e146
               replace p146 := eq_true p146
               replace q146 := eq_true q146
               have p42 : 0 <= (x36_3 : Int) := oz
               have q42 : (x36_3 : Int) < ((x5_3.length : Int) : Int) := oz
               obtain ⟨go42, co42, eo42, gb42, gl42, cl42, HG42⟩ := Kd.R_form HO_5.out (by omega)
               (first | cases eo42 | (injection eo42 with ea_ en_ ec_; (first | subst ea_ | (injection ea_ with ea_; subst ea_)); subst ec_; clear en_))
               have GB42 := Aside0.mk gb42
               have GG42 := Aside0.mk HG42
               clear gb42 gl42 HG42
               (first | simp only [add_plain] at hx146_0 | skip)
               obtain ⟨hx42_0, hf42_0⟩ := Kd.R_celln false HO_5.out (x36_3 : Int) p42 q42
               replace p42 := eq_true p42
               replace q42 := eq_true q42
               have HP44 := Kd.R_putg HO_5.out (x36_3 : Int) x8_4
               go_wp2_with (first | ((with_reducible refine gate_store (t := 4) (p := 65) rfl ?_); refine store_event (t := 4) (p := 65) (v := ?vo_w45) (w1 := (wr.setCell ⟨go42, (x36_3 : Int).toNat, none⟩ (.bool x8_4))) ?hg ?ho ?hn ?hr ?_; (case ho => rfl); (case hg => rfl); (case hn => rfl); (case hr => exact vz); intro w45 hw; have hg : wr.grownBy w45 (some go42) := (by rw [hw]; exact HP44.2); have hp_ : Kd.R Kd.bool 4 w45 w.heap.size (fun _ => True) (.slice (some ⟨go42, 0, none⟩) x5_3.length co43) y148 := (by rw [hw, Ny148.out]; exact HP44.1); clear HP44; replace HO_42 := Aside0.mk (Kd.R_over' (v := (.slice (some ⟨go42, 0, none⟩) x5_3.length co43)) (rz HO_42.out) (Kd.R_typed HO_5.out) (by decide) hg); replace BK140 := Aside0.mk (blk_grown (g := gb140) (o := .cells #[.int .i64 ((rd_T55 l0 x36_3).f0), .int .i64 ((rd_T55 l0 x36_3).f1), .int .i64 ((rd_T55 l0 x36_3).f2)] 55 (0, 0)) (kz BK140.out) hg (Kd.R_ne HO_5.out BK140.out (by decide))); replace HO_5 := Aside0.mk (hp_); replace HB := Aside0.mk ((by rw [hw]; exact below_set (HB.out) GB42.out : Below w.heap.size w w45)); clear hg hw hp_))
               go_roundg k4
               case measure => have := HK1.out; have := HK2.out; have := HK3.out; have := HK4.out; omega
               case rel => exact ⟨(y148), (wrap64 (x36_3 + 1)), ez, H', ⟨by have := HK1.out; have := HK2.out; have := HK3.out; have := HK4.out; omega⟩, ⟨by refine rq ?_; exact HO_5.out⟩, ⟨(bz1 HB.out GE140.out)⟩⟩
          ·rw [if_neg c19] at H
           have c19b0 := decide_eq_false c19
           clear c19
           have H' := Aside0.mk H
           clear H
           go_wp2
           go_roundg k3
           case measure => have := HK1.out; have := HK2.out; have := HK3.out; omega
           case rel => exact ⟨(x5_3), (wrap64 (x32_2 + 1)), ez, H', ⟨by have := HK1.out; have := HK2.out; have := HK3.out; omega⟩, ⟨by refine rq ?_; exact HO_5.out⟩, ⟨(bz0 HB.out)⟩⟩
       ·rw [if_neg c18] at H
        have c18b0 := decide_eq_false c18
        clear c18
        have H' := Aside0.mk H
        clear H
        obtain ⟨Ao46, co46, eo46⟩ := Kd.R_slice HO_5.out
        subst eo46
        go_wp2
        go_loopg [70] k2 (fun kq v70 w' => ∃ (x70_3 : Int), v70 = .int .i64 x70_3 /\ Aside0 (impl_TableOk.l4 kq x5_2 (x5_2.length : Int) x70_3 = some r) /\ Aside0 (kq <= k2) /\ Aside0 (Kd.R Kd.bool 4 w' w.heap.size (fun _ => True) (.slice Ao46 x5_2.length co46) x5_2) /\ Aside0 (Below w.heap.size w w'))
        case atStart => exact ⟨(0), ez, H', ⟨Nat.le_refl _⟩, ⟨by refine rq ?_; exact HO_5.out⟩, ⟨(bz0 HB.out)⟩⟩
        case round =>
         clear H'
         try clear c1
         try clear p1
         try clear q1
         try clear hx1
         try clear c2
         try clear c2b0
         try clear p2
         try clear c3
         try clear c3b0
         try clear p3
         try clear q3
         try clear hx3
         try clear hf3
         try clear c4
         try clear c4b0
         try clear p4
         try clear q4
         try clear hx4
         try clear hf4
         try clear c5
         try clear c6
         try clear p6
         try clear c7
         try clear c13
         try clear c13b0
         try clear c13b1
         try clear p13
         try clear q13
         try clear hx13
         try clear c14
         try clear c14b0
         try clear c14b1
         try clear p14
         try clear q14
         try clear hx14
         try clear c15
         try clear c15b0
         try clear c15b1
         try clear c18
         try clear c18b0
         try clear c19
         try clear c19b0
         try clear c20
         try clear c20b0
         try clear c21
         try clear c21b0
         try clear c27
         try clear c27b0
         try clear c28
         try clear c28b0
         try clear c29
         try clear c29b0
         try clear c30
         try clear c31
         try clear c31b0
         try clear c32
         try clear c32b0
         try clear c34
         try clear c34b0
         try clear c35
         try clear c35b0
         try clear q36
         try clear c37
         try clear p38
         try clear q38
         try clear hx38
         try clear hf38
         try clear p42
         try clear q42
         try clear hx42
         try clear hf42
         try clear hcz11_0 hcz11_1 hcz11_2
         try clear hcz24_0 hcz24_1 hcz24_2
         try clear hcz8_0 hcz8_1 hcz8_2
         try clear hfz11_0 hfz11_1 hfz11_2
         try clear hfz24_0 hfz24_1 hfz24_2
         try clear hfz8_0 hfz8_1 hfz8_2
         try clear hx133_0
         try clear hx133_1
         try clear hx133_2
         try clear hx139_0
         try clear hx139_1
         try clear hx139_2
         try clear hx144_0
         try clear hx145_0
         try clear hx146_0
         try clear hx38_0
         try clear hx42_0
         try clear p1
         try clear p13
         try clear p133
         try clear p139
         try clear p144
         try clear p145
         try clear p146
         try clear p2
         try clear p38
         try clear p42
         try clear p6
         try clear q1
         try clear q13
         try clear q133
         try clear q139
         try clear q144
         try clear q145
         try clear q146
         try clear q38
         try clear q42
         obtain ⟨x70_3, rfl, HA, HK3, HO_68, HB⟩ := hrel
         cases gk with
         | zero => exact absurd HA.out (by simp [impl_TableOk.l4])
         | succ k3 =>
          have H := HA.out
          clear HA
          simp only [impl_TableOk.l4] at H
          by_cases c47 : x70_3 < (x5_2.length : Int)
          ·rw [if_pos c47] at H
           have c47b0 := decide_eq_true c47
           clear c47
           replace H := iz H
           obtain ⟨c48, H⟩ := H
           have c48b0 := decide_eq_true c48
           clear c48
           replace H := iz H
           obtain ⟨c49, H⟩ := H
           have c49b0 := decide_eq_true c49
           clear c49
           obtain ⟨bq50, hbq50⟩ : ∃ b_ : Bool, b_ = (rdOf false x5_2 x70_3) := ⟨_, rfl⟩
           replace H : (if bq50 = true then (impl_TableOk.l4 k3 x5_2 (x5_2.length : Int) (wrap64 (x70_3 + 1))) else (some false)) = some r := by rw [<- hbq50] at H; exact H
           have Nbq50 := Aside0.mk hbq50
           clear hbq50
           by_cases c51 : bq50 = true
           ·subst c51
            have H1 := hp H
            clear H
            have H := H1
            clear H1
            have H' := Aside0.mk H
            clear H
            have p149 : 0 <= (x70_3 : Int) := oz
            have q149 : x70_3 < (x5_2.length : Int) := oz
            obtain ⟨ad149, e149, hx149_0⟩ := Kd.at_bool (Kd.R_reads' HO_68.out).2.2 x70_3 p149 q149
            (try rw [<- Nbq50.out] at hx149_0)
            cases e149
            replace p149 := eq_true p149
            replace q149 := eq_true q149
            go_wp2
            go_roundg k3
            case measure => have := HK1.out; have := HK2.out; have := HK3.out; omega
            case rel => exact ⟨(wrap64 (x70_3 + 1)), ez, H', ⟨by have := HK1.out; have := HK2.out; have := HK3.out; omega⟩, ⟨by refine rq ?_; exact HO_68.out⟩, ⟨(bz0 HB.out)⟩⟩
           ·replace c51 := Bool.eq_false_iff.mpr c51
            subst c51
            have H1 := hq H
            clear H
            have H := H1
            clear H1
            obtain rfl := Option.some.inj H
            have p149 : 0 <= (x70_3 : Int) := oz
            have q149 : x70_3 < (x5_2.length : Int) := oz
            obtain ⟨ad149, e149, hx149_0⟩ := Kd.at_bool (Kd.R_reads' HO_68.out).2.2 x70_3 p149 q149
            (try rw [<- Nbq50.out] at hx149_0)
            cases e149
            replace p149 := eq_true p149
            replace q149 := eq_true q149
            go_wp2
            go_ret
            exact ⟨gz, (bz0 HB.out)⟩
          ·rw [if_neg c47] at H
           have c47b0 := decide_eq_false c47
           clear c47
           obtain rfl := Option.some.inj H
           go_wp2
           go_ret
           exact ⟨gz, (bz0 HB.out)⟩
end Go.Proofs.YtlhofeikcaejpaaDoor.PFnExactUnified
