/- PFnValuesx9, of the words and walks that the law FnValues needs; made by this session's program out of printed texts. -/

import Derived.Test.YtlhofeikcaejpaaDoorVFnValuesPx0
import Derived.Test.YtlhofeikcaejpaaDoorVFnValuesPx4
import Derived.Test.YtlhofeikcaejpaaDoorVFnValuesPx5
import Derived.Test.YtlhofeikcaejpaaDoorVFnValuesPx8
namespace Go.Proofs.YtlhofeikcaejpaaDoor.PFnValues
open Go.RowKit Go.Proofs.YtlhofeikcaejpaaDoorW.PrintWords Go.Proofs.YtlhofeikcaejpaaDoorW.PrintLast Go.Proofs.YtlhofeikcaejpaaDoorW.PrintMore
attribute [local go_sem] max2_int min2_int max_two min_two max_three min_three max_four min_four
set_option linter.unusedVariables false
set_option linter.unusedSimpArgs false
mutual
def impl_Heap_show.j0 : Nat -> Int -> ByteArray -> List (S41) -> List (S86) -> List (S47) -> List (S35) -> Int -> Int -> Option (ByteArray)
 | 0, _, _, _, _, _, _, _, _ => none
 | k + 1, x2, x7, x360000, x360001, x360002, x360003, x361000, x361001 => if x2 = 0 then (some (⟨#[95]⟩ : ByteArray)) else (if 0 <= x361001 then (if x361001 < (x360002.length : Int) then (if 1 + x7.size <= 9223372036854775807 then (if ((⟨#[40]⟩ : ByteArray) ++ x7).size + 1 <= 9223372036854775807 then ((impl_Heap_show.f k x360000 x360001 x360002 x360003 ((rd_T47 x360002 x361001).f0.f0) ((rd_T47 x360002 x361001).f0.f1) (wrap64 (x2 - 1))).bind fun t364 => (if (((⟨#[40]⟩ : ByteArray) ++ x7) ++ (⟨#[32]⟩ : ByteArray)).size + t364.size <= 9223372036854775807 then (if ((((⟨#[40]⟩ : ByteArray) ++ x7) ++ (⟨#[32]⟩ : ByteArray)) ++ t364).size + 1 <= 9223372036854775807 then ((impl_Heap_show.f k x360000 x360001 x360002 x360003 ((rd_T47 x360002 x361001).f1.f0) ((rd_T47 x360002 x361001).f1.f1) (wrap64 (x2 - 1))).bind fun t365 => (if (((((⟨#[40]⟩ : ByteArray) ++ x7) ++ (⟨#[32]⟩ : ByteArray)) ++ t364) ++ (⟨#[32]⟩ : ByteArray)).size + t365.size <= 9223372036854775807 then (if ((((((⟨#[40]⟩ : ByteArray) ++ x7) ++ (⟨#[32]⟩ : ByteArray)) ++ t364) ++ (⟨#[32]⟩ : ByteArray)) ++ t365).size + 1 <= 9223372036854775807 then (some (((((((⟨#[40]⟩ : ByteArray) ++ x7) ++ (⟨#[32]⟩ : ByteArray)) ++ t364) ++ (⟨#[32]⟩ : ByteArray)) ++ t365) ++ (⟨#[41]⟩ : ByteArray))) else (none)) else (none))) else (none)) else (none))) else (none)) else (none)) else (none)) else (none))
def impl_Heap_show.f : Nat -> List (S41) -> List (S86) -> List (S47) -> List (S35) -> Int -> Int -> Int -> Option (ByteArray)
 | 0, _, _, _, _, _, _, _ => none
 | k + 1, l0_0, l0_1, l0_2, l0_3, a1_0, a1_1, a2 => if a1_0 = 0 then ((impl_Dec.f a1_1).bind fun t361 => (some t361)) else (if a1_0 = 1 then (some (⟨#[102, 117, 110]⟩ : ByteArray)) else (if a1_0 = 2 then (some (⟨#[110, 105, 108]⟩ : ByteArray)) else (if a1_0 = 5 then (some (⟨#[114, 101, 102]⟩ : ByteArray)) else (if a1_0 = 4 then (impl_Heap_show.j0 k a2 (⟨#[99, 111, 110, 115]⟩ : ByteArray) l0_0 l0_1 l0_2 l0_3 a1_0 a1_1) else (impl_Heap_show.j0 k a2 (⟨#[112, 97, 105, 114]⟩ : ByteArray) l0_0 l0_1 l0_2 l0_3 a1_0 a1_1)))))
end
theorem impl_Heap_show.mono_l : ∀ k, (∀ y0 y1 y2 y3 y4 y5 y6, LeO (impl_Heap_show.f k y0 y1 y2 y3 y4 y5 y6) (impl_Heap_show.f (k + 1) y0 y1 y2 y3 y4 y5 y6)) /\ (∀ y0 y1 y2 y3 y4 y5 y6 y7, LeO (impl_Heap_show.j0 k y0 y1 y2 y3 y4 y5 y6 y7) (impl_Heap_show.j0 (k + 1) y0 y1 y2 y3 y4 y5 y6 y7))
 | 0 => ⟨fun _ _ _ _ _ _ _ r h => by simp [impl_Heap_show.f] at h, fun _ _ _ _ _ _ _ _ r h => by simp [impl_Heap_show.j0] at h⟩
 | k + 1 => by
  obtain ⟨ih0, ih1⟩ := impl_Heap_show.mono_l k
  refine ⟨?_, ?_⟩
  ·intro y0 y1 y2 y3 y4 y5 y6
   unfold impl_Heap_show.f
   with_reducible repeat' first | exact ih0 _ _ _ _ _ _ _ | exact ih1 _ _ _ _ _ _ _ _ | exact lrz _ | exact lnz _ | refine liz ?_ ?_ | refine lbz ?_ fun _ => ?_
  ·intro y0 y1 y2 y3 y4 y5 y6 y7
   unfold impl_Heap_show.j0
   with_reducible repeat' first | exact ih0 _ _ _ _ _ _ _ | exact ih1 _ _ _ _ _ _ _ _ | exact lrz _ | exact lnz _ | refine liz ?_ ?_ | refine lbz ?_ fun _ => ?_
theorem impl_Heap_show.mono : ∀ a0 a1 a2 a3 a4 a5 a6 k, LeO (impl_Heap_show.f k a0 a1 a2 a3 a4 a5 a6) (impl_Heap_show.f (k + 1) a0 a1 a2 a3 a4 a5 a6) := by
 intro a0 a1 a2 a3 a4 a5 a6 k
 obtain ⟨ih0, ih1⟩ := impl_Heap_show.mono_l k
 exact ih0 a0 a1 a2 a3 a4 a5 a6
def impl_Heap_show.T15 : Bool × List (List Nat × List Nat) := (true, [([], []), ([0], [0]), ([1], [1]), ([2], [2]), ([], []), ([4], [4]), ([3, 5], [3, 5]), ([6], [6]), ([], []), ([8, 7, 0, 1, 2, 3, 4, 5, 6, 7, 8], [7, 8])])
def impl_Heap_show.B15 : List Nat := [0, 1, 3, 7, 0, 16, 63, 127, 0, 511]
theorem impl_Heap_show.tab15 : rtab .any (opsOf Tryd.f48 15) = impl_Heap_show.T15 := by kernel_rfl
theorem impl_Heap_show.bits15 : waitsOk impl_Heap_show.T15.2 impl_Heap_show.B15 = true := by kernel_rfl
def impl_Heap_show.T16 : Bool × List (List Nat × List Nat) := (true, [([], []), ([0], [0]), ([1], [1]), ([], []), ([], []), ([4], [4]), ([], []), ([6], [6]), ([3, 5, 7], [3, 5, 7]), ([2, 8], [2, 8]), ([9], [9]), ([], []), ([], []), ([12], [12]), ([], []), ([14], [14]), ([11, 13, 15, 8], [11, 13, 15]), ([10, 16], [10, 16]), ([17], [17]), ([18, 16, 0, 1, 2, 3, 4, 5, 6, 7, 8, 9, 10, 11, 12, 13, 14, 15, 16, 17, 18], [18])])
def impl_Heap_show.B16 : List Nat := [0, 1, 3, 0, 0, 16, 0, 64, 248, 511, 1023, 0, 0, 4096, 0, 16384, 63992, 131071, 262143, 524287]
theorem impl_Heap_show.tab16 : rtab .any (opsOf Tryd.f48 16) = impl_Heap_show.T16 := by kernel_rfl
theorem impl_Heap_show.bits16 : waitsOk impl_Heap_show.T16.2 impl_Heap_show.B16 = true := by kernel_rfl
set_option maxHeartbeats 80000000 in
set_option maxRecDepth 100000 in
theorem impl_Heap_show.calls (k : Nat) : ∀ (A0_0 : Option Addr) (c0_0 : Nat) (l0_0 : List (S41)) (A0_1 : Option Addr) (c0_1 : Nat) (l0_1 : List (S86)) (A0_2 : Option Addr) (c0_2 : Nat) (l0_2 : List (S47)) (A0_3 : Option Addr) (c0_3 : Nat) (l0_3 : List (S35)) (a1_0 : Int) (a1_1 : Int) (a2 : Int) (r : ByteArray) (w : World) (hr0_0 : Kd.C k41 w A0_0 l0_0.length l0_0) (hc0_0 : l0_0.length <= c0_0) (hr0_1 : Kd.C k86 w A0_1 l0_1.length l0_1) (hc0_1 : l0_1.length <= c0_1) (hr0_2 : Kd.C k47 w A0_2 l0_2.length l0_2) (hc0_2 : l0_2.length <= c0_2) (hr0_3 : Kd.C k35 w A0_3 l0_3.length l0_3) (hc0_3 : l0_3.length <= c0_3) (gb359 : Nat) (hcap : w.heap[gb359]? = some (.cells #[.slice A0_0 l0_0.length c0_0, .slice A0_1 l0_1.length c0_1, .slice A0_2 l0_2.length c0_2, .slice A0_3 l0_3.length c0_3] 29 (0, 0))) (h : impl_Heap_show.f k l0_0 l0_1 l0_2 l0_3 a1_0 a1_1 a2 = some r) (hT_ : PW w),
  Calls Tryd.prog 48 #[.pointer (some ⟨gb359, 0, none⟩), .agg #[.int .i64 a1_0, .int .i64 a1_1], .int .i64 a2] w fun e w' => e = .returned (.string r) /\ Below w.heap.size w w' := by
 induction k using Nat.strongRecOn with
 | _ k ih =>
 intro A0_0 c0_0 l0_0 A0_1 c0_1 l0_1 A0_2 c0_2 l0_2 A0_3 c0_3 l0_3 a1_0 a1_1 a2 r w hr0_0 hc0_0 hr0_1 hc0_1 hr0_2 hc0_2 hr0_3 hc0_3 gb359 hcap h hT_
 cases k with
 | zero => exact absurd h (by simp [impl_Heap_show.f])
 | succ k =>
 simp only [impl_Heap_show.f] at h
 have hu29 := Tryd.underlying29
 have hu35 := Tryd.underlying35
 have hu47 := Tryd.underlying47
 have HR0_0 := Aside0.mk hr0_0
 have HC0_0 := Aside0.mk hc0_0
 clear hr0_0 hc0_0
 have HR0_1 := Aside0.mk hr0_1
 have HC0_1 := Aside0.mk hc0_1
 clear hr0_1 hc0_1
 have HR0_2 := Aside0.mk hr0_2
 have HC0_2 := Aside0.mk hc0_2
 clear hr0_2 hc0_2
 have HR0_3 := Aside0.mk hr0_3
 have HC0_3 := Aside0.mk hc0_3
 clear hr0_3 hc0_3
 have HB := Aside0.mk (Below.refl w.heap.size w)
 have BK359 := Aside0.mk hcap
 clear hcap
 have H : (if a1_0 = 0 then ((impl_Dec.f a1_1).bind fun t361 => (some t361)) else (if a1_0 = 1 then (some (⟨#[102, 117, 110]⟩ : ByteArray)) else (if a1_0 = 2 then (some (⟨#[110, 105, 108]⟩ : ByteArray)) else (if a1_0 = 5 then (some (⟨#[114, 101, 102]⟩ : ByteArray)) else (if a1_0 = 4 then (impl_Heap_show.j0 k a2 (⟨#[99, 111, 110, 115]⟩ : ByteArray) l0_0 l0_1 l0_2 l0_3 a1_0 a1_1) else (impl_Heap_show.j0 k a2 (⟨#[112, 97, 105, 114]⟩ : ByteArray) l0_0 l0_1 l0_2 l0_3 a1_0 a1_1)))))) = some r := h
 clear h
 have HC4 := Aside0.mk H
 clear H
 go_enter Tryd.func48, Tryd.ntmps48
 go_upto_block 0 with (first | ((with_reducible refine gate_dst (N := 4) rfl ?_); refine box_event ?hg (N := 4) ?hd (cs := #[.int .i64 a1_0, .int .i64 a1_1]) (t := 35) ?hr ?_; (case hd => rfl); (case hg => rfl); (case hr => exact vz); intro gb360 hg w6 hbox hb; have BK360 := Aside0.mk (hbox); have GW360 := Aside0.mk ((by rw [hg]; exact (below_size (bz0 HB.out)) : w.heap.size <= gb360)); have GE360 := GW360; replace HB := Aside0.mk (below_step (bz0 HB.out) hb); have NB359_360 := Aside0.mk ((by rw [hg]; exact Nat.ne_of_lt (blk_lt (kz BK359.out)) : gb359 ≠ gb360)); have NB360_359 := Aside0.mk ((by rw [hg]; exact Nat.ne_of_gt (blk_lt (kz BK359.out)) : gb360 ≠ gb359)); replace BK359 := Aside0.mk (blk_below (kz BK359.out) hb); clear hb hbox hg; have hnb7 := NB360_359.out; have hnc7 := NB359_360.out; obtain ⟨hcz8_0, hcz8_1⟩ := cz2 BK360.out; obtain ⟨hfz8_0, hfz8_1⟩ := fz2 BK360.out))
 (try simp only [Act.put, sz1, sz2, sz3])
 go_cut [7] (fun v7 wc => ∃ (kq : Nat) (x7_3 : ByteArray), v7 = .string x7_3 /\ Aside0 (impl_Heap_show.j0 kq a2 x7_3 l0_0 l0_1 l0_2 l0_3 a1_0 a1_1 = some r) /\ Aside0 (kq <= k) /\ Aside0 (wc.heap[gb359]? = some (.cells #[(.slice A0_0 l0_0.length c0_0), (.slice A0_1 l0_1.length c0_1), (.slice A0_2 l0_2.length c0_2), (.slice A0_3 l0_3.length c0_3)] 29 (0, 0))) /\ Aside0 (wc.heap[gb360]? = some (.cells #[.int .i64 a1_0, .int .i64 a1_1] 35 (0, 0))) /\ Aside0 (Below w.heap.size w wc))
 case first =>
  have H := HC4.out
  clear HC4
  by_cases c9 : a1_0 = 0
  ·rw [if_pos c9] at H
   have c9b0 : (a1_0 == 0) = true := beq_iff_eq.mpr c9
   have c9b1 : (a1_0 != 0) = false := bne_eq_false_iff_eq.mpr c9
   clear c9
   (first | rw [c9b0] | (simp only [i64_w, i32_w]; rw [c9b0]) | skip)
   replace H := bi H
   obtain ⟨t361, A100, H⟩ := H
   try dsimp only at H
   have A10 := Aside0.mk A100
   clear A100
   obtain rfl := Option.some.inj H
   have hnb11 := NB360_359.out
   have hnc11 := NB359_360.out
   obtain ⟨hcz12_0, hcz12_1⟩ := cz2 BK360.out
   obtain ⟨hfz12_0, hfz12_1⟩ := fz2 BK360.out
   go_wp2_with (first | ((with_reducible refine gate_callee (f := 18) rfl ?_); refine goesL_ (some 15) rfl rfl Tryd.func18 (by kernel_rfl) rfl #[.int .i64 a1_1] rfl lz ?_; (with_reducible refine (impl_Dec.calls a1_1 t361 _ A10.out ?hT_).mono ?_); (case hT_ => exact PW.below hT_ (bz1 HB.out GE360.out)); rintro e w13 ⟨rfl, hb⟩; refine ⟨_, rfl, ?_⟩; replace BK359 := Aside0.mk (blk_below (kz BK359.out) hb); replace BK360 := Aside0.mk (blk_below (kz BK360.out) hb); replace HB := Aside0.mk (below_step (bz1 HB.out GE360.out) hb); (try clear hb); (try clear hi)))
   go_ret
   exact ⟨gz, (bz1 HB.out GE360.out)⟩
  ·rw [if_neg c9] at H
   have c9b0 : (a1_0 == 0) = false := beq_eq_false_iff_ne.mpr c9
   have c9b1 : (a1_0 != 0) = true := bne_iff_ne.mpr c9
   (first | rw [c9b0] | (simp only [i64_w, i32_w]; rw [c9b0]) | skip)
   by_cases c14 : a1_0 = 1
   ·rw [if_pos c14] at H
    have c14b0 : (a1_0 == 1) = true := beq_iff_eq.mpr c14
    have c14b1 : (a1_0 != 1) = false := bne_eq_false_iff_eq.mpr c14
    clear c14
    obtain rfl := Option.some.inj H
    go_wp2
    go_ret
    exact ⟨gz, (bz1 HB.out GE360.out)⟩
   ·rw [if_neg c14] at H
    have c14b0 : (a1_0 == 1) = false := beq_eq_false_iff_ne.mpr c14
    have c14b1 : (a1_0 != 1) = true := bne_iff_ne.mpr c14
    by_cases c15 : a1_0 = 2
    ·rw [if_pos c15] at H
     have c15b0 : (a1_0 == 2) = true := beq_iff_eq.mpr c15
     have c15b1 : (a1_0 != 2) = false := bne_eq_false_iff_eq.mpr c15
     clear c15
     obtain rfl := Option.some.inj H
     go_wp2
     go_ret
     exact ⟨gz, (bz1 HB.out GE360.out)⟩
    ·rw [if_neg c15] at H
     have c15b0 : (a1_0 == 2) = false := beq_eq_false_iff_ne.mpr c15
     have c15b1 : (a1_0 != 2) = true := bne_iff_ne.mpr c15
     by_cases c16 : a1_0 = 5
     ·rw [if_pos c16] at H
      have c16b0 : (a1_0 == 5) = true := beq_iff_eq.mpr c16
      have c16b1 : (a1_0 != 5) = false := bne_eq_false_iff_eq.mpr c16
      clear c16
      obtain rfl := Option.some.inj H
      go_wp2
      go_ret
      exact ⟨gz, (bz1 HB.out GE360.out)⟩
     ·rw [if_neg c16] at H
      have c16b0 : (a1_0 == 5) = false := beq_eq_false_iff_ne.mpr c16
      have c16b1 : (a1_0 != 5) = true := bne_iff_ne.mpr c16
      by_cases c17 : a1_0 = 4
      ·rw [if_pos c17] at H
       have c17b0 : (a1_0 == 4) = true := beq_iff_eq.mpr c17
       have c17b1 : (a1_0 != 4) = false := bne_eq_false_iff_eq.mpr c17
       clear c17
       have H' := Aside0.mk H
       clear H
       go_wp2
       go_meet
       case rel => exact ⟨_, ((⟨#[99, 111, 110, 115]⟩ : ByteArray)), ez, H', ⟨by first | omega | exact Nat.le_refl _⟩, ⟨by refine kq ?_; exact BK359.out⟩, ⟨by refine kq ?_; exact BK360.out⟩, ⟨(bz1 HB.out GE360.out)⟩⟩
      ·rw [if_neg c17] at H
       have c17b0 : (a1_0 == 4) = false := beq_eq_false_iff_ne.mpr c17
       have c17b1 : (a1_0 != 4) = true := bne_iff_ne.mpr c17
       have H' := Aside0.mk H
       clear H
       go_wp2
       go_meet
       case rel => exact ⟨_, ((⟨#[112, 97, 105, 114]⟩ : ByteArray)), ez, H', ⟨by first | omega | exact Nat.le_refl _⟩, ⟨by refine kq ?_; exact BK359.out⟩, ⟨by refine kq ?_; exact BK360.out⟩, ⟨(bz1 HB.out GE360.out)⟩⟩
 case rest =>
  clear HC4
  try clear c1
  try clear p2
  try clear c4
  try clear c7
  try clear c9
  try clear c9b0
  try clear c9b1
  try clear c11
  try clear c14
  try clear c14b0
  try clear c14b1
  try clear c15
  try clear c15b0
  try clear c15b1
  try clear c16
  try clear c16b0
  try clear c16b1
  try clear c17
  try clear c17b0
  try clear c17b1
  try clear hcz12_0 hcz12_1
  try clear hcz8_0 hcz8_1
  try clear hfz12_0 hfz12_1
  try clear hfz8_0 hfz8_1
  obtain ⟨kq, x7_3, rfl, HA, HJ3, BK359, BK360, HB⟩ := hcut
  cases kq with
  | zero => exact absurd HA.out (by simp [impl_Heap_show.j0])
  | succ kj3 =>
   have H := HA.out
   clear HA
   simp only [impl_Heap_show.j0] at H
   by_cases c18 : a2 = 0
   ·rw [if_pos c18] at H
    have c18b0 : (a2 == 0) = true := beq_iff_eq.mpr c18
    have c18b1 : (a2 != 0) = false := bne_eq_false_iff_eq.mpr c18
    clear c18
    obtain rfl := Option.some.inj H
    go_wp2
    go_ret
    exact ⟨gz, (bz1 HB.out GE360.out)⟩
   ·rw [if_neg c18] at H
    have c18b0 : (a2 == 0) = false := beq_eq_false_iff_ne.mpr c18
    have c18b1 : (a2 != 0) = true := bne_iff_ne.mpr c18
    replace H := iz H
    obtain ⟨c19, H⟩ := H
    have c19b0 := decide_eq_true c19
    clear c19
    replace H := iz H
    obtain ⟨c20, H⟩ := H
    have c20b0 := decide_eq_true c20
    clear c20
    replace H := iz H
    obtain ⟨c21, H⟩ := H
    have c21b0 := eq_true c21
    have c21b1 : decide (1 + x7_3.size <= 9223372036854775807) = true := decide_eq_true c21
    try have c21b2 : (9223372036854775807 < 1 + x7_3.size) = False := eq_false (Nat.not_lt.2 c21)
    replace H := iz H
    obtain ⟨c22, H⟩ := H
    have c22b0 := eq_true c22
    have c22b1 : decide (((⟨#[40]⟩ : ByteArray) ++ x7_3).size + 1 <= 9223372036854775807) = true := decide_eq_true c22
    try have c22b2 : (9223372036854775807 < ((⟨#[40]⟩ : ByteArray) ++ x7_3).size + 1) = False := eq_false (Nat.not_lt.2 c22)
    (try (have c22b2z := c22b2; simp only [ByteArray.size_append, show (⟨#[40]⟩ : ByteArray).size = 1 from rfl] at c22b2z))
    replace H := bi H
    obtain ⟨t364, A230, H⟩ := H
    try dsimp only at H
    have A23 := Aside0.mk A230
    clear A230
    replace H := iz H
    obtain ⟨c24, H⟩ := H
    have c24b0 := eq_true c24
    have c24b1 : decide ((((⟨#[40]⟩ : ByteArray) ++ x7_3) ++ (⟨#[32]⟩ : ByteArray)).size + t364.size <= 9223372036854775807) = true := decide_eq_true c24
    try have c24b2 : (9223372036854775807 < (((⟨#[40]⟩ : ByteArray) ++ x7_3) ++ (⟨#[32]⟩ : ByteArray)).size + t364.size) = False := eq_false (Nat.not_lt.2 c24)
    (try (have c24b2z := c24b2; simp only [ByteArray.size_append, show (⟨#[32]⟩ : ByteArray).size = 1 from rfl, show (⟨#[40]⟩ : ByteArray).size = 1 from rfl] at c24b2z))
    replace H := iz H
    obtain ⟨c25, H⟩ := H
    have c25b0 := eq_true c25
    have c25b1 : decide (((((⟨#[40]⟩ : ByteArray) ++ x7_3) ++ (⟨#[32]⟩ : ByteArray)) ++ t364).size + 1 <= 9223372036854775807) = true := decide_eq_true c25
    try have c25b2 : (9223372036854775807 < ((((⟨#[40]⟩ : ByteArray) ++ x7_3) ++ (⟨#[32]⟩ : ByteArray)) ++ t364).size + 1) = False := eq_false (Nat.not_lt.2 c25)
    (try (have c25b2z := c25b2; simp only [ByteArray.size_append, show (⟨#[32]⟩ : ByteArray).size = 1 from rfl, show (⟨#[40]⟩ : ByteArray).size = 1 from rfl] at c25b2z))
    replace H := bi H
    obtain ⟨t365, A260, H⟩ := H
    try dsimp only at H
    have A26 := Aside0.mk A260
    clear A260
    replace H := iz H
    obtain ⟨c27, H⟩ := H
    have c27b0 := eq_true c27
    have c27b1 : decide ((((((⟨#[40]⟩ : ByteArray) ++ x7_3) ++ (⟨#[32]⟩ : ByteArray)) ++ t364) ++ (⟨#[32]⟩ : ByteArray)).size + t365.size <= 9223372036854775807) = true := decide_eq_true c27
    try have c27b2 : (9223372036854775807 < (((((⟨#[40]⟩ : ByteArray) ++ x7_3) ++ (⟨#[32]⟩ : ByteArray)) ++ t364) ++ (⟨#[32]⟩ : ByteArray)).size + t365.size) = False := eq_false (Nat.not_lt.2 c27)
    (try (have c27b2z := c27b2; simp only [ByteArray.size_append, show (⟨#[32]⟩ : ByteArray).size = 1 from rfl, show (⟨#[40]⟩ : ByteArray).size = 1 from rfl] at c27b2z))
    replace H := iz H
    obtain ⟨c28, H⟩ := H
    have c28b0 := eq_true c28
    have c28b1 : decide (((((((⟨#[40]⟩ : ByteArray) ++ x7_3) ++ (⟨#[32]⟩ : ByteArray)) ++ t364) ++ (⟨#[32]⟩ : ByteArray)) ++ t365).size + 1 <= 9223372036854775807) = true := decide_eq_true c28
    try have c28b2 : (9223372036854775807 < ((((((⟨#[40]⟩ : ByteArray) ++ x7_3) ++ (⟨#[32]⟩ : ByteArray)) ++ t364) ++ (⟨#[32]⟩ : ByteArray)) ++ t365).size + 1) = False := eq_false (Nat.not_lt.2 c28)
    (try (have c28b2z := c28b2; simp only [ByteArray.size_append, show (⟨#[32]⟩ : ByteArray).size = 1 from rfl, show (⟨#[40]⟩ : ByteArray).size = 1 from rfl] at c28b2z))
    obtain rfl := Option.some.inj H
    try go_wp2
    have n0_ := Aside0.mk (blk_drew BK359.out)
    have n1_ := Aside0.mk (blk_drew BK360.out)
    have n2_ := Aside0.mk (below_drew1 HB.out)
    clear BK359
    clear BK360
    clear HB
    have BK359 := n0_
    have BK360 := n1_
    have HB := n2_
    clear n0_ n1_ n2_
    have p362 : 0 <= (a1_1 : Int) := oz
    have q362 : a1_1 < (l0_2.length : Int) := oz
    obtain ⟨ad362, e362, hx362_0, hx362_1, hx362_2, hx362_3⟩ := at_T47 HR0_2.out a1_1 p362 q362
    have hw362_3 := hx362_3
    have hw362_2 := hx362_2
    have hw362_1 := hx362_1
    have hw362_0 := hx362_0
    cases e362
    replace hx362_0 := hz HB.out hx362_0
    replace hx362_1 := hz HB.out hx362_1
    replace hx362_2 := hz HB.out hx362_2
    replace hx362_3 := hz HB.out hx362_3
    replace p362 := eq_true p362
    replace q362 := eq_true q362
    refine start_ (n := 10) (S := fun w' => w'.cell? ⟨gb359, 0, none⟩ = some (.slice A0_0 l0_0.length c0_0) /\ w'.cell? ⟨gb359, 1, none⟩ = some (.slice A0_1 l0_1.length c0_1) /\ w'.cell? ⟨gb359, 2, none⟩ = some (.slice (some ad362) l0_2.length c0_2) /\ w'.cell? ⟨gb359, 3, none⟩ = some (.slice A0_3 l0_3.length c0_3) /\ w'.cell? ⟨gb360, 0, none⟩ = some (.int .i64 a1_0) /\ w'.cell? ⟨gb360, 1, none⟩ = some (.int .i64 a1_1) /\ w'.cell? (ad362.add ((a1_1).toNat * 4)) = some (.int .i64 ((rd_T47 l0_2 a1_1).f0.f0)) /\ w'.cell? ⟨(ad362.add ((a1_1).toNat * 4)).block, (ad362.add ((a1_1).toNat * 4)).off + 1, none⟩ = some (.int .i64 ((rd_T47 l0_2 a1_1).f0.f1)) /\ w'.cell? ⟨(ad362.add ((a1_1).toNat * 4)).block, (ad362.add ((a1_1).toNat * 4)).off + 2, none⟩ = some (.int .i64 ((rd_T47 l0_2 a1_1).f1.f0)) /\ w'.cell? ⟨(ad362.add ((a1_1).toNat * 4)).block, (ad362.add ((a1_1).toNat * 4)).off + 3, none⟩ = some (.int .i64 ((rd_T47 l0_2 a1_1).f1.f1))) (ds := []) (mk_ 0 10) (by kernel_rfl) rfl rfl ⟨(blk_cell BK359.out 0).trans rfl, (blk_cell BK359.out 1).trans rfl, (blk_cell BK359.out 2).trans rfl, (blk_cell BK359.out 3).trans rfl, (blk_cell BK360.out 0).trans rfl, (blk_cell BK360.out 1).trans rfl, (hz HB.out hw362_0 :), (hz HB.out hw362_1 :), (hz HB.out hw362_2 :), (hz HB.out hw362_3 :)⟩ (fun hHeld => ?_); refine with_tabW impl_Heap_show.tab15 impl_Heap_show.bits15 (fun HT_ HW_ => ?_)
    generalize wc.drew = w29 at BK359 BK360 HB hx362_0 hx362_1 hx362_2 hx362_3 hHeld ⊢
    refine pv 0 26 (mk_ 1 9) HT_ rfl rfl ?_
    refine pv 1 27 (mk_ 2 8) HT_ rfl rfl ?_
    refine pv 2 28 (mk_ 3 7) HT_ rfl rfl ?_
    refine pv 4 30 (bm_ 10 23) HT_ rfl rfl ?_
    refine tv10 3 29 (mk_ 5 5) HT_ HW_ rfl rfl hHeld ?_
    refine tv10 5 31 (mk_ 6 4) HT_ HW_ rfl rfl hHeld ?_
    refine pv 6 32 (mk_ 7 3) HT_ rfl rfl ?_
    refine tv10 7 33 (mk_ 8 2) HT_ HW_ rfl rfl hHeld ?_
    refine one_ (i := 8) (N := some 8) (mk_ 9 1) rfl rfl (one_of HT_.out (by kernel_rfl)) (by decide) (fun K hK => ?_)
    refine box_step ?hg (N := 8) ?hd (cs := #[.int .i64 0, .int .i64 0, .int .i64 0, .int .i64 0]) (t := 47) ?hr ?_; (case hd => rfl); (case hg => rfl); (case hr => exact vz)
    intro gb363 hg w30 hbox hb
    have n0_ := Aside0.mk (blk_below (kz BK359.out) hb)
    have n1_ := Aside0.mk (blk_below (kz BK360.out) hb)
    have n2_ := Aside0.mk (below_step (bz1 HB.out GE360.out) hb)
    have n3_ := Aside0.mk (hbox)
    have n4_ := Aside0.mk ((by rw [hg]; exact (below_size (bz1 HB.out GE360.out)) : w.heap.size <= gb363))
    have n5_ := Aside0.mk ((by rw [hg]; exact (below_size (bz1 HB.out GE360.out)) : w.heap.size <= gb363))
    have n6_ := Aside0.mk ((by rw [hg]; exact Nat.ne_of_lt (blk_lt (kz BK359.out)) : gb359 ≠ gb363))
    have n7_ := Aside0.mk ((by rw [hg]; exact Nat.ne_of_gt (blk_lt (kz BK359.out)) : gb363 ≠ gb359))
    have n8_ := Aside0.mk ((by rw [hg]; exact Nat.ne_of_lt (blk_lt (kz BK360.out)) : gb360 ≠ gb363))
    have n9_ := Aside0.mk ((by rw [hg]; exact Nat.ne_of_gt (blk_lt (kz BK360.out)) : gb363 ≠ gb360))
    clear BK359
    clear BK360
    clear HB
    have BK359 := n0_
    have BK360 := n1_
    have HB := n2_
    have BK363 := n3_
    have GW363 := n4_
    have GE363 := n5_
    have NB359_363 := n6_
    have NB363_359 := n7_
    have NB360_363 := n8_
    have NB363_360 := n9_
    clear n0_ n1_ n2_ n3_ n4_ n5_ n6_ n7_ n8_ n9_
    clear hb hbox hg
    refine hK.out _ _ ⟨(blk_cell BK359.out 0).trans rfl, (blk_cell BK359.out 1).trans rfl, (blk_cell BK359.out 2).trans rfl, (blk_cell BK359.out 3).trans rfl, (blk_cell BK360.out 0).trans rfl, (blk_cell BK360.out 1).trans rfl, (hz HB.out hw362_0 :), (hz HB.out hw362_1 :), (hz HB.out hw362_2 :), (hz HB.out hw362_3 :)⟩ (fun hHeld => ?_)
    clear hK K
    refine norm_ (a' := ?_) ?_ ?_
    rotate_left
    ·show Act.put _ (some 8) _ = _
     simp only [Act.put, sz1, sz2, sz3, i64_w, i32_w]
     rfl
    refine one_ (i := 9) (N := none) (mk_ 10 0) rfl rfl (one_of HT_.out (by kernel_rfl)) (by decide) (fun K hK => ?_)
    have hs31 : w30.cell? ⟨gb363, 0, none⟩ = some (.int .i64 0) := (blk_cell BK363.out 0).trans rfl
    have hfs31 := blk_frozen BK363.out 0
    have hns31_0 := NB359_363.out
    have hns31_1 := NB360_363.out
    have hms31_0 := NB363_359.out
    have hms31_1 := NB363_360.out
    have hs32 : w30.cell? ⟨gb363, 1, none⟩ = some (.int .i64 0) := (blk_cell BK363.out 1).trans rfl
    have hfs32 := blk_frozen BK363.out 1
    have hns32_0 := NB359_363.out
    have hns32_1 := NB360_363.out
    have hms32_0 := NB363_359.out
    have hms32_1 := NB363_360.out
    have hs33 : w30.cell? ⟨gb363, 2, none⟩ = some (.int .i64 0) := (blk_cell BK363.out 2).trans rfl
    have hfs33 := blk_frozen BK363.out 2
    have hns33_0 := NB359_363.out
    have hns33_1 := NB360_363.out
    have hms33_0 := NB363_359.out
    have hms33_1 := NB363_360.out
    have hs34 : w30.cell? ⟨gb363, 3, none⟩ = some (.int .i64 0) := (blk_cell BK363.out 3).trans rfl
    have hfs34 := blk_frozen BK363.out 3
    have hns34_0 := NB359_363.out
    have hns34_1 := NB360_363.out
    have hms34_0 := NB363_359.out
    have hms34_1 := NB363_360.out
    refine skip_ (w1 := ?_) (by rfl) rfl ?_ ?_
    rotate_left
    ·go_simp
     rfl
    refine hK.out _ _ ⟨((cell_far (p := ⟨gb363, _, none⟩) NB359_363.out _).trans (((cell_far (p := ⟨gb363, _, none⟩) NB359_363.out _).trans (((cell_far (p := ⟨gb363, _, none⟩) NB359_363.out _).trans (((cell_far (p := ⟨gb363, _, none⟩) NB359_363.out _).trans (hHeld.1)))))))), ((cell_far (p := ⟨gb363, _, none⟩) NB359_363.out _).trans (((cell_far (p := ⟨gb363, _, none⟩) NB359_363.out _).trans (((cell_far (p := ⟨gb363, _, none⟩) NB359_363.out _).trans (((cell_far (p := ⟨gb363, _, none⟩) NB359_363.out _).trans (hHeld.2.1)))))))), ((cell_far (p := ⟨gb363, _, none⟩) NB359_363.out _).trans (((cell_far (p := ⟨gb363, _, none⟩) NB359_363.out _).trans (((cell_far (p := ⟨gb363, _, none⟩) NB359_363.out _).trans (((cell_far (p := ⟨gb363, _, none⟩) NB359_363.out _).trans (hHeld.2.2.1)))))))), ((cell_far (p := ⟨gb363, _, none⟩) NB359_363.out _).trans (((cell_far (p := ⟨gb363, _, none⟩) NB359_363.out _).trans (((cell_far (p := ⟨gb363, _, none⟩) NB359_363.out _).trans (((cell_far (p := ⟨gb363, _, none⟩) NB359_363.out _).trans (hHeld.2.2.2.1)))))))), ((cell_far (p := ⟨gb363, _, none⟩) NB360_363.out _).trans (((cell_far (p := ⟨gb363, _, none⟩) NB360_363.out _).trans (((cell_far (p := ⟨gb363, _, none⟩) NB360_363.out _).trans (((cell_far (p := ⟨gb363, _, none⟩) NB360_363.out _).trans (hHeld.2.2.2.2.1)))))))), ((cell_far (p := ⟨gb363, _, none⟩) NB360_363.out _).trans (((cell_far (p := ⟨gb363, _, none⟩) NB360_363.out _).trans (((cell_far (p := ⟨gb363, _, none⟩) NB360_363.out _).trans (((cell_far (p := ⟨gb363, _, none⟩) NB360_363.out _).trans (hHeld.2.2.2.2.2.1)))))))), ((cell_far (p := ⟨gb363, _, none⟩) (by first | exact Nat.ne_of_lt (Nat.lt_of_lt_of_le (by have := World.block_lt_of_cell? _ _ hw362_0; first | rwa [add_block] at this | exact this) GW363.out) | (rw [add_block]; exact Nat.ne_of_lt (Nat.lt_of_lt_of_le (by have := World.block_lt_of_cell? _ _ hw362_0; first | rwa [add_block] at this | exact this) GW363.out)) | (show (Addr.add _ _).block ≠ _; rw [add_block]; exact Nat.ne_of_lt (Nat.lt_of_lt_of_le (by have := World.block_lt_of_cell? _ _ hw362_0; first | rwa [add_block] at this | exact this) GW363.out)) | (dsimp only; exact Nat.ne_of_lt (Nat.lt_of_lt_of_le (by have := World.block_lt_of_cell? _ _ hw362_0; first | rwa [add_block] at this | exact this) GW363.out))) _).trans (((cell_far (p := ⟨gb363, _, none⟩) (by first | exact Nat.ne_of_lt (Nat.lt_of_lt_of_le (by have := World.block_lt_of_cell? _ _ hw362_0; first | rwa [add_block] at this | exact this) GW363.out) | (rw [add_block]; exact Nat.ne_of_lt (Nat.lt_of_lt_of_le (by have := World.block_lt_of_cell? _ _ hw362_0; first | rwa [add_block] at this | exact this) GW363.out)) | (show (Addr.add _ _).block ≠ _; rw [add_block]; exact Nat.ne_of_lt (Nat.lt_of_lt_of_le (by have := World.block_lt_of_cell? _ _ hw362_0; first | rwa [add_block] at this | exact this) GW363.out)) | (dsimp only; exact Nat.ne_of_lt (Nat.lt_of_lt_of_le (by have := World.block_lt_of_cell? _ _ hw362_0; first | rwa [add_block] at this | exact this) GW363.out))) _).trans (((cell_far (p := ⟨gb363, _, none⟩) (by first | exact Nat.ne_of_lt (Nat.lt_of_lt_of_le (by have := World.block_lt_of_cell? _ _ hw362_0; first | rwa [add_block] at this | exact this) GW363.out) | (rw [add_block]; exact Nat.ne_of_lt (Nat.lt_of_lt_of_le (by have := World.block_lt_of_cell? _ _ hw362_0; first | rwa [add_block] at this | exact this) GW363.out)) | (show (Addr.add _ _).block ≠ _; rw [add_block]; exact Nat.ne_of_lt (Nat.lt_of_lt_of_le (by have := World.block_lt_of_cell? _ _ hw362_0; first | rwa [add_block] at this | exact this) GW363.out)) | (dsimp only; exact Nat.ne_of_lt (Nat.lt_of_lt_of_le (by have := World.block_lt_of_cell? _ _ hw362_0; first | rwa [add_block] at this | exact this) GW363.out))) _).trans (((cell_far (p := ⟨gb363, _, none⟩) (by first | exact Nat.ne_of_lt (Nat.lt_of_lt_of_le (by have := World.block_lt_of_cell? _ _ hw362_0; first | rwa [add_block] at this | exact this) GW363.out) | (rw [add_block]; exact Nat.ne_of_lt (Nat.lt_of_lt_of_le (by have := World.block_lt_of_cell? _ _ hw362_0; first | rwa [add_block] at this | exact this) GW363.out)) | (show (Addr.add _ _).block ≠ _; rw [add_block]; exact Nat.ne_of_lt (Nat.lt_of_lt_of_le (by have := World.block_lt_of_cell? _ _ hw362_0; first | rwa [add_block] at this | exact this) GW363.out)) | (dsimp only; exact Nat.ne_of_lt (Nat.lt_of_lt_of_le (by have := World.block_lt_of_cell? _ _ hw362_0; first | rwa [add_block] at this | exact this) GW363.out))) _).trans (hHeld.2.2.2.2.2.2.1)))))))), ((cell_far (p := ⟨gb363, _, none⟩) (by first | exact Nat.ne_of_lt (Nat.lt_of_lt_of_le (by have := World.block_lt_of_cell? _ _ hw362_1; first | rwa [add_block] at this | exact this) GW363.out) | (rw [add_block]; exact Nat.ne_of_lt (Nat.lt_of_lt_of_le (by have := World.block_lt_of_cell? _ _ hw362_1; first | rwa [add_block] at this | exact this) GW363.out)) | (show (Addr.add _ _).block ≠ _; rw [add_block]; exact Nat.ne_of_lt (Nat.lt_of_lt_of_le (by have := World.block_lt_of_cell? _ _ hw362_1; first | rwa [add_block] at this | exact this) GW363.out)) | (dsimp only; exact Nat.ne_of_lt (Nat.lt_of_lt_of_le (by have := World.block_lt_of_cell? _ _ hw362_1; first | rwa [add_block] at this | exact this) GW363.out))) _).trans (((cell_far (p := ⟨gb363, _, none⟩) (by first | exact Nat.ne_of_lt (Nat.lt_of_lt_of_le (by have := World.block_lt_of_cell? _ _ hw362_1; first | rwa [add_block] at this | exact this) GW363.out) | (rw [add_block]; exact Nat.ne_of_lt (Nat.lt_of_lt_of_le (by have := World.block_lt_of_cell? _ _ hw362_1; first | rwa [add_block] at this | exact this) GW363.out)) | (show (Addr.add _ _).block ≠ _; rw [add_block]; exact Nat.ne_of_lt (Nat.lt_of_lt_of_le (by have := World.block_lt_of_cell? _ _ hw362_1; first | rwa [add_block] at this | exact this) GW363.out)) | (dsimp only; exact Nat.ne_of_lt (Nat.lt_of_lt_of_le (by have := World.block_lt_of_cell? _ _ hw362_1; first | rwa [add_block] at this | exact this) GW363.out))) _).trans (((cell_far (p := ⟨gb363, _, none⟩) (by first | exact Nat.ne_of_lt (Nat.lt_of_lt_of_le (by have := World.block_lt_of_cell? _ _ hw362_1; first | rwa [add_block] at this | exact this) GW363.out) | (rw [add_block]; exact Nat.ne_of_lt (Nat.lt_of_lt_of_le (by have := World.block_lt_of_cell? _ _ hw362_1; first | rwa [add_block] at this | exact this) GW363.out)) | (show (Addr.add _ _).block ≠ _; rw [add_block]; exact Nat.ne_of_lt (Nat.lt_of_lt_of_le (by have := World.block_lt_of_cell? _ _ hw362_1; first | rwa [add_block] at this | exact this) GW363.out)) | (dsimp only; exact Nat.ne_of_lt (Nat.lt_of_lt_of_le (by have := World.block_lt_of_cell? _ _ hw362_1; first | rwa [add_block] at this | exact this) GW363.out))) _).trans (((cell_far (p := ⟨gb363, _, none⟩) (by first | exact Nat.ne_of_lt (Nat.lt_of_lt_of_le (by have := World.block_lt_of_cell? _ _ hw362_1; first | rwa [add_block] at this | exact this) GW363.out) | (rw [add_block]; exact Nat.ne_of_lt (Nat.lt_of_lt_of_le (by have := World.block_lt_of_cell? _ _ hw362_1; first | rwa [add_block] at this | exact this) GW363.out)) | (show (Addr.add _ _).block ≠ _; rw [add_block]; exact Nat.ne_of_lt (Nat.lt_of_lt_of_le (by have := World.block_lt_of_cell? _ _ hw362_1; first | rwa [add_block] at this | exact this) GW363.out)) | (dsimp only; exact Nat.ne_of_lt (Nat.lt_of_lt_of_le (by have := World.block_lt_of_cell? _ _ hw362_1; first | rwa [add_block] at this | exact this) GW363.out))) _).trans (hHeld.2.2.2.2.2.2.2.1)))))))), ((cell_far (p := ⟨gb363, _, none⟩) (by first | exact Nat.ne_of_lt (Nat.lt_of_lt_of_le (by have := World.block_lt_of_cell? _ _ hw362_2; first | rwa [add_block] at this | exact this) GW363.out) | (rw [add_block]; exact Nat.ne_of_lt (Nat.lt_of_lt_of_le (by have := World.block_lt_of_cell? _ _ hw362_2; first | rwa [add_block] at this | exact this) GW363.out)) | (show (Addr.add _ _).block ≠ _; rw [add_block]; exact Nat.ne_of_lt (Nat.lt_of_lt_of_le (by have := World.block_lt_of_cell? _ _ hw362_2; first | rwa [add_block] at this | exact this) GW363.out)) | (dsimp only; exact Nat.ne_of_lt (Nat.lt_of_lt_of_le (by have := World.block_lt_of_cell? _ _ hw362_2; first | rwa [add_block] at this | exact this) GW363.out))) _).trans (((cell_far (p := ⟨gb363, _, none⟩) (by first | exact Nat.ne_of_lt (Nat.lt_of_lt_of_le (by have := World.block_lt_of_cell? _ _ hw362_2; first | rwa [add_block] at this | exact this) GW363.out) | (rw [add_block]; exact Nat.ne_of_lt (Nat.lt_of_lt_of_le (by have := World.block_lt_of_cell? _ _ hw362_2; first | rwa [add_block] at this | exact this) GW363.out)) | (show (Addr.add _ _).block ≠ _; rw [add_block]; exact Nat.ne_of_lt (Nat.lt_of_lt_of_le (by have := World.block_lt_of_cell? _ _ hw362_2; first | rwa [add_block] at this | exact this) GW363.out)) | (dsimp only; exact Nat.ne_of_lt (Nat.lt_of_lt_of_le (by have := World.block_lt_of_cell? _ _ hw362_2; first | rwa [add_block] at this | exact this) GW363.out))) _).trans (((cell_far (p := ⟨gb363, _, none⟩) (by first | exact Nat.ne_of_lt (Nat.lt_of_lt_of_le (by have := World.block_lt_of_cell? _ _ hw362_2; first | rwa [add_block] at this | exact this) GW363.out) | (rw [add_block]; exact Nat.ne_of_lt (Nat.lt_of_lt_of_le (by have := World.block_lt_of_cell? _ _ hw362_2; first | rwa [add_block] at this | exact this) GW363.out)) | (show (Addr.add _ _).block ≠ _; rw [add_block]; exact Nat.ne_of_lt (Nat.lt_of_lt_of_le (by have := World.block_lt_of_cell? _ _ hw362_2; first | rwa [add_block] at this | exact this) GW363.out)) | (dsimp only; exact Nat.ne_of_lt (Nat.lt_of_lt_of_le (by have := World.block_lt_of_cell? _ _ hw362_2; first | rwa [add_block] at this | exact this) GW363.out))) _).trans (((cell_far (p := ⟨gb363, _, none⟩) (by first | exact Nat.ne_of_lt (Nat.lt_of_lt_of_le (by have := World.block_lt_of_cell? _ _ hw362_2; first | rwa [add_block] at this | exact this) GW363.out) | (rw [add_block]; exact Nat.ne_of_lt (Nat.lt_of_lt_of_le (by have := World.block_lt_of_cell? _ _ hw362_2; first | rwa [add_block] at this | exact this) GW363.out)) | (show (Addr.add _ _).block ≠ _; rw [add_block]; exact Nat.ne_of_lt (Nat.lt_of_lt_of_le (by have := World.block_lt_of_cell? _ _ hw362_2; first | rwa [add_block] at this | exact this) GW363.out)) | (dsimp only; exact Nat.ne_of_lt (Nat.lt_of_lt_of_le (by have := World.block_lt_of_cell? _ _ hw362_2; first | rwa [add_block] at this | exact this) GW363.out))) _).trans (hHeld.2.2.2.2.2.2.2.2.1)))))))), ((cell_far (p := ⟨gb363, _, none⟩) (by first | exact Nat.ne_of_lt (Nat.lt_of_lt_of_le (by have := World.block_lt_of_cell? _ _ hw362_3; first | rwa [add_block] at this | exact this) GW363.out) | (rw [add_block]; exact Nat.ne_of_lt (Nat.lt_of_lt_of_le (by have := World.block_lt_of_cell? _ _ hw362_3; first | rwa [add_block] at this | exact this) GW363.out)) | (show (Addr.add _ _).block ≠ _; rw [add_block]; exact Nat.ne_of_lt (Nat.lt_of_lt_of_le (by have := World.block_lt_of_cell? _ _ hw362_3; first | rwa [add_block] at this | exact this) GW363.out)) | (dsimp only; exact Nat.ne_of_lt (Nat.lt_of_lt_of_le (by have := World.block_lt_of_cell? _ _ hw362_3; first | rwa [add_block] at this | exact this) GW363.out))) _).trans (((cell_far (p := ⟨gb363, _, none⟩) (by first | exact Nat.ne_of_lt (Nat.lt_of_lt_of_le (by have := World.block_lt_of_cell? _ _ hw362_3; first | rwa [add_block] at this | exact this) GW363.out) | (rw [add_block]; exact Nat.ne_of_lt (Nat.lt_of_lt_of_le (by have := World.block_lt_of_cell? _ _ hw362_3; first | rwa [add_block] at this | exact this) GW363.out)) | (show (Addr.add _ _).block ≠ _; rw [add_block]; exact Nat.ne_of_lt (Nat.lt_of_lt_of_le (by have := World.block_lt_of_cell? _ _ hw362_3; first | rwa [add_block] at this | exact this) GW363.out)) | (dsimp only; exact Nat.ne_of_lt (Nat.lt_of_lt_of_le (by have := World.block_lt_of_cell? _ _ hw362_3; first | rwa [add_block] at this | exact this) GW363.out))) _).trans (((cell_far (p := ⟨gb363, _, none⟩) (by first | exact Nat.ne_of_lt (Nat.lt_of_lt_of_le (by have := World.block_lt_of_cell? _ _ hw362_3; first | rwa [add_block] at this | exact this) GW363.out) | (rw [add_block]; exact Nat.ne_of_lt (Nat.lt_of_lt_of_le (by have := World.block_lt_of_cell? _ _ hw362_3; first | rwa [add_block] at this | exact this) GW363.out)) | (show (Addr.add _ _).block ≠ _; rw [add_block]; exact Nat.ne_of_lt (Nat.lt_of_lt_of_le (by have := World.block_lt_of_cell? _ _ hw362_3; first | rwa [add_block] at this | exact this) GW363.out)) | (dsimp only; exact Nat.ne_of_lt (Nat.lt_of_lt_of_le (by have := World.block_lt_of_cell? _ _ hw362_3; first | rwa [add_block] at this | exact this) GW363.out))) _).trans (((cell_far (p := ⟨gb363, _, none⟩) (by first | exact Nat.ne_of_lt (Nat.lt_of_lt_of_le (by have := World.block_lt_of_cell? _ _ hw362_3; first | rwa [add_block] at this | exact this) GW363.out) | (rw [add_block]; exact Nat.ne_of_lt (Nat.lt_of_lt_of_le (by have := World.block_lt_of_cell? _ _ hw362_3; first | rwa [add_block] at this | exact this) GW363.out)) | (show (Addr.add _ _).block ≠ _; rw [add_block]; exact Nat.ne_of_lt (Nat.lt_of_lt_of_le (by have := World.block_lt_of_cell? _ _ hw362_3; first | rwa [add_block] at this | exact this) GW363.out)) | (dsimp only; exact Nat.ne_of_lt (Nat.lt_of_lt_of_le (by have := World.block_lt_of_cell? _ _ hw362_3; first | rwa [add_block] at this | exact this) GW363.out))) _).trans (hHeld.2.2.2.2.2.2.2.2.2))))))))⟩ (fun hHeld => ?_)
    clear hK K
    refine done_ (done_of HT_.out (by kernel_rfl)) ?_
    try go_wp2
    have n0_ : Aside0 (((((w30.setCell ⟨gb363, 0, none⟩ (.int .i64 ((rd_T47 l0_2 a1_1).f0.f0))).setCell ⟨gb363, 1, none⟩ (.int .i64 ((rd_T47 l0_2 a1_1).f0.f1))).setCell ⟨gb363, 2, none⟩ (.int .i64 ((rd_T47 l0_2 a1_1).f1.f0))).setCell ⟨gb363, 3, none⟩ (.int .i64 ((rd_T47 l0_2 a1_1).f1.f1))).heap[gb359]? = some (.cells #[.slice A0_0 l0_0.length c0_0, .slice A0_1 l0_1.length c0_1, .slice (some ad362) l0_2.length c0_2, .slice A0_3 l0_3.length c0_3] 29 (0, 0))) := ⟨by refine kq ?_; refine blk_far ?_ NB359_363.out _; refine kq ?_; refine blk_far ?_ NB359_363.out _; refine kq ?_; refine blk_far ?_ NB359_363.out _; refine kq ?_; refine blk_far ?_ NB359_363.out _; refine kq ?_; exact BK359.out⟩
    have n1_ : Aside0 (((((w30.setCell ⟨gb363, 0, none⟩ (.int .i64 ((rd_T47 l0_2 a1_1).f0.f0))).setCell ⟨gb363, 1, none⟩ (.int .i64 ((rd_T47 l0_2 a1_1).f0.f1))).setCell ⟨gb363, 2, none⟩ (.int .i64 ((rd_T47 l0_2 a1_1).f1.f0))).setCell ⟨gb363, 3, none⟩ (.int .i64 ((rd_T47 l0_2 a1_1).f1.f1))).heap[gb360]? = some (.cells #[.int .i64 a1_0, .int .i64 a1_1] 35 (0, 0))) := ⟨by refine kq ?_; refine blk_far ?_ NB360_363.out _; refine kq ?_; refine blk_far ?_ NB360_363.out _; refine kq ?_; refine blk_far ?_ NB360_363.out _; refine kq ?_; refine blk_far ?_ NB360_363.out _; refine kq ?_; exact BK360.out⟩
    have n2_ : Aside0 (((((w30.setCell ⟨gb363, 0, none⟩ (.int .i64 ((rd_T47 l0_2 a1_1).f0.f0))).setCell ⟨gb363, 1, none⟩ (.int .i64 ((rd_T47 l0_2 a1_1).f0.f1))).setCell ⟨gb363, 2, none⟩ (.int .i64 ((rd_T47 l0_2 a1_1).f1.f0))).setCell ⟨gb363, 3, none⟩ (.int .i64 ((rd_T47 l0_2 a1_1).f1.f1))).heap[gb363]? = some (.cells #[.int .i64 ((rd_T47 l0_2 a1_1).f0.f0), .int .i64 ((rd_T47 l0_2 a1_1).f0.f1), .int .i64 ((rd_T47 l0_2 a1_1).f1.f0), .int .i64 ((rd_T47 l0_2 a1_1).f1.f1)] 47 (0, 0))) := ⟨by refine kq ?_; refine blk_put (cs := #[.int .i64 ((rd_T47 l0_2 a1_1).f0.f0), .int .i64 ((rd_T47 l0_2 a1_1).f0.f1), .int .i64 ((rd_T47 l0_2 a1_1).f1.f0), .int .i64 0]) ?_ 3 _ rfl; refine kq ?_; refine blk_put (cs := #[.int .i64 ((rd_T47 l0_2 a1_1).f0.f0), .int .i64 ((rd_T47 l0_2 a1_1).f0.f1), .int .i64 0, .int .i64 0]) ?_ 2 _ rfl; refine kq ?_; refine blk_put (cs := #[.int .i64 ((rd_T47 l0_2 a1_1).f0.f0), .int .i64 0, .int .i64 0, .int .i64 0]) ?_ 1 _ rfl; refine kq ?_; refine blk_put (cs := #[.int .i64 0, .int .i64 0, .int .i64 0, .int .i64 0]) ?_ 0 _ rfl; refine kq ?_; exact BK363.out⟩
    have n3_ : Aside0 (Below w.heap.size w ((((w30.setCell ⟨gb363, 0, none⟩ (.int .i64 ((rd_T47 l0_2 a1_1).f0.f0))).setCell ⟨gb363, 1, none⟩ (.int .i64 ((rd_T47 l0_2 a1_1).f0.f1))).setCell ⟨gb363, 2, none⟩ (.int .i64 ((rd_T47 l0_2 a1_1).f1.f0))).setCell ⟨gb363, 3, none⟩ (.int .i64 ((rd_T47 l0_2 a1_1).f1.f1)))) := ⟨(bz2 HB.out GE360.out GE363.out)⟩
    (try clear BK359)
    (try clear BK360)
    (try clear BK363)
    (try clear HB)
    generalize ((((w30.setCell ⟨gb363, 0, none⟩ (.int .i64 ((rd_T47 l0_2 a1_1).f0.f0))).setCell ⟨gb363, 1, none⟩ (.int .i64 ((rd_T47 l0_2 a1_1).f0.f1))).setCell ⟨gb363, 2, none⟩ (.int .i64 ((rd_T47 l0_2 a1_1).f1.f0))).setCell ⟨gb363, 3, none⟩ (.int .i64 ((rd_T47 l0_2 a1_1).f1.f1))) = w35 at n0_ n1_ n2_ n3_ ⊢
    have BK359 := n0_
    have BK360 := n1_
    have BK363 := n2_
    have HB := n3_
    clear n0_ n1_ n2_ n3_
    have n0_ := Aside0.mk (blk_drew BK359.out)
    have n1_ := Aside0.mk (blk_drew BK360.out)
    have n2_ := Aside0.mk (blk_drew BK363.out)
    have n3_ := Aside0.mk (below_drew1 HB.out)
    clear BK359
    clear BK360
    clear BK363
    clear HB
    have BK359 := n0_
    have BK360 := n1_
    have BK363 := n2_
    have HB := n3_
    clear n0_ n1_ n2_ n3_
    refine start_ (n := 20) (S := fun w' => w'.cell? ⟨gb359, 0, none⟩ = some (.slice A0_0 l0_0.length c0_0) /\ w'.cell? ⟨gb359, 1, none⟩ = some (.slice A0_1 l0_1.length c0_1) /\ w'.cell? ⟨gb359, 2, none⟩ = some (.slice (some ad362) l0_2.length c0_2) /\ w'.cell? ⟨gb359, 3, none⟩ = some (.slice A0_3 l0_3.length c0_3) /\ w'.cell? ⟨gb363, 0, none⟩ = some (.int .i64 ((rd_T47 l0_2 a1_1).f0.f0)) /\ w'.cell? ⟨gb363, 1, none⟩ = some (.int .i64 ((rd_T47 l0_2 a1_1).f0.f1)) /\ w'.cell? ⟨gb363, 2, none⟩ = some (.int .i64 ((rd_T47 l0_2 a1_1).f1.f0)) /\ w'.cell? ⟨gb363, 3, none⟩ = some (.int .i64 ((rd_T47 l0_2 a1_1).f1.f1))) (ds := []) (mk_ 0 20) (by kernel_rfl) rfl rfl ⟨(blk_cell BK359.out 0).trans rfl, (blk_cell BK359.out 1).trans rfl, (blk_cell BK359.out 2).trans rfl, (blk_cell BK359.out 3).trans rfl, (blk_cell BK363.out 0).trans rfl, (blk_cell BK363.out 1).trans rfl, (blk_cell BK363.out 2).trans rfl, (blk_cell BK363.out 3).trans rfl⟩ (fun hHeld => ?_); refine with_tabW impl_Heap_show.tab16 impl_Heap_show.bits16 (fun HT_ HW_ => ?_)
    generalize w35.drew = w36 at BK359 BK360 BK363 HB hHeld ⊢
    refine pv 0 34 (mk_ 1 19) HT_ rfl rfl ?_
    refine pv 1 35 (mk_ 2 18) HT_ rfl rfl ?_
    refine pv 2 36 (mk_ 3 17) HT_ rfl rfl ?_
    refine pv 4 38 (bm_ 20 23) HT_ rfl rfl ?_
    refine pv 6 40 (bm_ 20 87) HT_ rfl rfl ?_
    refine pv 7 41 (bm_ 20 215) HT_ rfl rfl ?_
    refine pv 12 46 (bm_ 20 4311) HT_ rfl rfl ?_
    refine pv 14 48 (bm_ 20 20695) HT_ rfl rfl ?_
    refine pv 15 49 (bm_ 20 53463) HT_ rfl rfl ?_
    refine tv8 3 37 (bm_ 20 53471) HT_ HW_ rfl rfl hHeld ?_
    refine tv8 5 39 (bm_ 20 53503) HT_ HW_ rfl rfl hHeld ?_
    refine tv8 11 45 (bm_ 20 55551) HT_ HW_ rfl rfl hHeld ?_
    refine tv8 13 47 (bm_ 20 63743) HT_ HW_ rfl rfl hHeld ?_
    refine one_ (i := 8) (N := some 42) (bm_ 20 63999) rfl rfl (one_of HT_.out (by kernel_rfl)) (by decide) (fun K hK => ?_)
    refine goes_ Tryd.func48 (by kernel_rfl) rfl #[.pointer (some ⟨gb359, 0, none⟩), .agg #[.int .i64 ((rd_T47 l0_2 a1_1).f0.f0), .int .i64 ((rd_T47 l0_2 a1_1).f0.f1)], .int .i64 (wrap64 (a2 - 1))] (by rfl) rfl rfl lz ?_
    with_reducible refine (ih kj3 (by have := HJ3.out; omega) A0_0 c0_0 l0_0 A0_1 c0_1 l0_1 (some ad362) c0_2 l0_2 A0_3 c0_3 l0_3 ((rd_T47 l0_2 a1_1).f0.f0) ((rd_T47 l0_2 a1_1).f0.f1) (wrap64 (a2 - 1)) t364 _ ?side1 ?side2 ?side3 ?side4 ?side5 ?side6 ?side7 ?side8 gb359 ?capside A23.out ?hT_).mono ?_
    (case hT_ => exact PW.below hT_ (bz2 HB.out GE360.out GE363.out))
    (case capside => refine kq ?_; exact BK359.out)
    (case side1 => exact cz (Kd.C_below HR0_0.out HB.out))
    (case side2 => exact HC0_0.out)
    (case side3 => exact cz (Kd.C_below HR0_1.out HB.out))
    (case side4 => exact HC0_1.out)
    (case side5 => exact cz (Kd.C_below HR0_2.out HB.out))
    (case side6 => exact HC0_2.out)
    (case side7 => exact cz (Kd.C_below HR0_3.out HB.out))
    (case side8 => exact HC0_3.out)
    rintro e w37 ⟨rfl, hb⟩
    refine ⟨_, rfl, ?_⟩
    have n0_ := Aside0.mk (blk_below (kz BK359.out) hb)
    have n1_ := Aside0.mk (blk_below (kz BK360.out) hb)
    have n2_ := Aside0.mk (blk_below (kz BK363.out) hb)
    have n3_ := Aside0.mk (below_step (bz2 HB.out GE360.out GE363.out) hb)
    clear BK359
    clear BK360
    clear BK363
    clear HB
    have BK359 := n0_
    have BK360 := n1_
    have BK363 := n2_
    have HB := n3_
    clear n0_ n1_ n2_ n3_
    (try clear hb)
    (try clear hb2)
    (try clear hk)
    (try clear hi)
    refine hK.out _ _ ⟨(blk_cell BK359.out 0).trans rfl, (blk_cell BK359.out 1).trans rfl, (blk_cell BK359.out 2).trans rfl, (blk_cell BK359.out 3).trans rfl, (blk_cell BK363.out 0).trans rfl, (blk_cell BK363.out 1).trans rfl, (blk_cell BK363.out 2).trans rfl, (blk_cell BK363.out 3).trans rfl⟩ (fun hHeld => ?_)
    clear hK K
    refine norm_ (a' := ?_) ?_ ?_
    rotate_left
    ·show Act.put _ (some 42) _ = _
     simp only [Act.put, sz1, sz2, sz3, i64_w, i32_w]
     rfl
    refine pv 9 43 (bm_ 20 64511) HT_ rfl rfl ?_
    refine pv 10 44 (mk_ 16 4) HT_ rfl rfl ?_
    refine one_ (i := 16) (N := some 50) (mk_ 17 3) rfl rfl (one_of HT_.out (by kernel_rfl)) (by decide) (fun K hK => ?_)
    refine goes_ Tryd.func48 (by kernel_rfl) rfl #[.pointer (some ⟨gb359, 0, none⟩), .agg #[.int .i64 ((rd_T47 l0_2 a1_1).f1.f0), .int .i64 ((rd_T47 l0_2 a1_1).f1.f1)], .int .i64 (wrap64 (a2 - 1))] (by rfl) rfl rfl lz ?_
    with_reducible refine (ih kj3 (by have := HJ3.out; omega) A0_0 c0_0 l0_0 A0_1 c0_1 l0_1 (some ad362) c0_2 l0_2 A0_3 c0_3 l0_3 ((rd_T47 l0_2 a1_1).f1.f0) ((rd_T47 l0_2 a1_1).f1.f1) (wrap64 (a2 - 1)) t365 _ ?side1 ?side2 ?side3 ?side4 ?side5 ?side6 ?side7 ?side8 gb359 ?capside A26.out ?hT_).mono ?_
    (case hT_ => exact PW.below hT_ (bz2 HB.out GE360.out GE363.out))
    (case capside => refine kq ?_; exact BK359.out)
    (case side1 => exact cz (Kd.C_below HR0_0.out HB.out))
    (case side2 => exact HC0_0.out)
    (case side3 => exact cz (Kd.C_below HR0_1.out HB.out))
    (case side4 => exact HC0_1.out)
    (case side5 => exact cz (Kd.C_below HR0_2.out HB.out))
    (case side6 => exact HC0_2.out)
    (case side7 => exact cz (Kd.C_below HR0_3.out HB.out))
    (case side8 => exact HC0_3.out)
    rintro e w38 ⟨rfl, hb⟩
    refine ⟨_, rfl, ?_⟩
    have n0_ := Aside0.mk (blk_below (kz BK359.out) hb)
    have n1_ := Aside0.mk (blk_below (kz BK360.out) hb)
    have n2_ := Aside0.mk (blk_below (kz BK363.out) hb)
    have n3_ := Aside0.mk (below_step (bz2 HB.out GE360.out GE363.out) hb)
    clear BK359
    clear BK360
    clear BK363
    clear HB
    have BK359 := n0_
    have BK360 := n1_
    have BK363 := n2_
    have HB := n3_
    clear n0_ n1_ n2_ n3_
    (try clear hb)
    (try clear hb2)
    (try clear hk)
    (try clear hi)
    refine hK.out _ _ ⟨(blk_cell BK359.out 0).trans rfl, (blk_cell BK359.out 1).trans rfl, (blk_cell BK359.out 2).trans rfl, (blk_cell BK359.out 3).trans rfl, (blk_cell BK363.out 0).trans rfl, (blk_cell BK363.out 1).trans rfl, (blk_cell BK363.out 2).trans rfl, (blk_cell BK363.out 3).trans rfl⟩ (fun hHeld => ?_)
    clear hK K
    refine norm_ (a' := ?_) ?_ ?_
    rotate_left
    ·show Act.put _ (some 50) _ = _
     simp only [Act.put, sz1, sz2, sz3, i64_w, i32_w]
     rfl
    refine pv 17 51 (mk_ 18 2) HT_ rfl rfl ?_
    refine pv 18 52 (mk_ 19 1) HT_ rfl rfl ?_
    refine pv 19 6 (mk_ 20 0) HT_ rfl rfl ?_
    refine done_ (done_of HT_.out (by kernel_rfl)) ?_
    try go_wp2
    go_ret
    exact ⟨gz, (bz2 HB.out GE360.out GE363.out)⟩
def impl_ShowVal.f (k : Nat) (l0_0 : List (S41)) (l0_1 : List (S86)) (l0_2 : List (S47)) (l0_3 : List (S35)) (a1_0 : Int) (a1_1 : Int) (a2 : Int) : Option (ByteArray) := (impl_HeapOk.f k l0_0 l0_1 l0_2 l0_3).bind fun t368 => (if t368 = true then ((impl_ValOk.f k l0_0 l0_1 l0_2 l0_3 a1_0 a1_1).bind fun t369 => (if t369 = true then ((impl_in.f a2 0 8).bind fun t370 => (if t370 = true then ((impl_Heap_show.f k l0_0 l0_1 l0_2 l0_3 a1_0 a1_1 a2).bind fun t371 => (some t371)) else (some (⟨#[]⟩ : ByteArray)))) else (some (⟨#[]⟩ : ByteArray)))) else (some (⟨#[]⟩ : ByteArray)))
theorem impl_ShowVal.mono : ∀ a0 a1 a2 a3 a4 a5 a6 k, LeO (impl_ShowVal.f k a0 a1 a2 a3 a4 a5 a6) (impl_ShowVal.f (k + 1) a0 a1 a2 a3 a4 a5 a6) := by
 intro a0 a1 a2 a3 a4 a5 a6 k
 unfold impl_ShowVal.f
 with_reducible repeat' first | exact impl_HeapOk.mono _ _ _ _ _ | exact impl_Heap_show.mono _ _ _ _ _ _ _ _ | exact impl_ValOk.mono _ _ _ _ _ _ _ | exact lrz _ | exact lnz _ | refine liz ?_ ?_ | refine lbz ?_ fun _ => ?_
set_option maxHeartbeats 80000000 in
set_option maxRecDepth 100000 in
theorem impl_ShowVal.calls (k : Nat) (A0_0 : Option Addr) (c0_0 : Nat) (l0_0 : List (S41)) (A0_1 : Option Addr) (c0_1 : Nat) (l0_1 : List (S86)) (A0_2 : Option Addr) (c0_2 : Nat) (l0_2 : List (S47)) (A0_3 : Option Addr) (c0_3 : Nat) (l0_3 : List (S35)) (a1_0 : Int) (a1_1 : Int) (a2 : Int) (r : ByteArray) (w : World) (hr0_0 : Kd.C k41 w A0_0 l0_0.length l0_0) (hc0_0 : l0_0.length <= c0_0) (hr0_1 : Kd.C k86 w A0_1 l0_1.length l0_1) (hc0_1 : l0_1.length <= c0_1) (hr0_2 : Kd.C k47 w A0_2 l0_2.length l0_2) (hc0_2 : l0_2.length <= c0_2) (hr0_3 : Kd.C k35 w A0_3 l0_3.length l0_3) (hc0_3 : l0_3.length <= c0_3) (h : impl_ShowVal.f k l0_0 l0_1 l0_2 l0_3 a1_0 a1_1 a2 = some r) (hT_ : PW w) :
  Calls Tryd.prog 16 #[.agg #[.slice A0_0 l0_0.length c0_0, .slice A0_1 l0_1.length c0_1, .slice A0_2 l0_2.length c0_2, .slice A0_3 l0_3.length c0_3], .agg #[.int .i64 a1_0, .int .i64 a1_1], .int .i64 a2] w fun e w' => e = .returned (.string r) /\ Below w.heap.size w w' := by
 have hu29 := Tryd.underlying29
 have hu35 := Tryd.underlying35
 have HR0_0 := Aside0.mk hr0_0
 have HC0_0 := Aside0.mk hc0_0
 clear hr0_0 hc0_0
 have HR0_1 := Aside0.mk hr0_1
 have HC0_1 := Aside0.mk hc0_1
 clear hr0_1 hc0_1
 have HR0_2 := Aside0.mk hr0_2
 have HC0_2 := Aside0.mk hc0_2
 clear hr0_2 hc0_2
 have HR0_3 := Aside0.mk hr0_3
 have HC0_3 := Aside0.mk hc0_3
 clear hr0_3 hc0_3
 have HB := Aside0.mk (Below.refl w.heap.size w)
 have H : ((impl_HeapOk.f k l0_0 l0_1 l0_2 l0_3).bind fun t368 => (if t368 = true then ((impl_ValOk.f k l0_0 l0_1 l0_2 l0_3 a1_0 a1_1).bind fun t369 => (if t369 = true then ((impl_in.f a2 0 8).bind fun t370 => (if t370 = true then ((impl_Heap_show.f k l0_0 l0_1 l0_2 l0_3 a1_0 a1_1 a2).bind fun t371 => (some t371)) else (some (⟨#[]⟩ : ByteArray)))) else (some (⟨#[]⟩ : ByteArray)))) else (some (⟨#[]⟩ : ByteArray)))) = some r := h
 clear h
 replace H := bi H
 obtain ⟨t368, A40, H⟩ := H
 try dsimp only at H
 have A4 := Aside0.mk A40
 clear A40
 by_cases c5 : t368 = true
 ·subst c5
  have H1 := hp H
  clear H
  have H := H1
  clear H1
  replace H := bi H
  obtain ⟨t369, A60, H⟩ := H
  try dsimp only at H
  have A6 := Aside0.mk A60
  clear A60
  by_cases c7 : t369 = true
  ·subst c7
   have H1 := hp H
   clear H
   have H := H1
   clear H1
   replace H := bi H
   obtain ⟨t370, A80, H⟩ := H
   try dsimp only at H
   have A8 := Aside0.mk A80
   clear A80
   by_cases c9 : t370 = true
   ·subst c9
    have H1 := hp H
    clear H
    have H := H1
    clear H1
    replace H := bi H
    obtain ⟨t371, A100, H⟩ := H
    try dsimp only at H
    have A10 := Aside0.mk A100
    clear A100
    obtain rfl := Option.some.inj H
    go_enter Tryd.func16, Tryd.ntmps16
    go_wp2_with (first | ((with_reducible refine gate_dst (N := 3) rfl ?_); refine box_event ?hg (N := 3) ?hd (cs := #[.slice A0_0 l0_0.length c0_0, .slice A0_1 l0_1.length c0_1, .slice A0_2 l0_2.length c0_2, .slice A0_3 l0_3.length c0_3]) (t := 29) ?hr ?_; (case hd => rfl); (case hg => rfl); (case hr => exact vz); intro gb366 hg w11 hbox hb; have BK366 := Aside0.mk (hbox); have GW366 := Aside0.mk ((by rw [hg]; exact (below_size (bz0 HB.out)) : w.heap.size <= gb366)); have GE366 := GW366; replace HB := Aside0.mk (below_step (bz0 HB.out) hb); clear hb hbox hg) | ((with_reducible refine gate_dst (N := 4) rfl ?_); refine box_event ?hg (N := 4) ?hd (cs := #[.int .i64 a1_0, .int .i64 a1_1]) (t := 35) ?hr ?_; (case hd => rfl); (case hg => rfl); (case hr => exact vz); intro gb367 hg w12 hbox hb; have BK367 := Aside0.mk (hbox); have GW367 := Aside0.mk ((by rw [hg]; exact (below_size (bz1 HB.out GE366.out)) : w.heap.size <= gb367)); have GE367 := GW367; replace HB := Aside0.mk (below_step (bz1 HB.out GE366.out) hb); have NB366_367 := Aside0.mk ((by rw [hg]; exact Nat.ne_of_lt (blk_lt (kz BK366.out)) : gb366 ≠ gb367)); have NB367_366 := Aside0.mk ((by rw [hg]; exact Nat.ne_of_gt (blk_lt (kz BK366.out)) : gb367 ≠ gb366)); replace BK366 := Aside0.mk (blk_below (kz BK366.out) hb); clear hb hbox hg; have hnb13 := NB366_367.out; have hnc13 := NB367_366.out; obtain ⟨hcz14_0, hcz14_1, hcz14_2, hcz14_3⟩ := cz4 BK366.out; obtain ⟨hfz14_0, hfz14_1, hfz14_2, hfz14_3⟩ := fz4 BK366.out) | ((with_reducible refine gate_callee (f := 41) rfl ?_); refine goesL_ (some 8) rfl rfl Tryd.func41 (by kernel_rfl) rfl #[.agg #[.slice A0_0 l0_0.length c0_0, .slice A0_1 l0_1.length c0_1, .slice A0_2 l0_2.length c0_2, .slice A0_3 l0_3.length c0_3]] rfl lz ?_; (with_reducible refine (impl_HeapOk.calls k _ _ l0_0 _ _ l0_1 _ _ l0_2 _ _ l0_3 true _ ?side1 ?side2 ?side3 ?side4 ?side5 ?side6 ?side7 ?side8 A4.out).mono ?_); (case side1 => exact cz (Kd.C_below HR0_0.out HB.out)); (case side2 => exact HC0_0.out); (case side3 => exact cz (Kd.C_below HR0_1.out HB.out)); (case side4 => exact HC0_1.out); (case side5 => exact cz (Kd.C_below HR0_2.out HB.out)); (case side6 => exact HC0_2.out); (case side7 => exact cz (Kd.C_below HR0_3.out HB.out)); (case side8 => exact HC0_3.out); rintro e w15 ⟨rfl, hb⟩; refine ⟨_, rfl, ?_⟩; replace BK366 := Aside0.mk (blk_below (kz BK366.out) hb); replace BK367 := Aside0.mk (blk_below (kz BK367.out) hb); replace HB := Aside0.mk (below_step (bz2 HB.out GE366.out GE367.out) hb); (try clear hb); obtain ⟨hcz16_0, hcz16_1, hcz16_2, hcz16_3⟩ := cz4 BK366.out; obtain ⟨hfz16_0, hfz16_1, hfz16_2, hfz16_3⟩ := fz4 BK366.out; obtain ⟨hcz17_0, hcz17_1⟩ := cz2 BK367.out; obtain ⟨hfz17_0, hfz17_1⟩ := fz2 BK367.out) | (go_at_call 13; (with_reducible refine (impl_ValOk.calls k _ _ l0_0 _ _ l0_1 _ _ l0_2 _ _ l0_3 a1_0 a1_1 true _ ?side1 ?side2 ?side3 ?side4 ?side5 ?side6 ?side7 ?side8 A6.out).mono ?_); (case side1 => exact cz (Kd.C_below HR0_0.out HB.out)); (case side2 => exact HC0_0.out); (case side3 => exact cz (Kd.C_below HR0_1.out HB.out)); (case side4 => exact HC0_1.out); (case side5 => exact cz (Kd.C_below HR0_2.out HB.out)); (case side6 => exact HC0_2.out); (case side7 => exact cz (Kd.C_below HR0_3.out HB.out)); (case side8 => exact HC0_3.out); rintro e w18 ⟨rfl, hb⟩; replace BK366 := Aside0.mk (blk_below (kz BK366.out) hb); replace BK367 := Aside0.mk (blk_below (kz BK367.out) hb); replace HB := Aside0.mk (below_step (bz2 HB.out GE366.out GE367.out) hb); (try clear hb); (try clear hi)) | (go_at_call 42; (with_reducible refine (impl_in.calls a2 0 8 true _ A8.out).mono ?_); rintro e w' ⟨rfl, ⟨nd, rfl⟩⟩; obtain ⟨hcz19_0, hcz19_1⟩ := cz2 BK367.out; obtain ⟨hfz19_0, hfz19_1⟩ := fz2 BK367.out) | ((with_reducible refine gate_callee (f := 48) rfl ?_); refine goesL_ (some 23) rfl rfl Tryd.func48 (by kernel_rfl) rfl #[.pointer (some ⟨gb366, 0, none⟩), .agg #[.int .i64 a1_0, .int .i64 a1_1], .int .i64 a2] rfl lz ?_; (with_reducible refine (impl_Heap_show.calls k A0_0 c0_0 l0_0 A0_1 c0_1 l0_1 A0_2 c0_2 l0_2 A0_3 c0_3 l0_3 a1_0 a1_1 a2 t371 _ ?side1 ?side2 ?side3 ?side4 ?side5 ?side6 ?side7 ?side8 gb366 ?capside A10.out ?hT_).mono ?_); (case hT_ => exact PW.below hT_ (bz2 HB.out GE366.out GE367.out)); (case capside => refine kq ?_; exact BK366.out); (case side1 => exact cz (Kd.C_below HR0_0.out (bz2 HB.out GE366.out GE367.out))); (case side2 => exact HC0_0.out); (case side3 => exact cz (Kd.C_below HR0_1.out (bz2 HB.out GE366.out GE367.out))); (case side4 => exact HC0_1.out); (case side5 => exact cz (Kd.C_below HR0_2.out (bz2 HB.out GE366.out GE367.out))); (case side6 => exact HC0_2.out); (case side7 => exact cz (Kd.C_below HR0_3.out (bz2 HB.out GE366.out GE367.out))); (case side8 => exact HC0_3.out); rintro e w20 ⟨rfl, hb⟩; refine ⟨_, rfl, ?_⟩; replace BK366 := Aside0.mk (blk_below (kz BK366.out) hb); replace BK367 := Aside0.mk (blk_below (kz BK367.out) hb); replace HB := Aside0.mk (below_step (bz2 HB.out GE366.out GE367.out) hb); (try clear hb); (try clear hi)))
    go_ret
    exact ⟨gz, (bz2 HB.out GE366.out GE367.out)⟩
   ·replace c9 := Bool.eq_false_iff.mpr c9
    subst c9
    have H1 := hq H
    clear H
    have H := H1
    clear H1
    obtain rfl := Option.some.inj H
    go_enter Tryd.func16, Tryd.ntmps16
    go_wp2_with (first | ((with_reducible refine gate_dst (N := 3) rfl ?_); refine box_event ?hg (N := 3) ?hd (cs := #[.slice A0_0 l0_0.length c0_0, .slice A0_1 l0_1.length c0_1, .slice A0_2 l0_2.length c0_2, .slice A0_3 l0_3.length c0_3]) (t := 29) ?hr ?_; (case hd => rfl); (case hg => rfl); (case hr => exact vz); intro gb366 hg w21 hbox hb; have BK366 := Aside0.mk (hbox); have GW366 := Aside0.mk ((by rw [hg]; exact (below_size (bz0 HB.out)) : w.heap.size <= gb366)); have GE366 := GW366; replace HB := Aside0.mk (below_step (bz0 HB.out) hb); clear hb hbox hg) | ((with_reducible refine gate_dst (N := 4) rfl ?_); refine box_event ?hg (N := 4) ?hd (cs := #[.int .i64 a1_0, .int .i64 a1_1]) (t := 35) ?hr ?_; (case hd => rfl); (case hg => rfl); (case hr => exact vz); intro gb367 hg w22 hbox hb; have BK367 := Aside0.mk (hbox); have GW367 := Aside0.mk ((by rw [hg]; exact (below_size (bz1 HB.out GE366.out)) : w.heap.size <= gb367)); have GE367 := GW367; replace HB := Aside0.mk (below_step (bz1 HB.out GE366.out) hb); have NB366_367 := Aside0.mk ((by rw [hg]; exact Nat.ne_of_lt (blk_lt (kz BK366.out)) : gb366 ≠ gb367)); have NB367_366 := Aside0.mk ((by rw [hg]; exact Nat.ne_of_gt (blk_lt (kz BK366.out)) : gb367 ≠ gb366)); replace BK366 := Aside0.mk (blk_below (kz BK366.out) hb); clear hb hbox hg; have hnb23 := NB366_367.out; have hnc23 := NB367_366.out; obtain ⟨hcz24_0, hcz24_1, hcz24_2, hcz24_3⟩ := cz4 BK366.out; obtain ⟨hfz24_0, hfz24_1, hfz24_2, hfz24_3⟩ := fz4 BK366.out) | ((with_reducible refine gate_callee (f := 41) rfl ?_); refine goesL_ (some 8) rfl rfl Tryd.func41 (by kernel_rfl) rfl #[.agg #[.slice A0_0 l0_0.length c0_0, .slice A0_1 l0_1.length c0_1, .slice A0_2 l0_2.length c0_2, .slice A0_3 l0_3.length c0_3]] rfl lz ?_; (with_reducible refine (impl_HeapOk.calls k _ _ l0_0 _ _ l0_1 _ _ l0_2 _ _ l0_3 true _ ?side1 ?side2 ?side3 ?side4 ?side5 ?side6 ?side7 ?side8 A4.out).mono ?_); (case side1 => exact cz (Kd.C_below HR0_0.out HB.out)); (case side2 => exact HC0_0.out); (case side3 => exact cz (Kd.C_below HR0_1.out HB.out)); (case side4 => exact HC0_1.out); (case side5 => exact cz (Kd.C_below HR0_2.out HB.out)); (case side6 => exact HC0_2.out); (case side7 => exact cz (Kd.C_below HR0_3.out HB.out)); (case side8 => exact HC0_3.out); rintro e w25 ⟨rfl, hb⟩; refine ⟨_, rfl, ?_⟩; replace BK366 := Aside0.mk (blk_below (kz BK366.out) hb); replace BK367 := Aside0.mk (blk_below (kz BK367.out) hb); replace HB := Aside0.mk (below_step (bz2 HB.out GE366.out GE367.out) hb); (try clear hb); obtain ⟨hcz26_0, hcz26_1, hcz26_2, hcz26_3⟩ := cz4 BK366.out; obtain ⟨hfz26_0, hfz26_1, hfz26_2, hfz26_3⟩ := fz4 BK366.out; obtain ⟨hcz27_0, hcz27_1⟩ := cz2 BK367.out; obtain ⟨hfz27_0, hfz27_1⟩ := fz2 BK367.out) | (go_at_call 13; (with_reducible refine (impl_ValOk.calls k _ _ l0_0 _ _ l0_1 _ _ l0_2 _ _ l0_3 a1_0 a1_1 true _ ?side1 ?side2 ?side3 ?side4 ?side5 ?side6 ?side7 ?side8 A6.out).mono ?_); (case side1 => exact cz (Kd.C_below HR0_0.out HB.out)); (case side2 => exact HC0_0.out); (case side3 => exact cz (Kd.C_below HR0_1.out HB.out)); (case side4 => exact HC0_1.out); (case side5 => exact cz (Kd.C_below HR0_2.out HB.out)); (case side6 => exact HC0_2.out); (case side7 => exact cz (Kd.C_below HR0_3.out HB.out)); (case side8 => exact HC0_3.out); rintro e w28 ⟨rfl, hb⟩; replace BK366 := Aside0.mk (blk_below (kz BK366.out) hb); replace BK367 := Aside0.mk (blk_below (kz BK367.out) hb); replace HB := Aside0.mk (below_step (bz2 HB.out GE366.out GE367.out) hb); (try clear hb); (try clear hi)) | (go_at_call 42; (with_reducible refine (impl_in.calls a2 0 8 false _ A8.out).mono ?_); rintro e w' ⟨rfl, ⟨nd, rfl⟩⟩))
    go_ret
    exact ⟨gz, (bz2 HB.out GE366.out GE367.out)⟩
  ·replace c7 := Bool.eq_false_iff.mpr c7
   subst c7
   have H1 := hq H
   clear H
   have H := H1
   clear H1
   obtain rfl := Option.some.inj H
   go_enter Tryd.func16, Tryd.ntmps16
   go_wp2_with (first | ((with_reducible refine gate_dst (N := 3) rfl ?_); refine box_event ?hg (N := 3) ?hd (cs := #[.slice A0_0 l0_0.length c0_0, .slice A0_1 l0_1.length c0_1, .slice A0_2 l0_2.length c0_2, .slice A0_3 l0_3.length c0_3]) (t := 29) ?hr ?_; (case hd => rfl); (case hg => rfl); (case hr => exact vz); intro gb366 hg w29 hbox hb; have BK366 := Aside0.mk (hbox); have GW366 := Aside0.mk ((by rw [hg]; exact (below_size (bz0 HB.out)) : w.heap.size <= gb366)); have GE366 := GW366; replace HB := Aside0.mk (below_step (bz0 HB.out) hb); clear hb hbox hg) | ((with_reducible refine gate_dst (N := 4) rfl ?_); refine box_event ?hg (N := 4) ?hd (cs := #[.int .i64 a1_0, .int .i64 a1_1]) (t := 35) ?hr ?_; (case hd => rfl); (case hg => rfl); (case hr => exact vz); intro gb367 hg w30 hbox hb; have BK367 := Aside0.mk (hbox); have GW367 := Aside0.mk ((by rw [hg]; exact (below_size (bz1 HB.out GE366.out)) : w.heap.size <= gb367)); have GE367 := GW367; replace HB := Aside0.mk (below_step (bz1 HB.out GE366.out) hb); have NB366_367 := Aside0.mk ((by rw [hg]; exact Nat.ne_of_lt (blk_lt (kz BK366.out)) : gb366 ≠ gb367)); have NB367_366 := Aside0.mk ((by rw [hg]; exact Nat.ne_of_gt (blk_lt (kz BK366.out)) : gb367 ≠ gb366)); replace BK366 := Aside0.mk (blk_below (kz BK366.out) hb); clear hb hbox hg; have hnb31 := NB366_367.out; have hnc31 := NB367_366.out; obtain ⟨hcz32_0, hcz32_1, hcz32_2, hcz32_3⟩ := cz4 BK366.out; obtain ⟨hfz32_0, hfz32_1, hfz32_2, hfz32_3⟩ := fz4 BK366.out) | ((with_reducible refine gate_callee (f := 41) rfl ?_); refine goesL_ (some 8) rfl rfl Tryd.func41 (by kernel_rfl) rfl #[.agg #[.slice A0_0 l0_0.length c0_0, .slice A0_1 l0_1.length c0_1, .slice A0_2 l0_2.length c0_2, .slice A0_3 l0_3.length c0_3]] rfl lz ?_; (with_reducible refine (impl_HeapOk.calls k _ _ l0_0 _ _ l0_1 _ _ l0_2 _ _ l0_3 true _ ?side1 ?side2 ?side3 ?side4 ?side5 ?side6 ?side7 ?side8 A4.out).mono ?_); (case side1 => exact cz (Kd.C_below HR0_0.out HB.out)); (case side2 => exact HC0_0.out); (case side3 => exact cz (Kd.C_below HR0_1.out HB.out)); (case side4 => exact HC0_1.out); (case side5 => exact cz (Kd.C_below HR0_2.out HB.out)); (case side6 => exact HC0_2.out); (case side7 => exact cz (Kd.C_below HR0_3.out HB.out)); (case side8 => exact HC0_3.out); rintro e w33 ⟨rfl, hb⟩; refine ⟨_, rfl, ?_⟩; replace BK366 := Aside0.mk (blk_below (kz BK366.out) hb); replace BK367 := Aside0.mk (blk_below (kz BK367.out) hb); replace HB := Aside0.mk (below_step (bz2 HB.out GE366.out GE367.out) hb); (try clear hb); obtain ⟨hcz34_0, hcz34_1, hcz34_2, hcz34_3⟩ := cz4 BK366.out; obtain ⟨hfz34_0, hfz34_1, hfz34_2, hfz34_3⟩ := fz4 BK366.out; obtain ⟨hcz35_0, hcz35_1⟩ := cz2 BK367.out; obtain ⟨hfz35_0, hfz35_1⟩ := fz2 BK367.out) | (go_at_call 13; (with_reducible refine (impl_ValOk.calls k _ _ l0_0 _ _ l0_1 _ _ l0_2 _ _ l0_3 a1_0 a1_1 false _ ?side1 ?side2 ?side3 ?side4 ?side5 ?side6 ?side7 ?side8 A6.out).mono ?_); (case side1 => exact cz (Kd.C_below HR0_0.out HB.out)); (case side2 => exact HC0_0.out); (case side3 => exact cz (Kd.C_below HR0_1.out HB.out)); (case side4 => exact HC0_1.out); (case side5 => exact cz (Kd.C_below HR0_2.out HB.out)); (case side6 => exact HC0_2.out); (case side7 => exact cz (Kd.C_below HR0_3.out HB.out)); (case side8 => exact HC0_3.out); rintro e w36 ⟨rfl, hb⟩; replace BK366 := Aside0.mk (blk_below (kz BK366.out) hb); replace BK367 := Aside0.mk (blk_below (kz BK367.out) hb); replace HB := Aside0.mk (below_step (bz2 HB.out GE366.out GE367.out) hb); (try clear hb); (try clear hi)))
   go_ret
   exact ⟨gz, (bz2 HB.out GE366.out GE367.out)⟩
 ·replace c5 := Bool.eq_false_iff.mpr c5
  subst c5
  have H1 := hq H
  clear H
  have H := H1
  clear H1
  obtain rfl := Option.some.inj H
  go_enter Tryd.func16, Tryd.ntmps16
  go_wp2_with (first | ((with_reducible refine gate_dst (N := 3) rfl ?_); refine box_event ?hg (N := 3) ?hd (cs := #[.slice A0_0 l0_0.length c0_0, .slice A0_1 l0_1.length c0_1, .slice A0_2 l0_2.length c0_2, .slice A0_3 l0_3.length c0_3]) (t := 29) ?hr ?_; (case hd => rfl); (case hg => rfl); (case hr => exact vz); intro gb366 hg w37 hbox hb; have BK366 := Aside0.mk (hbox); have GW366 := Aside0.mk ((by rw [hg]; exact (below_size (bz0 HB.out)) : w.heap.size <= gb366)); have GE366 := GW366; replace HB := Aside0.mk (below_step (bz0 HB.out) hb); clear hb hbox hg) | ((with_reducible refine gate_dst (N := 4) rfl ?_); refine box_event ?hg (N := 4) ?hd (cs := #[.int .i64 a1_0, .int .i64 a1_1]) (t := 35) ?hr ?_; (case hd => rfl); (case hg => rfl); (case hr => exact vz); intro gb367 hg w38 hbox hb; have BK367 := Aside0.mk (hbox); have GW367 := Aside0.mk ((by rw [hg]; exact (below_size (bz1 HB.out GE366.out)) : w.heap.size <= gb367)); have GE367 := GW367; replace HB := Aside0.mk (below_step (bz1 HB.out GE366.out) hb); have NB366_367 := Aside0.mk ((by rw [hg]; exact Nat.ne_of_lt (blk_lt (kz BK366.out)) : gb366 ≠ gb367)); have NB367_366 := Aside0.mk ((by rw [hg]; exact Nat.ne_of_gt (blk_lt (kz BK366.out)) : gb367 ≠ gb366)); replace BK366 := Aside0.mk (blk_below (kz BK366.out) hb); clear hb hbox hg; have hnb39 := NB366_367.out; have hnc39 := NB367_366.out; obtain ⟨hcz40_0, hcz40_1, hcz40_2, hcz40_3⟩ := cz4 BK366.out; obtain ⟨hfz40_0, hfz40_1, hfz40_2, hfz40_3⟩ := fz4 BK366.out) | ((with_reducible refine gate_callee (f := 41) rfl ?_); refine goesL_ (some 8) rfl rfl Tryd.func41 (by kernel_rfl) rfl #[.agg #[.slice A0_0 l0_0.length c0_0, .slice A0_1 l0_1.length c0_1, .slice A0_2 l0_2.length c0_2, .slice A0_3 l0_3.length c0_3]] rfl lz ?_; (with_reducible refine (impl_HeapOk.calls k _ _ l0_0 _ _ l0_1 _ _ l0_2 _ _ l0_3 false _ ?side1 ?side2 ?side3 ?side4 ?side5 ?side6 ?side7 ?side8 A4.out).mono ?_); (case side1 => exact cz (Kd.C_below HR0_0.out HB.out)); (case side2 => exact HC0_0.out); (case side3 => exact cz (Kd.C_below HR0_1.out HB.out)); (case side4 => exact HC0_1.out); (case side5 => exact cz (Kd.C_below HR0_2.out HB.out)); (case side6 => exact HC0_2.out); (case side7 => exact cz (Kd.C_below HR0_3.out HB.out)); (case side8 => exact HC0_3.out); rintro e w41 ⟨rfl, hb⟩; refine ⟨_, rfl, ?_⟩; replace BK366 := Aside0.mk (blk_below (kz BK366.out) hb); replace BK367 := Aside0.mk (blk_below (kz BK367.out) hb); replace HB := Aside0.mk (below_step (bz2 HB.out GE366.out GE367.out) hb); (try clear hb); (try clear hi)))
  go_ret
  exact ⟨gz, (bz2 HB.out GE366.out GE367.out)⟩
def laws_map2.f (a0 : Int) : Option (ByteArray) := if a0 = 3 then (some (⟨#[40, 112, 97, 105, 114, 32]⟩ : ByteArray)) else (some (⟨#[40, 99, 111, 110, 115, 32]⟩ : ByteArray))
set_option maxHeartbeats 80000000 in
set_option maxRecDepth 100000 in
theorem laws_map2.calls (a0 : Int) (r : ByteArray) (w : World) (h : laws_map2.f a0 = some r) :
  Calls Tryd.prog 19 #[.int .i64 a0] w fun e w' => e = .returned (.string r) /\ Drawn0 w w' := by
 have H : (if a0 = 3 then (some (⟨#[40, 112, 97, 105, 114, 32]⟩ : ByteArray)) else (some (⟨#[40, 99, 111, 110, 115, 32]⟩ : ByteArray))) = some r := h
 clear h
 by_cases c2 : a0 = 3
 ·rw [if_pos c2] at H
  have c2b0 : (a0 == 3) = true := beq_iff_eq.mpr c2
  have c2b1 : (a0 != 3) = false := bne_eq_false_iff_eq.mpr c2
  clear c2
  obtain rfl := Option.some.inj H
  go_enter Tryd.func19, Tryd.ntmps19
  go_wp2
  go_ret
  exact ⟨e2z, dz⟩
 ·rw [if_neg c2] at H
  have c2b0 : (a0 == 3) = false := beq_eq_false_iff_ne.mpr c2
  have c2b1 : (a0 != 3) = true := bne_iff_ne.mpr c2
  obtain rfl := Option.some.inj H
  go_enter Tryd.func19, Tryd.ntmps19
  go_wp2
  go_ret
  exact ⟨e2z, dz⟩
end Go.Proofs.YtlhofeikcaejpaaDoor.PFnValues
