/- PFnExactShowValx3, of the words and walks that the law FnExactShowVal needs; made by this session's program out of printed texts. -/

import Derived.Test.YtlhofeikcaejpaaDoorVEShowValPx0
import Derived.Test.YtlhofeikcaejpaaDoorVEShowValPx1
import Derived.Test.YtlhofeikcaejpaaDoorVEShowValPx2
namespace Go.Proofs.YtlhofeikcaejpaaDoor.PFnExactShowVal
open Go.RowKit Go.Proofs.YtlhofeikcaejpaaDoorW.PrintWords Go.Proofs.YtlhofeikcaejpaaDoorW.PrintLast Go.Proofs.YtlhofeikcaejpaaDoorW.PrintMore
attribute [local go_sem] max2_int min2_int max_two min_two max_three min_three max_four min_four
set_option linter.unusedVariables false
set_option linter.unusedSimpArgs false
def strconv_Itoa_49.f (a0 : Int) : Option (ByteArray) := if -9223372036854775808 <= a0 then (if a0 <= 9223372036854775807 then (some (⟨(Lib.itoa a0).toArray⟩ : ByteArray)) else (none)) else (none)
theorem strconv_Itoa_49.calls (a0 : Int) (r : ByteArray) (w : World) (h : strconv_Itoa_49.f a0 = some r) (hT_ : PW w) :
  Calls Tryd.prog 49 #[.int .i64 a0] w fun e w' => e = .returned (.string r) /\ Below w.heap.size w w' := by
 unfold strconv_Itoa_49.f at h
 split at h
 ·split at h
  ·rename_i h0 h1
   obtain rfl := Option.some.inj h
   exact (Tryd.strconv_Itoa a0 h0 h1 w hT_).mono fun e w' ⟨h1, n, os, h2⟩ => ⟨h1, by rw [h2]; exact below_grow _ _ _⟩
  ·cases h
 ·cases h
def impl_Dec.f (a0 : Int) : Option (ByteArray) := (strconv_Itoa_49.f a0).bind fun t122 => (some t122)
set_option maxHeartbeats 8000000 in
set_option maxRecDepth 100000 in
theorem impl_Dec.calls (a0 : Int) (r : ByteArray) (w : World) (h : impl_Dec.f a0 = some r) (hT_ : PW w) :
  Calls Tryd.prog 18 #[.int .i64 a0] w fun e w' => e = .returned (.string r) /\ Below w.heap.size w w' := by
 have HB := Aside0.mk (Below.refl w.heap.size w)
 have H : ((strconv_Itoa_49.f a0).bind fun t122 => (some t122)) = some r := h
 clear h
 replace H := bi H
 obtain ⟨t122, A20, H⟩ := H
 try dsimp only at H
 have A2 := Aside0.mk A20
 clear A20
 obtain rfl := Option.some.inj H
 go_enter Tryd.func18, Tryd.ntmps18
 go_wp2_with (first | ((with_reducible refine gate_callee (f := 49) rfl ?_); refine goesL_ (some 4) rfl rfl Tryd.func49 (by kernel_rfl) rfl #[.int .i64 a0] rfl lz ?_; (with_reducible refine (strconv_Itoa_49.calls a0 t122 _ A2.out ?hT_).mono ?_); (case hT_ => exact PW.below hT_ (bz0 HB.out)); rintro e w3 ⟨rfl, hb⟩; refine ⟨_, rfl, ?_⟩; replace HB := Aside0.mk (below_step (bz0 HB.out) hb); (try clear hb); (try clear hi)))
 go_ret
 exact ⟨gz, (bz0 HB.out)⟩
mutual
def impl_Heap_show.j0 : Nat -> Int -> ByteArray -> List (S41) -> List (S86) -> List (S47) -> List (S35) -> Int -> Int -> Option (ByteArray)
 | 0, _, _, _, _, _, _, _, _ => none
 | k + 1, x2, x7, x124000, x124001, x124002, x124003, x125000, x125001 => if x2 = 0 then (some (⟨#[95]⟩ : ByteArray)) else (if 0 <= x125001 then (if x125001 < (x124002.length : Int) then (if 1 + x7.size <= 9223372036854775807 then (if ((⟨#[40]⟩ : ByteArray) ++ x7).size + 1 <= 9223372036854775807 then ((impl_Heap_show.f k x124000 x124001 x124002 x124003 ((rd_T47 x124002 x125001).f0.f0) ((rd_T47 x124002 x125001).f0.f1) (wrap64 (x2 - 1))).bind fun t128 => (if (((⟨#[40]⟩ : ByteArray) ++ x7) ++ (⟨#[32]⟩ : ByteArray)).size + t128.size <= 9223372036854775807 then (if ((((⟨#[40]⟩ : ByteArray) ++ x7) ++ (⟨#[32]⟩ : ByteArray)) ++ t128).size + 1 <= 9223372036854775807 then ((impl_Heap_show.f k x124000 x124001 x124002 x124003 ((rd_T47 x124002 x125001).f1.f0) ((rd_T47 x124002 x125001).f1.f1) (wrap64 (x2 - 1))).bind fun t129 => (if (((((⟨#[40]⟩ : ByteArray) ++ x7) ++ (⟨#[32]⟩ : ByteArray)) ++ t128) ++ (⟨#[32]⟩ : ByteArray)).size + t129.size <= 9223372036854775807 then (if ((((((⟨#[40]⟩ : ByteArray) ++ x7) ++ (⟨#[32]⟩ : ByteArray)) ++ t128) ++ (⟨#[32]⟩ : ByteArray)) ++ t129).size + 1 <= 9223372036854775807 then (some (((((((⟨#[40]⟩ : ByteArray) ++ x7) ++ (⟨#[32]⟩ : ByteArray)) ++ t128) ++ (⟨#[32]⟩ : ByteArray)) ++ t129) ++ (⟨#[41]⟩ : ByteArray))) else (none)) else (none))) else (none)) else (none))) else (none)) else (none)) else (none)) else (none))
def impl_Heap_show.f : Nat -> List (S41) -> List (S86) -> List (S47) -> List (S35) -> Int -> Int -> Int -> Option (ByteArray)
 | 0, _, _, _, _, _, _, _ => none
 | k + 1, l0_0, l0_1, l0_2, l0_3, a1_0, a1_1, a2 => if a1_0 = 0 then ((impl_Dec.f a1_1).bind fun t125 => (some t125)) else (if a1_0 = 1 then (some (⟨#[102, 117, 110]⟩ : ByteArray)) else (if a1_0 = 2 then (some (⟨#[110, 105, 108]⟩ : ByteArray)) else (if a1_0 = 5 then (some (⟨#[114, 101, 102]⟩ : ByteArray)) else (if a1_0 = 4 then (impl_Heap_show.j0 k a2 (⟨#[99, 111, 110, 115]⟩ : ByteArray) l0_0 l0_1 l0_2 l0_3 a1_0 a1_1) else (impl_Heap_show.j0 k a2 (⟨#[112, 97, 105, 114]⟩ : ByteArray) l0_0 l0_1 l0_2 l0_3 a1_0 a1_1)))))
end
theorem impl_Heap_show.mono_l : ∀ k, (∀ y0 y1 y2 y3 y4 y5 y6, LeO (impl_Heap_show.f k y0 y1 y2 y3 y4 y5 y6) (impl_Heap_show.f (k + 1) y0 y1 y2 y3 y4 y5 y6)) /\ (∀ y0 y1 y2 y3 y4 y5 y6 y7, LeO (impl_Heap_show.j0 k y0 y1 y2 y3 y4 y5 y6 y7) (impl_Heap_show.j0 (k + 1) y0 y1 y2 y3 y4 y5 y6 y7))
 | 0 => ⟨fun _ _ _ _ _ _ _ r h => by simp [impl_Heap_show.f] at h, fun _ _ _ _ _ _ _ _ r h => by simp [impl_Heap_show.j0] at h⟩
 | k + 1 => by
  obtain ⟨ih0, ih1⟩ := impl_Heap_show.mono_l k
  refine ⟨?_, ?_⟩
  ·intro y0 y1 y2 y3 y4 y5 y6
   unfold impl_Heap_show.f
   with_reducible repeat' first | exact ih0 _ _ _ _ _ _ _ | exact ih1 _ _ _ _ _ _ _ _ | exact lrz _ | exact lnz _ | refine liz ?_ ?_ | refine lbz ?_ fun _ => ?_
  ·intro y0 y1 y2 y3 y4 y5 y6 y7
   unfold impl_Heap_show.j0
   with_reducible repeat' first | exact ih0 _ _ _ _ _ _ _ | exact ih1 _ _ _ _ _ _ _ _ | exact lrz _ | exact lnz _ | refine liz ?_ ?_ | refine lbz ?_ fun _ => ?_
theorem impl_Heap_show.mono : ∀ a0 a1 a2 a3 a4 a5 a6 k, LeO (impl_Heap_show.f k a0 a1 a2 a3 a4 a5 a6) (impl_Heap_show.f (k + 1) a0 a1 a2 a3 a4 a5 a6) := by
 intro a0 a1 a2 a3 a4 a5 a6 k
 obtain ⟨ih0, ih1⟩ := impl_Heap_show.mono_l k
 exact ih0 a0 a1 a2 a3 a4 a5 a6
def impl_Heap_show.T15 : Bool × List (List Nat × List Nat) := (true, [([], []), ([0], [0]), ([1], [1]), ([2], [2]), ([], []), ([4], [4]), ([3, 5], [3, 5]), ([6], [6]), ([], []), ([8, 7, 0, 1, 2, 3, 4, 5, 6, 7, 8], [7, 8])])
def impl_Heap_show.B15 : List Nat := [0, 1, 3, 7, 0, 16, 63, 127, 0, 511]
theorem impl_Heap_show.tab15 : rtab .any (opsOf Tryd.f48 15) = impl_Heap_show.T15 := by kernel_rfl
theorem impl_Heap_show.bits15 : waitsOk impl_Heap_show.T15.2 impl_Heap_show.B15 = true := by kernel_rfl
def impl_Heap_show.T16 : Bool × List (List Nat × List Nat) := (true, [([], []), ([0], [0]), ([1], [1]), ([], []), ([], []), ([4], [4]), ([], []), ([6], [6]), ([3, 5, 7], [3, 5, 7]), ([2, 8], [2, 8]), ([9], [9]), ([], []), ([], []), ([12], [12]), ([], []), ([14], [14]), ([11, 13, 15, 8], [11, 13, 15]), ([10, 16], [10, 16]), ([17], [17]), ([18, 16, 0, 1, 2, 3, 4, 5, 6, 7, 8, 9, 10, 11, 12, 13, 14, 15, 16, 17, 18], [18])])
def impl_Heap_show.B16 : List Nat := [0, 1, 3, 0, 0, 16, 0, 64, 248, 511, 1023, 0, 0, 4096, 0, 16384, 63992, 131071, 262143, 524287]
theorem impl_Heap_show.tab16 : rtab .any (opsOf Tryd.f48 16) = impl_Heap_show.T16 := by kernel_rfl
theorem impl_Heap_show.bits16 : waitsOk impl_Heap_show.T16.2 impl_Heap_show.B16 = true := by kernel_rfl
set_option maxHeartbeats 8000000 in
set_option maxRecDepth 100000 in
theorem impl_Heap_show.calls (k : Nat) : ∀ (A0_0 : Option Addr) (c0_0 : Nat) (l0_0 : List (S41)) (A0_1 : Option Addr) (c0_1 : Nat) (l0_1 : List (S86)) (A0_2 : Option Addr) (c0_2 : Nat) (l0_2 : List (S47)) (A0_3 : Option Addr) (c0_3 : Nat) (l0_3 : List (S35)) (a1_0 : Int) (a1_1 : Int) (a2 : Int) (r : ByteArray) (w : World) (hr0_0 : Kd.C k41 w A0_0 l0_0.length l0_0) (hc0_0 : l0_0.length <= c0_0) (hr0_1 : Kd.C k86 w A0_1 l0_1.length l0_1) (hc0_1 : l0_1.length <= c0_1) (hr0_2 : Kd.C k47 w A0_2 l0_2.length l0_2) (hc0_2 : l0_2.length <= c0_2) (hr0_3 : Kd.C k35 w A0_3 l0_3.length l0_3) (hc0_3 : l0_3.length <= c0_3) (gb123 : Nat) (hcap : w.heap[gb123]? = some (.cells #[.slice A0_0 l0_0.length c0_0, .slice A0_1 l0_1.length c0_1, .slice A0_2 l0_2.length c0_2, .slice A0_3 l0_3.length c0_3] 29 (0, 0))) (h : impl_Heap_show.f k l0_0 l0_1 l0_2 l0_3 a1_0 a1_1 a2 = some r) (hT_ : PW w),
  Calls Tryd.prog 48 #[.pointer (some ⟨gb123, 0, none⟩), .agg #[.int .i64 a1_0, .int .i64 a1_1], .int .i64 a2] w fun e w' => e = .returned (.string r) /\ Below w.heap.size w w' := by
 induction k using Nat.strongRecOn with
 | _ k ih =>
 intro A0_0 c0_0 l0_0 A0_1 c0_1 l0_1 A0_2 c0_2 l0_2 A0_3 c0_3 l0_3 a1_0 a1_1 a2 r w hr0_0 hc0_0 hr0_1 hc0_1 hr0_2 hc0_2 hr0_3 hc0_3 gb123 hcap h hT_
 cases k with
 | zero => exact absurd h (by simp [impl_Heap_show.f])
 | succ k =>
 simp only [impl_Heap_show.f] at h
 have hu29 := Tryd.underlying29
 have hu35 := Tryd.underlying35
 have hu47 := Tryd.underlying47
 have HR0_0 := Aside0.mk hr0_0
 have HC0_0 := Aside0.mk hc0_0
 clear hr0_0 hc0_0
 have HR0_1 := Aside0.mk hr0_1
 have HC0_1 := Aside0.mk hc0_1
 clear hr0_1 hc0_1
 have HR0_2 := Aside0.mk hr0_2
 have HC0_2 := Aside0.mk hc0_2
 clear hr0_2 hc0_2
 have HR0_3 := Aside0.mk hr0_3
 have HC0_3 := Aside0.mk hc0_3
 clear hr0_3 hc0_3
 have HB := Aside0.mk (Below.refl w.heap.size w)
 have BK123 := Aside0.mk hcap
 clear hcap
 have H : (if a1_0 = 0 then ((impl_Dec.f a1_1).bind fun t125 => (some t125)) else (if a1_0 = 1 then (some (⟨#[102, 117, 110]⟩ : ByteArray)) else (if a1_0 = 2 then (some (⟨#[110, 105, 108]⟩ : ByteArray)) else (if a1_0 = 5 then (some (⟨#[114, 101, 102]⟩ : ByteArray)) else (if a1_0 = 4 then (impl_Heap_show.j0 k a2 (⟨#[99, 111, 110, 115]⟩ : ByteArray) l0_0 l0_1 l0_2 l0_3 a1_0 a1_1) else (impl_Heap_show.j0 k a2 (⟨#[112, 97, 105, 114]⟩ : ByteArray) l0_0 l0_1 l0_2 l0_3 a1_0 a1_1)))))) = some r := h
 clear h
 have HC4 := Aside0.mk H
 clear H
 go_enter Tryd.func48, Tryd.ntmps48
 go_upto_block 0 with (first | ((with_reducible refine gate_dst (N := 4) rfl ?_); refine box_event ?hg (N := 4) ?hd (cs := #[.int .i64 a1_0, .int .i64 a1_1]) (t := 35) ?hr ?_; (case hd => rfl); (case hg => rfl); (case hr => exact vz); intro gb124 hg w6 hbox hb; have BK124 := Aside0.mk (hbox); have GW124 := Aside0.mk ((by rw [hg]; exact (below_size (bz0 HB.out)) : w.heap.size <= gb124)); have GE124 := Aside0.mk ((by rw [hg]; exact (below_size (bz0 HB.out)) : w.heap.size <= gb124)); replace HB := Aside0.mk (below_step (bz0 HB.out) hb); have NB123_124 := Aside0.mk ((by rw [hg]; exact Nat.ne_of_lt (blk_lt (g := gb123) (o := .cells #[.slice A0_0 l0_0.length c0_0, .slice A0_1 l0_1.length c0_1, .slice A0_2 l0_2.length c0_2, .slice A0_3 l0_3.length c0_3] 29 (0, 0)) (kz BK123.out)) : gb123 ≠ gb124)); have NB124_123 := Aside0.mk ((by rw [hg]; exact Nat.ne_of_gt (blk_lt (g := gb123) (o := .cells #[.slice A0_0 l0_0.length c0_0, .slice A0_1 l0_1.length c0_1, .slice A0_2 l0_2.length c0_2, .slice A0_3 l0_3.length c0_3] 29 (0, 0)) (kz BK123.out)) : gb124 ≠ gb123)); replace BK123 := Aside0.mk (blk_below (kz BK123.out) hb); clear hb hbox hg; have hnb7 := NB124_123.out; have hnc7 := NB123_124.out; obtain ⟨hcz8_0, hcz8_1⟩ := cz2 BK124.out; obtain ⟨hfz8_0, hfz8_1⟩ := fz2 BK124.out))
 (try simp only [Act.put, sz1, sz2, sz3])
 go_cut [7] (fun v7 wc => ∃ (kq : Nat) (x7_3 : ByteArray), v7 = .string x7_3 /\ Aside0 (impl_Heap_show.j0 kq a2 x7_3 l0_0 l0_1 l0_2 l0_3 a1_0 a1_1 = some r) /\ Aside0 (kq <= k) /\ Aside0 (wc.heap[gb123]? = some (.cells #[(.slice A0_0 l0_0.length c0_0), (.slice A0_1 l0_1.length c0_1), (.slice A0_2 l0_2.length c0_2), (.slice A0_3 l0_3.length c0_3)] 29 (0, 0))) /\ Aside0 (wc.heap[gb124]? = some (.cells #[.int .i64 a1_0, .int .i64 a1_1] 35 (0, 0))) /\ Aside0 (Below w.heap.size w wc))
 case first =>
  have H := HC4.out
  clear HC4
  by_cases c9 : a1_0 = 0
  ·rw [if_pos c9] at H
   have c9b0 : (a1_0 == 0) = true := beq_iff_eq.mpr c9
   have c9b1 : (a1_0 != 0) = false := bne_eq_false_iff_eq.mpr c9
   clear c9
   (first | rw [c9b0] | (simp only [i64_w, i32_w]; rw [c9b0]) | skip)
   replace H := bi H
   obtain ⟨t125, A100, H⟩ := H
   try dsimp only at H
   have A10 := Aside0.mk A100
   clear A100
   obtain rfl := Option.some.inj H
   have hnb11 := NB124_123.out
   have hnc11 := NB123_124.out
   obtain ⟨hcz12_0, hcz12_1⟩ := cz2 BK124.out
   obtain ⟨hfz12_0, hfz12_1⟩ := fz2 BK124.out
   go_wp2_with (first | ((with_reducible refine gate_callee (f := 18) rfl ?_); refine goesL_ (some 15) rfl rfl Tryd.func18 (by kernel_rfl) rfl #[.int .i64 a1_1] rfl lz ?_; (with_reducible refine (impl_Dec.calls a1_1 t125 _ A10.out ?hT_).mono ?_); (case hT_ => exact PW.below hT_ (bz1 HB.out GE124.out)); rintro e w13 ⟨rfl, hb⟩; refine ⟨_, rfl, ?_⟩; replace BK123 := Aside0.mk (blk_below (kz BK123.out) hb); replace BK124 := Aside0.mk (blk_below (kz BK124.out) hb); replace HB := Aside0.mk (below_step (bz1 HB.out GE124.out) hb); (try clear hb); (try clear hi)))
   go_ret
   exact ⟨gz, (bz1 HB.out GE124.out)⟩
  ·rw [if_neg c9] at H
   have c9b0 : (a1_0 == 0) = false := beq_eq_false_iff_ne.mpr c9
   have c9b1 : (a1_0 != 0) = true := bne_iff_ne.mpr c9
   (first | rw [c9b0] | (simp only [i64_w, i32_w]; rw [c9b0]) | skip)
   by_cases c14 : a1_0 = 1
   ·rw [if_pos c14] at H
    have c14b0 : (a1_0 == 1) = true := beq_iff_eq.mpr c14
    have c14b1 : (a1_0 != 1) = false := bne_eq_false_iff_eq.mpr c14
    clear c14
    obtain rfl := Option.some.inj H
    go_wp2
    go_ret
    exact ⟨gz, (bz1 HB.out GE124.out)⟩
   ·rw [if_neg c14] at H
    have c14b0 : (a1_0 == 1) = false := beq_eq_false_iff_ne.mpr c14
    have c14b1 : (a1_0 != 1) = true := bne_iff_ne.mpr c14
    by_cases c15 : a1_0 = 2
    ·rw [if_pos c15] at H
     have c15b0 : (a1_0 == 2) = true := beq_iff_eq.mpr c15
     have c15b1 : (a1_0 != 2) = false := bne_eq_false_iff_eq.mpr c15
     clear c15
     obtain rfl := Option.some.inj H
     go_wp2
     go_ret
     exact ⟨gz, (bz1 HB.out GE124.out)⟩
    ·rw [if_neg c15] at H
     have c15b0 : (a1_0 == 2) = false := beq_eq_false_iff_ne.mpr c15
     have c15b1 : (a1_0 != 2) = true := bne_iff_ne.mpr c15
     by_cases c16 : a1_0 = 5
     ·rw [if_pos c16] at H
      have c16b0 : (a1_0 == 5) = true := beq_iff_eq.mpr c16
      have c16b1 : (a1_0 != 5) = false := bne_eq_false_iff_eq.mpr c16
      clear c16
      obtain rfl := Option.some.inj H
      go_wp2
      go_ret
      exact ⟨gz, (bz1 HB.out GE124.out)⟩
     ·rw [if_neg c16] at H
      have c16b0 : (a1_0 == 5) = false := beq_eq_false_iff_ne.mpr c16
      have c16b1 : (a1_0 != 5) = true := bne_iff_ne.mpr c16
      by_cases c17 : a1_0 = 4
      ·rw [if_pos c17] at H
       have c17b0 : (a1_0 == 4) = true := beq_iff_eq.mpr c17
       have c17b1 : (a1_0 != 4) = false := bne_eq_false_iff_eq.mpr c17
       clear c17
       have H' := Aside0.mk H
       clear H
       go_wp2
       go_meet
       case rel => exact ⟨_, ((⟨#[99, 111, 110, 115]⟩ : ByteArray)), ez, H', ⟨by first | omega | exact Nat.le_refl _⟩, ⟨by refine kq ?_; exact BK123.out⟩, ⟨by refine kq ?_; exact BK124.out⟩, ⟨(bz1 HB.out GE124.out)⟩⟩
      ·rw [if_neg c17] at H
       have c17b0 : (a1_0 == 4) = false := beq_eq_false_iff_ne.mpr c17
       have c17b1 : (a1_0 != 4) = true := bne_iff_ne.mpr c17
       have H' := Aside0.mk H
       clear H
       go_wp2
       go_meet
       case rel => exact ⟨_, ((⟨#[112, 97, 105, 114]⟩ : ByteArray)), ez, H', ⟨by first | omega | exact Nat.le_refl _⟩, ⟨by refine kq ?_; exact BK123.out⟩, ⟨by refine kq ?_; exact BK124.out⟩, ⟨(bz1 HB.out GE124.out)⟩⟩
 case rest =>
  clear HC4
  try clear c1
  try clear p2
  try clear c4
  try clear c7
  try clear c9
  try clear c9b0
  try clear c9b1
  try clear c11
  try clear c14
  try clear c14b0
  try clear c14b1
  try clear c15
  try clear c15b0
  try clear c15b1
  try clear c16
  try clear c16b0
  try clear c16b1
  try clear c17
  try clear c17b0
  try clear c17b1
  try clear hcz12_0 hcz12_1
  try clear hcz8_0 hcz8_1
  try clear hfz12_0 hfz12_1
  try clear hfz8_0 hfz8_1
  obtain ⟨kq, x7_3, rfl, HA, HJ3, BK123, BK124, HB⟩ := hcut
  cases kq with
  | zero => exact absurd HA.out (by simp [impl_Heap_show.j0])
  | succ kj3 =>
   have H := HA.out
   clear HA
   simp only [impl_Heap_show.j0] at H
   by_cases c18 : a2 = 0
   ·rw [if_pos c18] at H
    have c18b0 : (a2 == 0) = true := beq_iff_eq.mpr c18
    have c18b1 : (a2 != 0) = false := bne_eq_false_iff_eq.mpr c18
    clear c18
    obtain rfl := Option.some.inj H
    go_wp2
    go_ret
    exact ⟨gz, (bz1 HB.out GE124.out)⟩
   ·rw [if_neg c18] at H
    have c18b0 : (a2 == 0) = false := beq_eq_false_iff_ne.mpr c18
    have c18b1 : (a2 != 0) = true := bne_iff_ne.mpr c18
    replace H := iz H
    obtain ⟨c19, H⟩ := H
    have c19b0 := decide_eq_true c19
    clear c19
    replace H := iz H
    obtain ⟨c20, H⟩ := H
    have c20b0 := decide_eq_true c20
    clear c20
    replace H := iz H
    obtain ⟨c21, H⟩ := H
    have c21b0 := eq_true c21
    have c21b1 : decide (1 + x7_3.size <= 9223372036854775807) = true := decide_eq_true c21
    try have c21b2 : (9223372036854775807 < 1 + x7_3.size) = False := eq_false (Nat.not_lt.2 c21)
    replace H := iz H
    obtain ⟨c22, H⟩ := H
    have c22b0 := eq_true c22
    have c22b1 : decide (((⟨#[40]⟩ : ByteArray) ++ x7_3).size + 1 <= 9223372036854775807) = true := decide_eq_true c22
    try have c22b2 : (9223372036854775807 < ((⟨#[40]⟩ : ByteArray) ++ x7_3).size + 1) = False := eq_false (Nat.not_lt.2 c22)
    (try (have c22b2z := c22b2; simp only [ByteArray.size_append, show (⟨#[40]⟩ : ByteArray).size = 1 from rfl] at c22b2z))
    replace H := bi H
    obtain ⟨t128, A230, H⟩ := H
    try dsimp only at H
    have A23 := Aside0.mk A230
    clear A230
    replace H := iz H
    obtain ⟨c24, H⟩ := H
    have c24b0 := eq_true c24
    have c24b1 : decide ((((⟨#[40]⟩ : ByteArray) ++ x7_3) ++ (⟨#[32]⟩ : ByteArray)).size + t128.size <= 9223372036854775807) = true := decide_eq_true c24
    try have c24b2 : (9223372036854775807 < (((⟨#[40]⟩ : ByteArray) ++ x7_3) ++ (⟨#[32]⟩ : ByteArray)).size + t128.size) = False := eq_false (Nat.not_lt.2 c24)
    (try (have c24b2z := c24b2; simp only [ByteArray.size_append, show (⟨#[32]⟩ : ByteArray).size = 1 from rfl, show (⟨#[40]⟩ : ByteArray).size = 1 from rfl] at c24b2z))
    replace H := iz H
    obtain ⟨c25, H⟩ := H
    have c25b0 := eq_true c25
    have c25b1 : decide (((((⟨#[40]⟩ : ByteArray) ++ x7_3) ++ (⟨#[32]⟩ : ByteArray)) ++ t128).size + 1 <= 9223372036854775807) = true := decide_eq_true c25
    try have c25b2 : (9223372036854775807 < ((((⟨#[40]⟩ : ByteArray) ++ x7_3) ++ (⟨#[32]⟩ : ByteArray)) ++ t128).size + 1) = False := eq_false (Nat.not_lt.2 c25)
    (try (have c25b2z := c25b2; simp only [ByteArray.size_append, show (⟨#[32]⟩ : ByteArray).size = 1 from rfl, show (⟨#[40]⟩ : ByteArray).size = 1 from rfl] at c25b2z))
    replace H := bi H
    obtain ⟨t129, A260, H⟩ := H
    try dsimp only at H
    have A26 := Aside0.mk A260
    clear A260
    replace H := iz H
    obtain ⟨c27, H⟩ := H
    have c27b0 := eq_true c27
    have c27b1 : decide ((((((⟨#[40]⟩ : ByteArray) ++ x7_3) ++ (⟨#[32]⟩ : ByteArray)) ++ t128) ++ (⟨#[32]⟩ : ByteArray)).size + t129.size <= 9223372036854775807) = true := decide_eq_true c27
    try have c27b2 : (9223372036854775807 < (((((⟨#[40]⟩ : ByteArray) ++ x7_3) ++ (⟨#[32]⟩ : ByteArray)) ++ t128) ++ (⟨#[32]⟩ : ByteArray)).size + t129.size) = False := eq_false (Nat.not_lt.2 c27)
    (try (have c27b2z := c27b2; simp only [ByteArray.size_append, show (⟨#[32]⟩ : ByteArray).size = 1 from rfl, show (⟨#[40]⟩ : ByteArray).size = 1 from rfl] at c27b2z))
    replace H := iz H
    obtain ⟨c28, H⟩ := H
    have c28b0 := eq_true c28
    have c28b1 : decide (((((((⟨#[40]⟩ : ByteArray) ++ x7_3) ++ (⟨#[32]⟩ : ByteArray)) ++ t128) ++ (⟨#[32]⟩ : ByteArray)) ++ t129).size + 1 <= 9223372036854775807) = true := decide_eq_true c28
    try have c28b2 : (9223372036854775807 < ((((((⟨#[40]⟩ : ByteArray) ++ x7_3) ++ (⟨#[32]⟩ : ByteArray)) ++ t128) ++ (⟨#[32]⟩ : ByteArray)) ++ t129).size + 1) = False := eq_false (Nat.not_lt.2 c28)
    (try (have c28b2z := c28b2; simp only [ByteArray.size_append, show (⟨#[32]⟩ : ByteArray).size = 1 from rfl, show (⟨#[40]⟩ : ByteArray).size = 1 from rfl] at c28b2z))
    obtain rfl := Option.some.inj H
    try go_wp2
    have n0_ := Aside0.mk (blk_drew BK123.out)
    have n1_ := Aside0.mk (blk_drew BK124.out)
    have n2_ := Aside0.mk (below_drew1 HB.out)
    clear BK123
    clear BK124
    clear HB
    have BK123 := n0_
    have BK124 := n1_
    have HB := n2_
    clear n0_ n1_ n2_
    have p126 : 0 <= (a1_1 : Int) := oz
    have q126 : a1_1 < (l0_2.length : Int) := oz
    obtain ⟨ad126, e126, hx126_0, hx126_1, hx126_2, hx126_3⟩ := at_T47 HR0_2.out a1_1 p126 q126
    have hw126_3 := hx126_3
    have hw126_2 := hx126_2
    have hw126_1 := hx126_1
    have hw126_0 := hx126_0
    cases e126
    replace hx126_0 := hz HB.out hx126_0
    replace hx126_1 := hz HB.out hx126_1
    replace hx126_2 := hz HB.out hx126_2
    replace hx126_3 := hz HB.out hx126_3
    replace p126 := eq_true p126
    replace q126 := eq_true q126
    refine start_ (n := 10) (S := fun w' => w'.cell? ⟨gb123, 0, none⟩ = some (.slice A0_0 l0_0.length c0_0) /\ w'.cell? ⟨gb123, 1, none⟩ = some (.slice A0_1 l0_1.length c0_1) /\ w'.cell? ⟨gb123, 2, none⟩ = some (.slice (some ad126) l0_2.length c0_2) /\ w'.cell? ⟨gb123, 3, none⟩ = some (.slice A0_3 l0_3.length c0_3) /\ w'.cell? ⟨gb124, 0, none⟩ = some (.int .i64 a1_0) /\ w'.cell? ⟨gb124, 1, none⟩ = some (.int .i64 a1_1) /\ w'.cell? (ad126.add ((a1_1).toNat * 4)) = some (.int .i64 ((rd_T47 l0_2 a1_1).f0.f0)) /\ w'.cell? ⟨(ad126.add ((a1_1).toNat * 4)).block, (ad126.add ((a1_1).toNat * 4)).off + 1, none⟩ = some (.int .i64 ((rd_T47 l0_2 a1_1).f0.f1)) /\ w'.cell? ⟨(ad126.add ((a1_1).toNat * 4)).block, (ad126.add ((a1_1).toNat * 4)).off + 2, none⟩ = some (.int .i64 ((rd_T47 l0_2 a1_1).f1.f0)) /\ w'.cell? ⟨(ad126.add ((a1_1).toNat * 4)).block, (ad126.add ((a1_1).toNat * 4)).off + 3, none⟩ = some (.int .i64 ((rd_T47 l0_2 a1_1).f1.f1))) (ds := []) #[ff, ff, ff, ff, ff, ff, ff, ff, ff, ff] (by kernel_rfl) rfl rfl ⟨(blk_cell BK123.out 0).trans rfl, (blk_cell BK123.out 1).trans rfl, (blk_cell BK123.out 2).trans rfl, (blk_cell BK123.out 3).trans rfl, (blk_cell BK124.out 0).trans rfl, (blk_cell BK124.out 1).trans rfl, (hz HB.out hw126_0 :), (hz HB.out hw126_1 :), (hz HB.out hw126_2 :), (hz HB.out hw126_3 :)⟩ (fun hHeld => ?_); refine with_tabW impl_Heap_show.tab15 impl_Heap_show.bits15 (fun HT_ HW_ => ?_)
    generalize wc.drew = w29 at BK123 BK124 HB hx126_0 hx126_1 hx126_2 hx126_3 hHeld ⊢
    refine pure_ (i := 0) (N := some 26) (v := ?_) (a' := ?_) #[tt, ff, ff, ff, ff, ff, ff, ff, ff, ff] rfl rfl (any_of HT_.out (by kernel_rfl)) (fun _ _ _ h => h) (Or.inl ⟨by rfl, ?_⟩) ?_ ?_
    rotate_left
    ·intro w'
     go_simp
     with_reducible rfl
    rotate_left
    ·simp only [Act.put, sz1, sz2, sz3, i64_w, i32_w]
     rfl
    refine pure_ (i := 1) (N := some 27) (v := ?_) (a' := ?_) #[tt, tt, ff, ff, ff, ff, ff, ff, ff, ff] rfl rfl (any_of HT_.out (by kernel_rfl)) (fun _ _ _ h => h) (Or.inl ⟨by rfl, ?_⟩) ?_ ?_
    rotate_left
    ·intro w'
     go_simp
     with_reducible rfl
    rotate_left
    ·simp only [Act.put, sz1, sz2, sz3, i64_w, i32_w]
     rfl
    refine pure_ (i := 2) (N := some 28) (v := ?_) (a' := ?_) #[tt, tt, tt, ff, ff, ff, ff, ff, ff, ff] rfl rfl (any_of HT_.out (by kernel_rfl)) (fun _ _ _ h => h) (Or.inl ⟨by rfl, ?_⟩) ?_ ?_
    rotate_left
    ·intro w'
     go_simp
     with_reducible rfl
    rotate_left
    ·simp only [Act.put, sz1, sz2, sz3, i64_w, i32_w]
     rfl
    refine pure_ (i := 4) (N := some 30) (v := ?_) (a' := ?_) #[tt, tt, tt, ff, tt, ff, ff, ff, ff, ff] rfl rfl (any_of HT_.out (by kernel_rfl)) (fun _ _ _ h => h) (Or.inl ⟨by rfl, ?_⟩) ?_ ?_
    rotate_left
    ·intro w'
     go_simp
     with_reducible rfl
    rotate_left
    ·simp only [Act.put, sz1, sz2, sz3, i64_w, i32_w]
     rfl
    refine take_ (i := 3) (N := some 29) (v := ?_) (a' := ?_) #[tt, tt, tt, tt, tt, ff, ff, ff, ff, ff] rfl rfl (take_ofW HT_.out HW_.out (by kernel_rfl)) (fun _ _ _ h => h) (Or.inl ⟨by rfl, ?_⟩) hHeld ?_ ?_
    rotate_left
    ·rintro w' ⟨s0, s1, s2, s3, s4, s5, s6, s7, s8, s9⟩
     go_simp
     with_reducible rfl
    rotate_left
    ·simp only [Act.put, sz1, sz2, sz3, i64_w, i32_w]
     rfl
    refine take_ (i := 5) (N := some 31) (v := ?_) (a' := ?_) #[tt, tt, tt, tt, tt, tt, ff, ff, ff, ff] rfl rfl (take_ofW HT_.out HW_.out (by kernel_rfl)) (fun _ _ _ h => h) (Or.inl ⟨by rfl, ?_⟩) hHeld ?_ ?_
    rotate_left
    ·rintro w' ⟨s0, s1, s2, s3, s4, s5, s6, s7, s8, s9⟩
     go_simp
     with_reducible rfl
    rotate_left
    ·simp only [Act.put, sz1, sz2, sz3, i64_w, i32_w]
     rfl
    refine pure_ (i := 6) (N := some 32) (v := ?_) (a' := ?_) #[tt, tt, tt, tt, tt, tt, tt, ff, ff, ff] rfl rfl (any_of HT_.out (by kernel_rfl)) (fun _ _ _ h => h) (Or.inl ⟨by rfl, ?_⟩) ?_ ?_
    rotate_left
    ·intro w'
     go_simp
     with_reducible rfl
    rotate_left
    ·simp only [Act.put, sz1, sz2, sz3, i64_w, i32_w]
     rfl
    refine take_ (i := 7) (N := some 33) (v := ?_) (a' := ?_) #[tt, tt, tt, tt, tt, tt, tt, tt, ff, ff] rfl rfl (take_ofW HT_.out HW_.out (by kernel_rfl)) (fun _ _ _ h => h) (Or.inl ⟨by rfl, ?_⟩) hHeld ?_ ?_
    rotate_left
    ·rintro w' ⟨s0, s1, s2, s3, s4, s5, s6, s7, s8, s9⟩
     go_simp
     with_reducible rfl
    rotate_left
    ·simp only [Act.put, sz1, sz2, sz3, i64_w, i32_w]
     rfl
    refine one_ (i := 8) (N := some 8) #[tt, tt, tt, tt, tt, tt, tt, tt, tt, ff] rfl rfl (one_of HT_.out (by kernel_rfl)) (by decide) (fun K hK => ?_)
    refine box_step ?hg (N := 8) ?hd (cs := #[.int .i64 0, .int .i64 0, .int .i64 0, .int .i64 0]) (t := 47) ?hr ?_; (case hd => rfl); (case hg => rfl); (case hr => exact vz)
    intro gb127 hg w30 hbox hb
    have n0_ := Aside0.mk (blk_below (kz BK123.out) hb)
    have n1_ := Aside0.mk (blk_below (kz BK124.out) hb)
    have n2_ := Aside0.mk (below_step (bz1 HB.out GE124.out) hb)
    have n3_ := Aside0.mk (hbox)
    have n4_ := Aside0.mk ((by rw [hg]; exact (below_size (bz1 HB.out GE124.out)) : w.heap.size <= gb127))
    have n5_ := Aside0.mk ((by rw [hg]; exact (below_size (bz1 HB.out GE124.out)) : w.heap.size <= gb127))
    have n6_ := Aside0.mk ((by rw [hg]; exact Nat.ne_of_lt (blk_lt (g := gb123) (o := .cells #[.slice A0_0 l0_0.length c0_0, .slice A0_1 l0_1.length c0_1, .slice (some ad126) l0_2.length c0_2, .slice A0_3 l0_3.length c0_3] 29 (0, 0)) (kz BK123.out)) : gb123 ≠ gb127))
    have n7_ := Aside0.mk ((by rw [hg]; exact Nat.ne_of_gt (blk_lt (g := gb123) (o := .cells #[.slice A0_0 l0_0.length c0_0, .slice A0_1 l0_1.length c0_1, .slice (some ad126) l0_2.length c0_2, .slice A0_3 l0_3.length c0_3] 29 (0, 0)) (kz BK123.out)) : gb127 ≠ gb123))
    have n8_ := Aside0.mk ((by rw [hg]; exact Nat.ne_of_lt (blk_lt (g := gb124) (o := .cells #[.int .i64 a1_0, .int .i64 a1_1] 35 (0, 0)) (kz BK124.out)) : gb124 ≠ gb127))
    have n9_ := Aside0.mk ((by rw [hg]; exact Nat.ne_of_gt (blk_lt (g := gb124) (o := .cells #[.int .i64 a1_0, .int .i64 a1_1] 35 (0, 0)) (kz BK124.out)) : gb127 ≠ gb124))
    clear BK123
    clear BK124
    clear HB
    have BK123 := n0_
    have BK124 := n1_
    have HB := n2_
    have BK127 := n3_
    have GW127 := n4_
    have GE127 := n5_
    have NB123_127 := n6_
    have NB127_123 := n7_
    have NB124_127 := n8_
    have NB127_124 := n9_
    clear n0_ n1_ n2_ n3_ n4_ n5_ n6_ n7_ n8_ n9_
    clear hb hbox hg
    refine hK.out _ _ ⟨(blk_cell BK123.out 0).trans rfl, (blk_cell BK123.out 1).trans rfl, (blk_cell BK123.out 2).trans rfl, (blk_cell BK123.out 3).trans rfl, (blk_cell BK124.out 0).trans rfl, (blk_cell BK124.out 1).trans rfl, (hz HB.out hw126_0 :), (hz HB.out hw126_1 :), (hz HB.out hw126_2 :), (hz HB.out hw126_3 :)⟩ (fun hHeld => ?_)
    clear hK K
    refine norm_ (a' := ?_) ?_ ?_
    rotate_left
    ·show Act.put _ (some 8) _ = _
     simp only [Act.put, sz1, sz2, sz3, i64_w, i32_w]
     rfl
    refine one_ (i := 9) (N := none) #[tt, tt, tt, tt, tt, tt, tt, tt, tt, tt] rfl rfl (one_of HT_.out (by kernel_rfl)) (by decide) (fun K hK => ?_)
    have hs31 : w30.cell? ⟨gb127, 0, none⟩ = some (.int .i64 0) := (blk_cell BK127.out 0).trans rfl
    have hfs31 := blk_frozen BK127.out 0
    have hns31_0 := NB123_127.out
    have hns31_1 := NB124_127.out
    have hms31_0 := NB127_123.out
    have hms31_1 := NB127_124.out
    have hs32 : w30.cell? ⟨gb127, 1, none⟩ = some (.int .i64 0) := (blk_cell BK127.out 1).trans rfl
    have hfs32 := blk_frozen BK127.out 1
    have hns32_0 := NB123_127.out
    have hns32_1 := NB124_127.out
    have hms32_0 := NB127_123.out
    have hms32_1 := NB127_124.out
    have hs33 : w30.cell? ⟨gb127, 2, none⟩ = some (.int .i64 0) := (blk_cell BK127.out 2).trans rfl
    have hfs33 := blk_frozen BK127.out 2
    have hns33_0 := NB123_127.out
    have hns33_1 := NB124_127.out
    have hms33_0 := NB127_123.out
    have hms33_1 := NB127_124.out
    have hs34 : w30.cell? ⟨gb127, 3, none⟩ = some (.int .i64 0) := (blk_cell BK127.out 3).trans rfl
    have hfs34 := blk_frozen BK127.out 3
    have hns34_0 := NB123_127.out
    have hns34_1 := NB124_127.out
    have hms34_0 := NB127_123.out
    have hms34_1 := NB127_124.out
    refine skip_ (w1 := ?_) (by rfl) rfl ?_ ?_
    rotate_left
    ·go_simp
     rfl
    refine hK.out _ _ ⟨((cell_far (p := ⟨gb127, _, none⟩) NB123_127.out _).trans (((cell_far (p := ⟨gb127, _, none⟩) NB123_127.out _).trans (((cell_far (p := ⟨gb127, _, none⟩) NB123_127.out _).trans (((cell_far (p := ⟨gb127, _, none⟩) NB123_127.out _).trans (hHeld.1)))))))), ((cell_far (p := ⟨gb127, _, none⟩) NB123_127.out _).trans (((cell_far (p := ⟨gb127, _, none⟩) NB123_127.out _).trans (((cell_far (p := ⟨gb127, _, none⟩) NB123_127.out _).trans (((cell_far (p := ⟨gb127, _, none⟩) NB123_127.out _).trans (hHeld.2.1)))))))), ((cell_far (p := ⟨gb127, _, none⟩) NB123_127.out _).trans (((cell_far (p := ⟨gb127, _, none⟩) NB123_127.out _).trans (((cell_far (p := ⟨gb127, _, none⟩) NB123_127.out _).trans (((cell_far (p := ⟨gb127, _, none⟩) NB123_127.out _).trans (hHeld.2.2.1)))))))), ((cell_far (p := ⟨gb127, _, none⟩) NB123_127.out _).trans (((cell_far (p := ⟨gb127, _, none⟩) NB123_127.out _).trans (((cell_far (p := ⟨gb127, _, none⟩) NB123_127.out _).trans (((cell_far (p := ⟨gb127, _, none⟩) NB123_127.out _).trans (hHeld.2.2.2.1)))))))), ((cell_far (p := ⟨gb127, _, none⟩) NB124_127.out _).trans (((cell_far (p := ⟨gb127, _, none⟩) NB124_127.out _).trans (((cell_far (p := ⟨gb127, _, none⟩) NB124_127.out _).trans (((cell_far (p := ⟨gb127, _, none⟩) NB124_127.out _).trans (hHeld.2.2.2.2.1)))))))), ((cell_far (p := ⟨gb127, _, none⟩) NB124_127.out _).trans (((cell_far (p := ⟨gb127, _, none⟩) NB124_127.out _).trans (((cell_far (p := ⟨gb127, _, none⟩) NB124_127.out _).trans (((cell_far (p := ⟨gb127, _, none⟩) NB124_127.out _).trans (hHeld.2.2.2.2.2.1)))))))), ((cell_far (p := ⟨gb127, _, none⟩) (by first | exact Nat.ne_of_lt (Nat.lt_of_lt_of_le (by have := World.block_lt_of_cell? _ _ hw126_0; first | rwa [add_block] at this | exact this) GW127.out) | (rw [add_block]; exact Nat.ne_of_lt (Nat.lt_of_lt_of_le (by have := World.block_lt_of_cell? _ _ hw126_0; first | rwa [add_block] at this | exact this) GW127.out)) | (show (Addr.add _ _).block ≠ _; rw [add_block]; exact Nat.ne_of_lt (Nat.lt_of_lt_of_le (by have := World.block_lt_of_cell? _ _ hw126_0; first | rwa [add_block] at this | exact this) GW127.out)) | (dsimp only; exact Nat.ne_of_lt (Nat.lt_of_lt_of_le (by have := World.block_lt_of_cell? _ _ hw126_0; first | rwa [add_block] at this | exact this) GW127.out))) _).trans (((cell_far (p := ⟨gb127, _, none⟩) (by first | exact Nat.ne_of_lt (Nat.lt_of_lt_of_le (by have := World.block_lt_of_cell? _ _ hw126_0; first | rwa [add_block] at this | exact this) GW127.out) | (rw [add_block]; exact Nat.ne_of_lt (Nat.lt_of_lt_of_le (by have := World.block_lt_of_cell? _ _ hw126_0; first | rwa [add_block] at this | exact this) GW127.out)) | (show (Addr.add _ _).block ≠ _; rw [add_block]; exact Nat.ne_of_lt (Nat.lt_of_lt_of_le (by have := World.block_lt_of_cell? _ _ hw126_0; first | rwa [add_block] at this | exact this) GW127.out)) | (dsimp only; exact Nat.ne_of_lt (Nat.lt_of_lt_of_le (by have := World.block_lt_of_cell? _ _ hw126_0; first | rwa [add_block] at this | exact this) GW127.out))) _).trans (((cell_far (p := ⟨gb127, _, none⟩) (by first | exact Nat.ne_of_lt (Nat.lt_of_lt_of_le (by have := World.block_lt_of_cell? _ _ hw126_0; first | rwa [add_block] at this | exact this) GW127.out) | (rw [add_block]; exact Nat.ne_of_lt (Nat.lt_of_lt_of_le (by have := World.block_lt_of_cell? _ _ hw126_0; first | rwa [add_block] at this | exact this) GW127.out)) | (show (Addr.add _ _).block ≠ _; rw [add_block]; exact Nat.ne_of_lt (Nat.lt_of_lt_of_le (by have := World.block_lt_of_cell? _ _ hw126_0; first | rwa [add_block] at this | exact this) GW127.out)) | (dsimp only; exact Nat.ne_of_lt (Nat.lt_of_lt_of_le (by have := World.block_lt_of_cell? _ _ hw126_0; first | rwa [add_block] at this | exact this) GW127.out))) _).trans (((cell_far (p := ⟨gb127, _, none⟩) (by first | exact Nat.ne_of_lt (Nat.lt_of_lt_of_le (by have := World.block_lt_of_cell? _ _ hw126_0; first | rwa [add_block] at this | exact this) GW127.out) | (rw [add_block]; exact Nat.ne_of_lt (Nat.lt_of_lt_of_le (by have := World.block_lt_of_cell? _ _ hw126_0; first | rwa [add_block] at this | exact this) GW127.out)) | (show (Addr.add _ _).block ≠ _; rw [add_block]; exact Nat.ne_of_lt (Nat.lt_of_lt_of_le (by have := World.block_lt_of_cell? _ _ hw126_0; first | rwa [add_block] at this | exact this) GW127.out)) | (dsimp only; exact Nat.ne_of_lt (Nat.lt_of_lt_of_le (by have := World.block_lt_of_cell? _ _ hw126_0; first | rwa [add_block] at this | exact this) GW127.out))) _).trans (hHeld.2.2.2.2.2.2.1)))))))), ((cell_far (p := ⟨gb127, _, none⟩) (by first | exact Nat.ne_of_lt (Nat.lt_of_lt_of_le (by have := World.block_lt_of_cell? _ _ hw126_1; first | rwa [add_block] at this | exact this) GW127.out) | (rw [add_block]; exact Nat.ne_of_lt (Nat.lt_of_lt_of_le (by have := World.block_lt_of_cell? _ _ hw126_1; first | rwa [add_block] at this | exact this) GW127.out)) | (show (Addr.add _ _).block ≠ _; rw [add_block]; exact Nat.ne_of_lt (Nat.lt_of_lt_of_le (by have := World.block_lt_of_cell? _ _ hw126_1; first | rwa [add_block] at this | exact this) GW127.out)) | (dsimp only; exact Nat.ne_of_lt (Nat.lt_of_lt_of_le (by have := World.block_lt_of_cell? _ _ hw126_1; first | rwa [add_block] at this | exact this) GW127.out))) _).trans (((cell_far (p := ⟨gb127, _, none⟩) (by first | exact Nat.ne_of_lt (Nat.lt_of_lt_of_le (by have := World.block_lt_of_cell? _ _ hw126_1; first | rwa [add_block] at this | exact this) GW127.out) | (rw [add_block]; exact Nat.ne_of_lt (Nat.lt_of_lt_of_le (by have := World.block_lt_of_cell? _ _ hw126_1; first | rwa [add_block] at this | exact this) GW127.out)) | (show (Addr.add _ _).block ≠ _; rw [add_block]; exact Nat.ne_of_lt (Nat.lt_of_lt_of_le (by have := World.block_lt_of_cell? _ _ hw126_1; first | rwa [add_block] at this | exact this) GW127.out)) | (dsimp only; exact Nat.ne_of_lt (Nat.lt_of_lt_of_le (by have := World.block_lt_of_cell? _ _ hw126_1; first | rwa [add_block] at this | exact this) GW127.out))) _).trans (((cell_far (p := ⟨gb127, _, none⟩) (by first | exact Nat.ne_of_lt (Nat.lt_of_lt_of_le (by have := World.block_lt_of_cell? _ _ hw126_1; first | rwa [add_block] at this | exact this) GW127.out) | (rw [add_block]; exact Nat.ne_of_lt (Nat.lt_of_lt_of_le (by have := World.block_lt_of_cell? _ _ hw126_1; first | rwa [add_block] at this | exact this) GW127.out)) | (show (Addr.add _ _).block ≠ _; rw [add_block]; exact Nat.ne_of_lt (Nat.lt_of_lt_of_le (by have := World.block_lt_of_cell? _ _ hw126_1; first | rwa [add_block] at this | exact this) GW127.out)) | (dsimp only; exact Nat.ne_of_lt (Nat.lt_of_lt_of_le (by have := World.block_lt_of_cell? _ _ hw126_1; first | rwa [add_block] at this | exact this) GW127.out))) _).trans (((cell_far (p := ⟨gb127, _, none⟩) (by first | exact Nat.ne_of_lt (Nat.lt_of_lt_of_le (by have := World.block_lt_of_cell? _ _ hw126_1; first | rwa [add_block] at this | exact this) GW127.out) | (rw [add_block]; exact Nat.ne_of_lt (Nat.lt_of_lt_of_le (by have := World.block_lt_of_cell? _ _ hw126_1; first | rwa [add_block] at this | exact this) GW127.out)) | (show (Addr.add _ _).block ≠ _; rw [add_block]; exact Nat.ne_of_lt (Nat.lt_of_lt_of_le (by have := World.block_lt_of_cell? _ _ hw126_1; first | rwa [add_block] at this | exact this) GW127.out)) | (dsimp only; exact Nat.ne_of_lt (Nat.lt_of_lt_of_le (by have := World.block_lt_of_cell? _ _ hw126_1; first | rwa [add_block] at this | exact this) GW127.out))) _).trans (hHeld.2.2.2.2.2.2.2.1)))))))), ((cell_far (p := ⟨gb127, _, none⟩) (by first | exact Nat.ne_of_lt (Nat.lt_of_lt_of_le (by have := World.block_lt_of_cell? _ _ hw126_2; first | rwa [add_block] at this | exact this) GW127.out) | (rw [add_block]; exact Nat.ne_of_lt (Nat.lt_of_lt_of_le (by have := World.block_lt_of_cell? _ _ hw126_2; first | rwa [add_block] at this | exact this) GW127.out)) | (show (Addr.add _ _).block ≠ _; rw [add_block]; exact Nat.ne_of_lt (Nat.lt_of_lt_of_le (by have := World.block_lt_of_cell? _ _ hw126_2; first | rwa [add_block] at this | exact this) GW127.out)) | (dsimp only; exact Nat.ne_of_lt (Nat.lt_of_lt_of_le (by have := World.block_lt_of_cell? _ _ hw126_2; first | rwa [add_block] at this | exact this) GW127.out))) _).trans (((cell_far (p := ⟨gb127, _, none⟩) (by first | exact Nat.ne_of_lt (Nat.lt_of_lt_of_le (by have := World.block_lt_of_cell? _ _ hw126_2; first | rwa [add_block] at this | exact this) GW127.out) | (rw [add_block]; exact Nat.ne_of_lt (Nat.lt_of_lt_of_le (by have := World.block_lt_of_cell? _ _ hw126_2; first | rwa [add_block] at this | exact this) GW127.out)) | (show (Addr.add _ _).block ≠ _; rw [add_block]; exact Nat.ne_of_lt (Nat.lt_of_lt_of_le (by have := World.block_lt_of_cell? _ _ hw126_2; first | rwa [add_block] at this | exact this) GW127.out)) | (dsimp only; exact Nat.ne_of_lt (Nat.lt_of_lt_of_le (by have := World.block_lt_of_cell? _ _ hw126_2; first | rwa [add_block] at this | exact this) GW127.out))) _).trans (((cell_far (p := ⟨gb127, _, none⟩) (by first | exact Nat.ne_of_lt (Nat.lt_of_lt_of_le (by have := World.block_lt_of_cell? _ _ hw126_2; first | rwa [add_block] at this | exact this) GW127.out) | (rw [add_block]; exact Nat.ne_of_lt (Nat.lt_of_lt_of_le (by have := World.block_lt_of_cell? _ _ hw126_2; first | rwa [add_block] at this | exact this) GW127.out)) | (show (Addr.add _ _).block ≠ _; rw [add_block]; exact Nat.ne_of_lt (Nat.lt_of_lt_of_le (by have := World.block_lt_of_cell? _ _ hw126_2; first | rwa [add_block] at this | exact this) GW127.out)) | (dsimp only; exact Nat.ne_of_lt (Nat.lt_of_lt_of_le (by have := World.block_lt_of_cell? _ _ hw126_2; first | rwa [add_block] at this | exact this) GW127.out))) _).trans (((cell_far (p := ⟨gb127, _, none⟩) (by first | exact Nat.ne_of_lt (Nat.lt_of_lt_of_le (by have := World.block_lt_of_cell? _ _ hw126_2; first | rwa [add_block] at this | exact this) GW127.out) | (rw [add_block]; exact Nat.ne_of_lt (Nat.lt_of_lt_of_le (by have := World.block_lt_of_cell? _ _ hw126_2; first | rwa [add_block] at this | exact this) GW127.out)) | (show (Addr.add _ _).block ≠ _; rw [add_block]; exact Nat.ne_of_lt (Nat.lt_of_lt_of_le (by have := World.block_lt_of_cell? _ _ hw126_2; first | rwa [add_block] at this | exact this) GW127.out)) | (dsimp only; exact Nat.ne_of_lt (Nat.lt_of_lt_of_le (by have := World.block_lt_of_cell? _ _ hw126_2; first | rwa [add_block] at this | exact this) GW127.out))) _).trans (hHeld.2.2.2.2.2.2.2.2.1)))))))), ((cell_far (p := ⟨gb127, _, none⟩) (by first | exact Nat.ne_of_lt (Nat.lt_of_lt_of_le (by have := World.block_lt_of_cell? _ _ hw126_3; first | rwa [add_block] at this | exact this) GW127.out) | (rw [add_block]; exact Nat.ne_of_lt (Nat.lt_of_lt_of_le (by have := World.block_lt_of_cell? _ _ hw126_3; first | rwa [add_block] at this | exact this) GW127.out)) | (show (Addr.add _ _).block ≠ _; rw [add_block]; exact Nat.ne_of_lt (Nat.lt_of_lt_of_le (by have := World.block_lt_of_cell? _ _ hw126_3; first | rwa [add_block] at this | exact this) GW127.out)) | (dsimp only; exact Nat.ne_of_lt (Nat.lt_of_lt_of_le (by have := World.block_lt_of_cell? _ _ hw126_3; first | rwa [add_block] at this | exact this) GW127.out))) _).trans (((cell_far (p := ⟨gb127, _, none⟩) (by first | exact Nat.ne_of_lt (Nat.lt_of_lt_of_le (by have := World.block_lt_of_cell? _ _ hw126_3; first | rwa [add_block] at this | exact this) GW127.out) | (rw [add_block]; exact Nat.ne_of_lt (Nat.lt_of_lt_of_le (by have := World.block_lt_of_cell? _ _ hw126_3; first | rwa [add_block] at this | exact this) GW127.out)) | (show (Addr.add _ _).block ≠ _; rw [add_block]; exact Nat.ne_of_lt (Nat.lt_of_lt_of_le (by have := World.block_lt_of_cell? _ _ hw126_3; first | rwa [add_block] at this | exact this) GW127.out)) | (dsimp only; exact Nat.ne_of_lt (Nat.lt_of_lt_of_le (by have := World.block_lt_of_cell? _ _ hw126_3; first | rwa [add_block] at this | exact this) GW127.out))) _).trans (((cell_far (p := ⟨gb127, _, none⟩) (by first | exact Nat.ne_of_lt (Nat.lt_of_lt_of_le (by have := World.block_lt_of_cell? _ _ hw126_3; first | rwa [add_block] at this | exact this) GW127.out) | (rw [add_block]; exact Nat.ne_of_lt (Nat.lt_of_lt_of_le (by have := World.block_lt_of_cell? _ _ hw126_3; first | rwa [add_block] at this | exact this) GW127.out)) | (show (Addr.add _ _).block ≠ _; rw [add_block]; exact Nat.ne_of_lt (Nat.lt_of_lt_of_le (by have := World.block_lt_of_cell? _ _ hw126_3; first | rwa [add_block] at this | exact this) GW127.out)) | (dsimp only; exact Nat.ne_of_lt (Nat.lt_of_lt_of_le (by have := World.block_lt_of_cell? _ _ hw126_3; first | rwa [add_block] at this | exact this) GW127.out))) _).trans (((cell_far (p := ⟨gb127, _, none⟩) (by first | exact Nat.ne_of_lt (Nat.lt_of_lt_of_le (by have := World.block_lt_of_cell? _ _ hw126_3; first | rwa [add_block] at this | exact this) GW127.out) | (rw [add_block]; exact Nat.ne_of_lt (Nat.lt_of_lt_of_le (by have := World.block_lt_of_cell? _ _ hw126_3; first | rwa [add_block] at this | exact this) GW127.out)) | (show (Addr.add _ _).block ≠ _; rw [add_block]; exact Nat.ne_of_lt (Nat.lt_of_lt_of_le (by have := World.block_lt_of_cell? _ _ hw126_3; first | rwa [add_block] at this | exact this) GW127.out)) | (dsimp only; exact Nat.ne_of_lt (Nat.lt_of_lt_of_le (by have := World.block_lt_of_cell? _ _ hw126_3; first | rwa [add_block] at this | exact this) GW127.out))) _).trans (hHeld.2.2.2.2.2.2.2.2.2))))))))⟩ (fun hHeld => ?_)
    clear hK K
    refine done_ (done_of HT_.out (by kernel_rfl)) ?_
    try go_wp2
    have n0_ : Aside0 (((((w30.setCell ⟨gb127, 0, none⟩ (.int .i64 ((rd_T47 l0_2 a1_1).f0.f0))).setCell ⟨gb127, 1, none⟩ (.int .i64 ((rd_T47 l0_2 a1_1).f0.f1))).setCell ⟨gb127, 2, none⟩ (.int .i64 ((rd_T47 l0_2 a1_1).f1.f0))).setCell ⟨gb127, 3, none⟩ (.int .i64 ((rd_T47 l0_2 a1_1).f1.f1))).heap[gb123]? = some (.cells #[.slice A0_0 l0_0.length c0_0, .slice A0_1 l0_1.length c0_1, .slice (some ad126) l0_2.length c0_2, .slice A0_3 l0_3.length c0_3] 29 (0, 0))) := ⟨by refine kq ?_; refine blk_far ?_ NB123_127.out _; refine kq ?_; refine blk_far ?_ NB123_127.out _; refine kq ?_; refine blk_far ?_ NB123_127.out _; refine kq ?_; refine blk_far ?_ NB123_127.out _; refine kq ?_; exact BK123.out⟩
    have n1_ : Aside0 (((((w30.setCell ⟨gb127, 0, none⟩ (.int .i64 ((rd_T47 l0_2 a1_1).f0.f0))).setCell ⟨gb127, 1, none⟩ (.int .i64 ((rd_T47 l0_2 a1_1).f0.f1))).setCell ⟨gb127, 2, none⟩ (.int .i64 ((rd_T47 l0_2 a1_1).f1.f0))).setCell ⟨gb127, 3, none⟩ (.int .i64 ((rd_T47 l0_2 a1_1).f1.f1))).heap[gb124]? = some (.cells #[.int .i64 a1_0, .int .i64 a1_1] 35 (0, 0))) := ⟨by refine kq ?_; refine blk_far ?_ NB124_127.out _; refine kq ?_; refine blk_far ?_ NB124_127.out _; refine kq ?_; refine blk_far ?_ NB124_127.out _; refine kq ?_; refine blk_far ?_ NB124_127.out _; refine kq ?_; exact BK124.out⟩
    have n2_ : Aside0 (((((w30.setCell ⟨gb127, 0, none⟩ (.int .i64 ((rd_T47 l0_2 a1_1).f0.f0))).setCell ⟨gb127, 1, none⟩ (.int .i64 ((rd_T47 l0_2 a1_1).f0.f1))).setCell ⟨gb127, 2, none⟩ (.int .i64 ((rd_T47 l0_2 a1_1).f1.f0))).setCell ⟨gb127, 3, none⟩ (.int .i64 ((rd_T47 l0_2 a1_1).f1.f1))).heap[gb127]? = some (.cells #[.int .i64 ((rd_T47 l0_2 a1_1).f0.f0), .int .i64 ((rd_T47 l0_2 a1_1).f0.f1), .int .i64 ((rd_T47 l0_2 a1_1).f1.f0), .int .i64 ((rd_T47 l0_2 a1_1).f1.f1)] 47 (0, 0))) := ⟨by refine kq ?_; refine blk_put (cs := #[.int .i64 ((rd_T47 l0_2 a1_1).f0.f0), .int .i64 ((rd_T47 l0_2 a1_1).f0.f1), .int .i64 ((rd_T47 l0_2 a1_1).f1.f0), .int .i64 0]) ?_ 3 _ rfl; refine kq ?_; refine blk_put (cs := #[.int .i64 ((rd_T47 l0_2 a1_1).f0.f0), .int .i64 ((rd_T47 l0_2 a1_1).f0.f1), .int .i64 0, .int .i64 0]) ?_ 2 _ rfl; refine kq ?_; refine blk_put (cs := #[.int .i64 ((rd_T47 l0_2 a1_1).f0.f0), .int .i64 0, .int .i64 0, .int .i64 0]) ?_ 1 _ rfl; refine kq ?_; refine blk_put (cs := #[.int .i64 0, .int .i64 0, .int .i64 0, .int .i64 0]) ?_ 0 _ rfl; refine kq ?_; exact BK127.out⟩
    have n3_ : Aside0 (Below w.heap.size w ((((w30.setCell ⟨gb127, 0, none⟩ (.int .i64 ((rd_T47 l0_2 a1_1).f0.f0))).setCell ⟨gb127, 1, none⟩ (.int .i64 ((rd_T47 l0_2 a1_1).f0.f1))).setCell ⟨gb127, 2, none⟩ (.int .i64 ((rd_T47 l0_2 a1_1).f1.f0))).setCell ⟨gb127, 3, none⟩ (.int .i64 ((rd_T47 l0_2 a1_1).f1.f1)))) := ⟨(bz2 HB.out GE124.out GE127.out)⟩
    (try clear BK123)
    (try clear BK124)
    (try clear BK127)
    (try clear HB)
    generalize ((((w30.setCell ⟨gb127, 0, none⟩ (.int .i64 ((rd_T47 l0_2 a1_1).f0.f0))).setCell ⟨gb127, 1, none⟩ (.int .i64 ((rd_T47 l0_2 a1_1).f0.f1))).setCell ⟨gb127, 2, none⟩ (.int .i64 ((rd_T47 l0_2 a1_1).f1.f0))).setCell ⟨gb127, 3, none⟩ (.int .i64 ((rd_T47 l0_2 a1_1).f1.f1))) = w35 at n0_ n1_ n2_ n3_ ⊢
    have BK123 := n0_
    have BK124 := n1_
    have BK127 := n2_
    have HB := n3_
    clear n0_ n1_ n2_ n3_
    have n0_ := Aside0.mk (blk_drew BK123.out)
    have n1_ := Aside0.mk (blk_drew BK124.out)
    have n2_ := Aside0.mk (blk_drew BK127.out)
    have n3_ := Aside0.mk (below_drew1 HB.out)
    clear BK123
    clear BK124
    clear BK127
    clear HB
    have BK123 := n0_
    have BK124 := n1_
    have BK127 := n2_
    have HB := n3_
    clear n0_ n1_ n2_ n3_
    refine start_ (n := 20) (S := fun w' => w'.cell? ⟨gb123, 0, none⟩ = some (.slice A0_0 l0_0.length c0_0) /\ w'.cell? ⟨gb123, 1, none⟩ = some (.slice A0_1 l0_1.length c0_1) /\ w'.cell? ⟨gb123, 2, none⟩ = some (.slice (some ad126) l0_2.length c0_2) /\ w'.cell? ⟨gb123, 3, none⟩ = some (.slice A0_3 l0_3.length c0_3) /\ w'.cell? ⟨gb127, 0, none⟩ = some (.int .i64 ((rd_T47 l0_2 a1_1).f0.f0)) /\ w'.cell? ⟨gb127, 1, none⟩ = some (.int .i64 ((rd_T47 l0_2 a1_1).f0.f1)) /\ w'.cell? ⟨gb127, 2, none⟩ = some (.int .i64 ((rd_T47 l0_2 a1_1).f1.f0)) /\ w'.cell? ⟨gb127, 3, none⟩ = some (.int .i64 ((rd_T47 l0_2 a1_1).f1.f1))) (ds := []) #[ff, ff, ff, ff, ff, ff, ff, ff, ff, ff, ff, ff, ff, ff, ff, ff, ff, ff, ff, ff] (by kernel_rfl) rfl rfl ⟨(blk_cell BK123.out 0).trans rfl, (blk_cell BK123.out 1).trans rfl, (blk_cell BK123.out 2).trans rfl, (blk_cell BK123.out 3).trans rfl, (blk_cell BK127.out 0).trans rfl, (blk_cell BK127.out 1).trans rfl, (blk_cell BK127.out 2).trans rfl, (blk_cell BK127.out 3).trans rfl⟩ (fun hHeld => ?_); refine with_tabW impl_Heap_show.tab16 impl_Heap_show.bits16 (fun HT_ HW_ => ?_)
    generalize w35.drew = w36 at BK123 BK124 BK127 HB hHeld ⊢
    refine pure_ (i := 0) (N := some 34) (v := ?_) (a' := ?_) #[tt, ff, ff, ff, ff, ff, ff, ff, ff, ff, ff, ff, ff, ff, ff, ff, ff, ff, ff, ff] rfl rfl (any_of HT_.out (by kernel_rfl)) (fun _ _ _ h => h) (Or.inl ⟨by rfl, ?_⟩) ?_ ?_
    rotate_left
    ·intro w'
     go_simp
     with_reducible rfl
    rotate_left
    ·simp only [Act.put, sz1, sz2, sz3, i64_w, i32_w]
     rfl
    refine pure_ (i := 1) (N := some 35) (v := ?_) (a' := ?_) #[tt, tt, ff, ff, ff, ff, ff, ff, ff, ff, ff, ff, ff, ff, ff, ff, ff, ff, ff, ff] rfl rfl (any_of HT_.out (by kernel_rfl)) (fun _ _ _ h => h) (Or.inl ⟨by rfl, ?_⟩) ?_ ?_
    rotate_left
    ·intro w'
     go_simp
     with_reducible rfl
    rotate_left
    ·simp only [Act.put, sz1, sz2, sz3, i64_w, i32_w]
     rfl
    refine pure_ (i := 2) (N := some 36) (v := ?_) (a' := ?_) #[tt, tt, tt, ff, ff, ff, ff, ff, ff, ff, ff, ff, ff, ff, ff, ff, ff, ff, ff, ff] rfl rfl (any_of HT_.out (by kernel_rfl)) (fun _ _ _ h => h) (Or.inl ⟨by rfl, ?_⟩) ?_ ?_
    rotate_left
    ·intro w'
     go_simp
     with_reducible rfl
    rotate_left
    ·simp only [Act.put, sz1, sz2, sz3, i64_w, i32_w]
     rfl
    refine pure_ (i := 4) (N := some 38) (v := ?_) (a' := ?_) #[tt, tt, tt, ff, tt, ff, ff, ff, ff, ff, ff, ff, ff, ff, ff, ff, ff, ff, ff, ff] rfl rfl (any_of HT_.out (by kernel_rfl)) (fun _ _ _ h => h) (Or.inl ⟨by rfl, ?_⟩) ?_ ?_
    rotate_left
    ·intro w'
     go_simp
     with_reducible rfl
    rotate_left
    ·simp only [Act.put, sz1, sz2, sz3, i64_w, i32_w]
     rfl
    refine pure_ (i := 6) (N := some 40) (v := ?_) (a' := ?_) #[tt, tt, tt, ff, tt, ff, tt, ff, ff, ff, ff, ff, ff, ff, ff, ff, ff, ff, ff, ff] rfl rfl (any_of HT_.out (by kernel_rfl)) (fun _ _ _ h => h) (Or.inl ⟨by rfl, ?_⟩) ?_ ?_
    rotate_left
    ·intro w'
     go_simp
     with_reducible rfl
    rotate_left
    ·simp only [Act.put, sz1, sz2, sz3, i64_w, i32_w]
     rfl
    refine pure_ (i := 7) (N := some 41) (v := ?_) (a' := ?_) #[tt, tt, tt, ff, tt, ff, tt, tt, ff, ff, ff, ff, ff, ff, ff, ff, ff, ff, ff, ff] rfl rfl (any_of HT_.out (by kernel_rfl)) (fun _ _ _ h => h) (Or.inl ⟨by rfl, ?_⟩) ?_ ?_
    rotate_left
    ·intro w'
     go_simp
     with_reducible rfl
    rotate_left
    ·simp only [Act.put, sz1, sz2, sz3, i64_w, i32_w]
     rfl
    refine pure_ (i := 12) (N := some 46) (v := ?_) (a' := ?_) #[tt, tt, tt, ff, tt, ff, tt, tt, ff, ff, ff, ff, tt, ff, ff, ff, ff, ff, ff, ff] rfl rfl (any_of HT_.out (by kernel_rfl)) (fun _ _ _ h => h) (Or.inl ⟨by rfl, ?_⟩) ?_ ?_
    rotate_left
    ·intro w'
     go_simp
     with_reducible rfl
    rotate_left
    ·simp only [Act.put, sz1, sz2, sz3, i64_w, i32_w]
     rfl
    refine pure_ (i := 14) (N := some 48) (v := ?_) (a' := ?_) #[tt, tt, tt, ff, tt, ff, tt, tt, ff, ff, ff, ff, tt, ff, tt, ff, ff, ff, ff, ff] rfl rfl (any_of HT_.out (by kernel_rfl)) (fun _ _ _ h => h) (Or.inl ⟨by rfl, ?_⟩) ?_ ?_
    rotate_left
    ·intro w'
     go_simp
     with_reducible rfl
    rotate_left
    ·simp only [Act.put, sz1, sz2, sz3, i64_w, i32_w]
     rfl
    refine pure_ (i := 15) (N := some 49) (v := ?_) (a' := ?_) #[tt, tt, tt, ff, tt, ff, tt, tt, ff, ff, ff, ff, tt, ff, tt, tt, ff, ff, ff, ff] rfl rfl (any_of HT_.out (by kernel_rfl)) (fun _ _ _ h => h) (Or.inl ⟨by rfl, ?_⟩) ?_ ?_
    rotate_left
    ·intro w'
     go_simp
     with_reducible rfl
    rotate_left
    ·simp only [Act.put, sz1, sz2, sz3, i64_w, i32_w]
     rfl
    refine take_ (i := 3) (N := some 37) (v := ?_) (a' := ?_) #[tt, tt, tt, tt, tt, ff, tt, tt, ff, ff, ff, ff, tt, ff, tt, tt, ff, ff, ff, ff] rfl rfl (take_ofW HT_.out HW_.out (by kernel_rfl)) (fun _ _ _ h => h) (Or.inl ⟨by rfl, ?_⟩) hHeld ?_ ?_
    rotate_left
    ·rintro w' ⟨s0, s1, s2, s3, s4, s5, s6, s7⟩
     go_simp
     with_reducible rfl
    rotate_left
    ·simp only [Act.put, sz1, sz2, sz3, i64_w, i32_w]
     rfl
    refine take_ (i := 5) (N := some 39) (v := ?_) (a' := ?_) #[tt, tt, tt, tt, tt, tt, tt, tt, ff, ff, ff, ff, tt, ff, tt, tt, ff, ff, ff, ff] rfl rfl (take_ofW HT_.out HW_.out (by kernel_rfl)) (fun _ _ _ h => h) (Or.inl ⟨by rfl, ?_⟩) hHeld ?_ ?_
    rotate_left
    ·rintro w' ⟨s0, s1, s2, s3, s4, s5, s6, s7⟩
     go_simp
     with_reducible rfl
    rotate_left
    ·simp only [Act.put, sz1, sz2, sz3, i64_w, i32_w]
     rfl
    refine take_ (i := 11) (N := some 45) (v := ?_) (a' := ?_) #[tt, tt, tt, tt, tt, tt, tt, tt, ff, ff, ff, tt, tt, ff, tt, tt, ff, ff, ff, ff] rfl rfl (take_ofW HT_.out HW_.out (by kernel_rfl)) (fun _ _ _ h => h) (Or.inl ⟨by rfl, ?_⟩) hHeld ?_ ?_
    rotate_left
    ·rintro w' ⟨s0, s1, s2, s3, s4, s5, s6, s7⟩
     go_simp
     with_reducible rfl
    rotate_left
    ·simp only [Act.put, sz1, sz2, sz3, i64_w, i32_w]
     rfl
    refine take_ (i := 13) (N := some 47) (v := ?_) (a' := ?_) #[tt, tt, tt, tt, tt, tt, tt, tt, ff, ff, ff, tt, tt, tt, tt, tt, ff, ff, ff, ff] rfl rfl (take_ofW HT_.out HW_.out (by kernel_rfl)) (fun _ _ _ h => h) (Or.inl ⟨by rfl, ?_⟩) hHeld ?_ ?_
    rotate_left
    ·rintro w' ⟨s0, s1, s2, s3, s4, s5, s6, s7⟩
     go_simp
     with_reducible rfl
    rotate_left
    ·simp only [Act.put, sz1, sz2, sz3, i64_w, i32_w]
     rfl
    refine one_ (i := 8) (N := some 42) #[tt, tt, tt, tt, tt, tt, tt, tt, tt, ff, ff, tt, tt, tt, tt, tt, ff, ff, ff, ff] rfl rfl (one_of HT_.out (by kernel_rfl)) (by decide) (fun K hK => ?_)
    refine goes_ Tryd.func48 (by kernel_rfl) rfl #[.pointer (some ⟨gb123, 0, none⟩), .agg #[.int .i64 ((rd_T47 l0_2 a1_1).f0.f0), .int .i64 ((rd_T47 l0_2 a1_1).f0.f1)], .int .i64 (wrap64 (a2 - 1))] (by rfl) rfl rfl lz ?_
    with_reducible refine (ih kj3 (by have := HJ3.out; omega) A0_0 c0_0 l0_0 A0_1 c0_1 l0_1 (some ad126) c0_2 l0_2 A0_3 c0_3 l0_3 ((rd_T47 l0_2 a1_1).f0.f0) ((rd_T47 l0_2 a1_1).f0.f1) (wrap64 (a2 - 1)) t128 _ ?side1 ?side2 ?side3 ?side4 ?side5 ?side6 ?side7 ?side8 gb123 ?capside A23.out ?hT_).mono ?_
    (case hT_ => exact PW.below hT_ (bz2 HB.out GE124.out GE127.out))
    (case capside => refine kq ?_; exact BK123.out)
    (case side1 => exact cz (Kd.C_below HR0_0.out HB.out))
    (case side2 => exact HC0_0.out)
    (case side3 => exact cz (Kd.C_below HR0_1.out HB.out))
    (case side4 => exact HC0_1.out)
    (case side5 => exact cz (Kd.C_below HR0_2.out HB.out))
    (case side6 => exact HC0_2.out)
    (case side7 => exact cz (Kd.C_below HR0_3.out HB.out))
    (case side8 => exact HC0_3.out)
    rintro e w37 ⟨rfl, hb⟩
    refine ⟨_, rfl, ?_⟩
    have n0_ := Aside0.mk (blk_below (kz BK123.out) hb)
    have n1_ := Aside0.mk (blk_below (kz BK124.out) hb)
    have n2_ := Aside0.mk (blk_below (kz BK127.out) hb)
    have n3_ := Aside0.mk (below_step (bz2 HB.out GE124.out GE127.out) hb)
    clear BK123
    clear BK124
    clear BK127
    clear HB
    have BK123 := n0_
    have BK124 := n1_
    have BK127 := n2_
    have HB := n3_
    clear n0_ n1_ n2_ n3_
    (try clear hb)
    (try clear hb2)
    (try clear hk)
    (try clear hi)
    refine hK.out _ _ ⟨(blk_cell BK123.out 0).trans rfl, (blk_cell BK123.out 1).trans rfl, (blk_cell BK123.out 2).trans rfl, (blk_cell BK123.out 3).trans rfl, (blk_cell BK127.out 0).trans rfl, (blk_cell BK127.out 1).trans rfl, (blk_cell BK127.out 2).trans rfl, (blk_cell BK127.out 3).trans rfl⟩ (fun hHeld => ?_)
    clear hK K
    refine norm_ (a' := ?_) ?_ ?_
    rotate_left
    ·show Act.put _ (some 42) _ = _
     simp only [Act.put, sz1, sz2, sz3, i64_w, i32_w]
     rfl
    refine pure_ (i := 9) (N := some 43) (v := ?_) (a' := ?_) #[tt, tt, tt, tt, tt, tt, tt, tt, tt, tt, ff, tt, tt, tt, tt, tt, ff, ff, ff, ff] rfl rfl (any_of HT_.out (by kernel_rfl)) (fun _ _ _ h => h) (Or.inl ⟨by rfl, ?_⟩) ?_ ?_
    rotate_left
    ·intro w'
     go_simp
     with_reducible rfl
    rotate_left
    ·simp only [Act.put, sz1, sz2, sz3, i64_w, i32_w]
     rfl
    refine pure_ (i := 10) (N := some 44) (v := ?_) (a' := ?_) #[tt, tt, tt, tt, tt, tt, tt, tt, tt, tt, tt, tt, tt, tt, tt, tt, ff, ff, ff, ff] rfl rfl (any_of HT_.out (by kernel_rfl)) (fun _ _ _ h => h) (Or.inl ⟨by rfl, ?_⟩) ?_ ?_
    rotate_left
    ·intro w'
     go_simp
     with_reducible rfl
    rotate_left
    ·simp only [Act.put, sz1, sz2, sz3, i64_w, i32_w]
     rfl
    refine one_ (i := 16) (N := some 50) #[tt, tt, tt, tt, tt, tt, tt, tt, tt, tt, tt, tt, tt, tt, tt, tt, tt, ff, ff, ff] rfl rfl (one_of HT_.out (by kernel_rfl)) (by decide) (fun K hK => ?_)
    refine goes_ Tryd.func48 (by kernel_rfl) rfl #[.pointer (some ⟨gb123, 0, none⟩), .agg #[.int .i64 ((rd_T47 l0_2 a1_1).f1.f0), .int .i64 ((rd_T47 l0_2 a1_1).f1.f1)], .int .i64 (wrap64 (a2 - 1))] (by rfl) rfl rfl lz ?_
    with_reducible refine (ih kj3 (by have := HJ3.out; omega) A0_0 c0_0 l0_0 A0_1 c0_1 l0_1 (some ad126) c0_2 l0_2 A0_3 c0_3 l0_3 ((rd_T47 l0_2 a1_1).f1.f0) ((rd_T47 l0_2 a1_1).f1.f1) (wrap64 (a2 - 1)) t129 _ ?side1 ?side2 ?side3 ?side4 ?side5 ?side6 ?side7 ?side8 gb123 ?capside A26.out ?hT_).mono ?_
    (case hT_ => exact PW.below hT_ (bz2 HB.out GE124.out GE127.out))
    (case capside => refine kq ?_; exact BK123.out)
    (case side1 => exact cz (Kd.C_below HR0_0.out HB.out))
    (case side2 => exact HC0_0.out)
    (case side3 => exact cz (Kd.C_below HR0_1.out HB.out))
    (case side4 => exact HC0_1.out)
    (case side5 => exact cz (Kd.C_below HR0_2.out HB.out))
    (case side6 => exact HC0_2.out)
    (case side7 => exact cz (Kd.C_below HR0_3.out HB.out))
    (case side8 => exact HC0_3.out)
    rintro e w38 ⟨rfl, hb⟩
    refine ⟨_, rfl, ?_⟩
    have n0_ := Aside0.mk (blk_below (kz BK123.out) hb)
    have n1_ := Aside0.mk (blk_below (kz BK124.out) hb)
    have n2_ := Aside0.mk (blk_below (kz BK127.out) hb)
    have n3_ := Aside0.mk (below_step (bz2 HB.out GE124.out GE127.out) hb)
    clear BK123
    clear BK124
    clear BK127
    clear HB
    have BK123 := n0_
    have BK124 := n1_
    have BK127 := n2_
    have HB := n3_
    clear n0_ n1_ n2_ n3_
    (try clear hb)
    (try clear hb2)
    (try clear hk)
    (try clear hi)
    refine hK.out _ _ ⟨(blk_cell BK123.out 0).trans rfl, (blk_cell BK123.out 1).trans rfl, (blk_cell BK123.out 2).trans rfl, (blk_cell BK123.out 3).trans rfl, (blk_cell BK127.out 0).trans rfl, (blk_cell BK127.out 1).trans rfl, (blk_cell BK127.out 2).trans rfl, (blk_cell BK127.out 3).trans rfl⟩ (fun hHeld => ?_)
    clear hK K
    refine norm_ (a' := ?_) ?_ ?_
    rotate_left
    ·show Act.put _ (some 50) _ = _
     simp only [Act.put, sz1, sz2, sz3, i64_w, i32_w]
     rfl
    refine pure_ (i := 17) (N := some 51) (v := ?_) (a' := ?_) #[tt, tt, tt, tt, tt, tt, tt, tt, tt, tt, tt, tt, tt, tt, tt, tt, tt, tt, ff, ff] rfl rfl (any_of HT_.out (by kernel_rfl)) (fun _ _ _ h => h) (Or.inl ⟨by rfl, ?_⟩) ?_ ?_
    rotate_left
    ·intro w'
     go_simp
     with_reducible rfl
    rotate_left
    ·simp only [Act.put, sz1, sz2, sz3, i64_w, i32_w]
     rfl
    refine pure_ (i := 18) (N := some 52) (v := ?_) (a' := ?_) #[tt, tt, tt, tt, tt, tt, tt, tt, tt, tt, tt, tt, tt, tt, tt, tt, tt, tt, tt, ff] rfl rfl (any_of HT_.out (by kernel_rfl)) (fun _ _ _ h => h) (Or.inl ⟨by rfl, ?_⟩) ?_ ?_
    rotate_left
    ·intro w'
     go_simp
     with_reducible rfl
    rotate_left
    ·simp only [Act.put, sz1, sz2, sz3, i64_w, i32_w]
     rfl
    refine pure_ (i := 19) (N := some 6) (v := ?_) (a' := ?_) #[tt, tt, tt, tt, tt, tt, tt, tt, tt, tt, tt, tt, tt, tt, tt, tt, tt, tt, tt, tt] rfl rfl (any_of HT_.out (by kernel_rfl)) (fun _ _ _ h => h) (Or.inl ⟨by rfl, ?_⟩) ?_ ?_
    rotate_left
    ·intro w'
     go_simp
     with_reducible rfl
    rotate_left
    ·simp only [Act.put, sz1, sz2, sz3, i64_w, i32_w]
     rfl
    refine done_ (done_of HT_.out (by kernel_rfl)) ?_
    try go_wp2
    go_ret
    exact ⟨gz, (bz2 HB.out GE124.out GE127.out)⟩
def impl_ShowVal.f (k : Nat) (l0_0 : List (S41)) (l0_1 : List (S86)) (l0_2 : List (S47)) (l0_3 : List (S35)) (a1_0 : Int) (a1_1 : Int) (a2 : Int) : Option (ByteArray) := (impl_HeapOk.f k l0_0 l0_1 l0_2 l0_3).bind fun t132 => (if t132 = true then ((impl_ValOk.f k l0_0 l0_1 l0_2 l0_3 a1_0 a1_1).bind fun t133 => (if t133 = true then ((impl_in.f a2 0 8).bind fun t134 => (if t134 = true then ((impl_Heap_show.f k l0_0 l0_1 l0_2 l0_3 a1_0 a1_1 a2).bind fun t135 => (some t135)) else (some (⟨#[]⟩ : ByteArray)))) else (some (⟨#[]⟩ : ByteArray)))) else (some (⟨#[]⟩ : ByteArray)))
theorem impl_ShowVal.mono : ∀ a0 a1 a2 a3 a4 a5 a6 k, LeO (impl_ShowVal.f k a0 a1 a2 a3 a4 a5 a6) (impl_ShowVal.f (k + 1) a0 a1 a2 a3 a4 a5 a6) := by
 intro a0 a1 a2 a3 a4 a5 a6 k
 unfold impl_ShowVal.f
 with_reducible repeat' first | exact impl_HeapOk.mono _ _ _ _ _ | exact impl_Heap_show.mono _ _ _ _ _ _ _ _ | exact impl_ValOk.mono _ _ _ _ _ _ _ | exact lrz _ | exact lnz _ | refine liz ?_ ?_ | refine lbz ?_ fun _ => ?_
set_option maxHeartbeats 8000000 in
set_option maxRecDepth 100000 in
theorem impl_ShowVal.calls (k : Nat) (A0_0 : Option Addr) (c0_0 : Nat) (l0_0 : List (S41)) (A0_1 : Option Addr) (c0_1 : Nat) (l0_1 : List (S86)) (A0_2 : Option Addr) (c0_2 : Nat) (l0_2 : List (S47)) (A0_3 : Option Addr) (c0_3 : Nat) (l0_3 : List (S35)) (a1_0 : Int) (a1_1 : Int) (a2 : Int) (r : ByteArray) (w : World) (hr0_0 : Kd.C k41 w A0_0 l0_0.length l0_0) (hc0_0 : l0_0.length <= c0_0) (hr0_1 : Kd.C k86 w A0_1 l0_1.length l0_1) (hc0_1 : l0_1.length <= c0_1) (hr0_2 : Kd.C k47 w A0_2 l0_2.length l0_2) (hc0_2 : l0_2.length <= c0_2) (hr0_3 : Kd.C k35 w A0_3 l0_3.length l0_3) (hc0_3 : l0_3.length <= c0_3) (h : impl_ShowVal.f k l0_0 l0_1 l0_2 l0_3 a1_0 a1_1 a2 = some r) (hT_ : PW w) :
  Calls Tryd.prog 16 #[.agg #[.slice A0_0 l0_0.length c0_0, .slice A0_1 l0_1.length c0_1, .slice A0_2 l0_2.length c0_2, .slice A0_3 l0_3.length c0_3], .agg #[.int .i64 a1_0, .int .i64 a1_1], .int .i64 a2] w fun e w' => e = .returned (.string r) /\ Below w.heap.size w w' := by
 have hu29 := Tryd.underlying29
 have hu35 := Tryd.underlying35
 have HR0_0 := Aside0.mk hr0_0
 have HC0_0 := Aside0.mk hc0_0
 clear hr0_0 hc0_0
 have HR0_1 := Aside0.mk hr0_1
 have HC0_1 := Aside0.mk hc0_1
 clear hr0_1 hc0_1
 have HR0_2 := Aside0.mk hr0_2
 have HC0_2 := Aside0.mk hc0_2
 clear hr0_2 hc0_2
 have HR0_3 := Aside0.mk hr0_3
 have HC0_3 := Aside0.mk hc0_3
 clear hr0_3 hc0_3
 have HB := Aside0.mk (Below.refl w.heap.size w)
 have H : ((impl_HeapOk.f k l0_0 l0_1 l0_2 l0_3).bind fun t132 => (if t132 = true then ((impl_ValOk.f k l0_0 l0_1 l0_2 l0_3 a1_0 a1_1).bind fun t133 => (if t133 = true then ((impl_in.f a2 0 8).bind fun t134 => (if t134 = true then ((impl_Heap_show.f k l0_0 l0_1 l0_2 l0_3 a1_0 a1_1 a2).bind fun t135 => (some t135)) else (some (⟨#[]⟩ : ByteArray)))) else (some (⟨#[]⟩ : ByteArray)))) else (some (⟨#[]⟩ : ByteArray)))) = some r := h
 clear h
 replace H := bi H
 obtain ⟨t132, A40, H⟩ := H
 try dsimp only at H
 have A4 := Aside0.mk A40
 clear A40
 by_cases c5 : t132 = true
 ·subst c5
  have H1 := hp H
  clear H
  have H := H1
  clear H1
  replace H := bi H
  obtain ⟨t133, A60, H⟩ := H
  try dsimp only at H
  have A6 := Aside0.mk A60
  clear A60
  by_cases c7 : t133 = true
  ·subst c7
   have H1 := hp H
   clear H
   have H := H1
   clear H1
   replace H := bi H
   obtain ⟨t134, A80, H⟩ := H
   try dsimp only at H
   have A8 := Aside0.mk A80
   clear A80
   by_cases c9 : t134 = true
   ·subst c9
    have H1 := hp H
    clear H
    have H := H1
    clear H1
    replace H := bi H
    obtain ⟨t135, A100, H⟩ := H
    try dsimp only at H
    have A10 := Aside0.mk A100
    clear A100
    obtain rfl := Option.some.inj H
    go_enter Tryd.func16, Tryd.ntmps16
    go_wp2_with (first | ((with_reducible refine gate_dst (N := 3) rfl ?_); refine box_event ?hg (N := 3) ?hd (cs := #[.slice A0_0 l0_0.length c0_0, .slice A0_1 l0_1.length c0_1, .slice A0_2 l0_2.length c0_2, .slice A0_3 l0_3.length c0_3]) (t := 29) ?hr ?_; (case hd => rfl); (case hg => rfl); (case hr => exact vz); intro gb130 hg w11 hbox hb; have BK130 := Aside0.mk (hbox); have GW130 := Aside0.mk ((by rw [hg]; exact (below_size (bz0 HB.out)) : w.heap.size <= gb130)); have GE130 := Aside0.mk ((by rw [hg]; exact (below_size (bz0 HB.out)) : w.heap.size <= gb130)); replace HB := Aside0.mk (below_step (bz0 HB.out) hb); clear hb hbox hg) | ((with_reducible refine gate_dst (N := 4) rfl ?_); refine box_event ?hg (N := 4) ?hd (cs := #[.int .i64 a1_0, .int .i64 a1_1]) (t := 35) ?hr ?_; (case hd => rfl); (case hg => rfl); (case hr => exact vz); intro gb131 hg w12 hbox hb; have BK131 := Aside0.mk (hbox); have GW131 := Aside0.mk ((by rw [hg]; exact (below_size (bz1 HB.out GE130.out)) : w.heap.size <= gb131)); have GE131 := Aside0.mk ((by rw [hg]; exact (below_size (bz1 HB.out GE130.out)) : w.heap.size <= gb131)); replace HB := Aside0.mk (below_step (bz1 HB.out GE130.out) hb); have NB130_131 := Aside0.mk ((by rw [hg]; exact Nat.ne_of_lt (blk_lt (g := gb130) (o := .cells #[.slice A0_0 l0_0.length c0_0, .slice A0_1 l0_1.length c0_1, .slice A0_2 l0_2.length c0_2, .slice A0_3 l0_3.length c0_3] 29 (0, 0)) (kz BK130.out)) : gb130 ≠ gb131)); have NB131_130 := Aside0.mk ((by rw [hg]; exact Nat.ne_of_gt (blk_lt (g := gb130) (o := .cells #[.slice A0_0 l0_0.length c0_0, .slice A0_1 l0_1.length c0_1, .slice A0_2 l0_2.length c0_2, .slice A0_3 l0_3.length c0_3] 29 (0, 0)) (kz BK130.out)) : gb131 ≠ gb130)); replace BK130 := Aside0.mk (blk_below (kz BK130.out) hb); clear hb hbox hg; have hnb13 := NB130_131.out; have hnc13 := NB131_130.out; obtain ⟨hcz14_0, hcz14_1, hcz14_2, hcz14_3⟩ := cz4 BK130.out; obtain ⟨hfz14_0, hfz14_1, hfz14_2, hfz14_3⟩ := fz4 BK130.out) | ((with_reducible refine gate_callee (f := 41) rfl ?_); refine goesL_ (some 8) rfl rfl Tryd.func41 (by kernel_rfl) rfl #[.agg #[.slice A0_0 l0_0.length c0_0, .slice A0_1 l0_1.length c0_1, .slice A0_2 l0_2.length c0_2, .slice A0_3 l0_3.length c0_3]] rfl lz ?_; (with_reducible refine (impl_HeapOk.calls k _ _ l0_0 _ _ l0_1 _ _ l0_2 _ _ l0_3 true _ ?side1 ?side2 ?side3 ?side4 ?side5 ?side6 ?side7 ?side8 A4.out).mono ?_); (case side1 => exact cz (Kd.C_below HR0_0.out HB.out)); (case side2 => exact HC0_0.out); (case side3 => exact cz (Kd.C_below HR0_1.out HB.out)); (case side4 => exact HC0_1.out); (case side5 => exact cz (Kd.C_below HR0_2.out HB.out)); (case side6 => exact HC0_2.out); (case side7 => exact cz (Kd.C_below HR0_3.out HB.out)); (case side8 => exact HC0_3.out); rintro e w15 ⟨rfl, hb⟩; refine ⟨_, rfl, ?_⟩; replace BK130 := Aside0.mk (blk_below (kz BK130.out) hb); replace BK131 := Aside0.mk (blk_below (kz BK131.out) hb); replace HB := Aside0.mk (below_step (bz2 HB.out GE130.out GE131.out) hb); (try clear hb); obtain ⟨hcz16_0, hcz16_1, hcz16_2, hcz16_3⟩ := cz4 BK130.out; obtain ⟨hfz16_0, hfz16_1, hfz16_2, hfz16_3⟩ := fz4 BK130.out; obtain ⟨hcz17_0, hcz17_1⟩ := cz2 BK131.out; obtain ⟨hfz17_0, hfz17_1⟩ := fz2 BK131.out) | (go_at_call 13; (with_reducible refine (impl_ValOk.calls k _ _ l0_0 _ _ l0_1 _ _ l0_2 _ _ l0_3 a1_0 a1_1 true _ ?side1 ?side2 ?side3 ?side4 ?side5 ?side6 ?side7 ?side8 A6.out).mono ?_); (case side1 => exact cz (Kd.C_below HR0_0.out HB.out)); (case side2 => exact HC0_0.out); (case side3 => exact cz (Kd.C_below HR0_1.out HB.out)); (case side4 => exact HC0_1.out); (case side5 => exact cz (Kd.C_below HR0_2.out HB.out)); (case side6 => exact HC0_2.out); (case side7 => exact cz (Kd.C_below HR0_3.out HB.out)); (case side8 => exact HC0_3.out); rintro e w18 ⟨rfl, hb⟩; replace BK130 := Aside0.mk (blk_below (kz BK130.out) hb); replace BK131 := Aside0.mk (blk_below (kz BK131.out) hb); replace HB := Aside0.mk (below_step (bz2 HB.out GE130.out GE131.out) hb); (try clear hb); (try clear hi)) | (go_at_call 42; (with_reducible refine (impl_in.calls a2 0 8 true _ A8.out).mono ?_); rintro e w' ⟨rfl, ⟨nd, rfl⟩⟩; obtain ⟨hcz19_0, hcz19_1⟩ := cz2 BK131.out; obtain ⟨hfz19_0, hfz19_1⟩ := fz2 BK131.out) | ((with_reducible refine gate_callee (f := 48) rfl ?_); refine goesL_ (some 23) rfl rfl Tryd.func48 (by kernel_rfl) rfl #[.pointer (some ⟨gb130, 0, none⟩), .agg #[.int .i64 a1_0, .int .i64 a1_1], .int .i64 a2] rfl lz ?_; (with_reducible refine (impl_Heap_show.calls k A0_0 c0_0 l0_0 A0_1 c0_1 l0_1 A0_2 c0_2 l0_2 A0_3 c0_3 l0_3 a1_0 a1_1 a2 t135 _ ?side1 ?side2 ?side3 ?side4 ?side5 ?side6 ?side7 ?side8 gb130 ?capside A10.out ?hT_).mono ?_); (case hT_ => exact PW.below hT_ (bz2 HB.out GE130.out GE131.out)); (case capside => refine kq ?_; exact BK130.out); (case side1 => exact cz (Kd.C_below HR0_0.out (bz2 HB.out GE130.out GE131.out))); (case side2 => exact HC0_0.out); (case side3 => exact cz (Kd.C_below HR0_1.out (bz2 HB.out GE130.out GE131.out))); (case side4 => exact HC0_1.out); (case side5 => exact cz (Kd.C_below HR0_2.out (bz2 HB.out GE130.out GE131.out))); (case side6 => exact HC0_2.out); (case side7 => exact cz (Kd.C_below HR0_3.out (bz2 HB.out GE130.out GE131.out))); (case side8 => exact HC0_3.out); rintro e w20 ⟨rfl, hb⟩; refine ⟨_, rfl, ?_⟩; replace BK130 := Aside0.mk (blk_below (kz BK130.out) hb); replace BK131 := Aside0.mk (blk_below (kz BK131.out) hb); replace HB := Aside0.mk (below_step (bz2 HB.out GE130.out GE131.out) hb); (try clear hb); (try clear hi)))
    go_ret
    exact ⟨gz, (bz2 HB.out GE130.out GE131.out)⟩
   ·replace c9 := Bool.eq_false_iff.mpr c9
    subst c9
    have H1 := hq H
    clear H
    have H := H1
    clear H1
    obtain rfl := Option.some.inj H
    go_enter Tryd.func16, Tryd.ntmps16
    go_wp2_with (first | ((with_reducible refine gate_dst (N := 3) rfl ?_); refine box_event ?hg (N := 3) ?hd (cs := #[.slice A0_0 l0_0.length c0_0, .slice A0_1 l0_1.length c0_1, .slice A0_2 l0_2.length c0_2, .slice A0_3 l0_3.length c0_3]) (t := 29) ?hr ?_; (case hd => rfl); (case hg => rfl); (case hr => exact vz); intro gb130 hg w21 hbox hb; have BK130 := Aside0.mk (hbox); have GW130 := Aside0.mk ((by rw [hg]; exact (below_size (bz0 HB.out)) : w.heap.size <= gb130)); have GE130 := Aside0.mk ((by rw [hg]; exact (below_size (bz0 HB.out)) : w.heap.size <= gb130)); replace HB := Aside0.mk (below_step (bz0 HB.out) hb); clear hb hbox hg) | ((with_reducible refine gate_dst (N := 4) rfl ?_); refine box_event ?hg (N := 4) ?hd (cs := #[.int .i64 a1_0, .int .i64 a1_1]) (t := 35) ?hr ?_; (case hd => rfl); (case hg => rfl); (case hr => exact vz); intro gb131 hg w22 hbox hb; have BK131 := Aside0.mk (hbox); have GW131 := Aside0.mk ((by rw [hg]; exact (below_size (bz1 HB.out GE130.out)) : w.heap.size <= gb131)); have GE131 := Aside0.mk ((by rw [hg]; exact (below_size (bz1 HB.out GE130.out)) : w.heap.size <= gb131)); replace HB := Aside0.mk (below_step (bz1 HB.out GE130.out) hb); have NB130_131 := Aside0.mk ((by rw [hg]; exact Nat.ne_of_lt (blk_lt (g := gb130) (o := .cells #[.slice A0_0 l0_0.length c0_0, .slice A0_1 l0_1.length c0_1, .slice A0_2 l0_2.length c0_2, .slice A0_3 l0_3.length c0_3] 29 (0, 0)) (kz BK130.out)) : gb130 ≠ gb131)); have NB131_130 := Aside0.mk ((by rw [hg]; exact Nat.ne_of_gt (blk_lt (g := gb130) (o := .cells #[.slice A0_0 l0_0.length c0_0, .slice A0_1 l0_1.length c0_1, .slice A0_2 l0_2.length c0_2, .slice A0_3 l0_3.length c0_3] 29 (0, 0)) (kz BK130.out)) : gb131 ≠ gb130)); replace BK130 := Aside0.mk (blk_below (kz BK130.out) hb); clear hb hbox hg; have hnb23 := NB130_131.out; have hnc23 := NB131_130.out; obtain ⟨hcz24_0, hcz24_1, hcz24_2, hcz24_3⟩ := cz4 BK130.out; obtain ⟨hfz24_0, hfz24_1, hfz24_2, hfz24_3⟩ := fz4 BK130.out) | ((with_reducible refine gate_callee (f := 41) rfl ?_); refine goesL_ (some 8) rfl rfl Tryd.func41 (by kernel_rfl) rfl #[.agg #[.slice A0_0 l0_0.length c0_0, .slice A0_1 l0_1.length c0_1, .slice A0_2 l0_2.length c0_2, .slice A0_3 l0_3.length c0_3]] rfl lz ?_; (with_reducible refine (impl_HeapOk.calls k _ _ l0_0 _ _ l0_1 _ _ l0_2 _ _ l0_3 true _ ?side1 ?side2 ?side3 ?side4 ?side5 ?side6 ?side7 ?side8 A4.out).mono ?_); (case side1 => exact cz (Kd.C_below HR0_0.out HB.out)); (case side2 => exact HC0_0.out); (case side3 => exact cz (Kd.C_below HR0_1.out HB.out)); (case side4 => exact HC0_1.out); (case side5 => exact cz (Kd.C_below HR0_2.out HB.out)); (case side6 => exact HC0_2.out); (case side7 => exact cz (Kd.C_below HR0_3.out HB.out)); (case side8 => exact HC0_3.out); rintro e w25 ⟨rfl, hb⟩; refine ⟨_, rfl, ?_⟩; replace BK130 := Aside0.mk (blk_below (kz BK130.out) hb); replace BK131 := Aside0.mk (blk_below (kz BK131.out) hb); replace HB := Aside0.mk (below_step (bz2 HB.out GE130.out GE131.out) hb); (try clear hb); obtain ⟨hcz26_0, hcz26_1, hcz26_2, hcz26_3⟩ := cz4 BK130.out; obtain ⟨hfz26_0, hfz26_1, hfz26_2, hfz26_3⟩ := fz4 BK130.out; obtain ⟨hcz27_0, hcz27_1⟩ := cz2 BK131.out; obtain ⟨hfz27_0, hfz27_1⟩ := fz2 BK131.out) | (go_at_call 13; (with_reducible refine (impl_ValOk.calls k _ _ l0_0 _ _ l0_1 _ _ l0_2 _ _ l0_3 a1_0 a1_1 true _ ?side1 ?side2 ?side3 ?side4 ?side5 ?side6 ?side7 ?side8 A6.out).mono ?_); (case side1 => exact cz (Kd.C_below HR0_0.out HB.out)); (case side2 => exact HC0_0.out); (case side3 => exact cz (Kd.C_below HR0_1.out HB.out)); (case side4 => exact HC0_1.out); (case side5 => exact cz (Kd.C_below HR0_2.out HB.out)); (case side6 => exact HC0_2.out); (case side7 => exact cz (Kd.C_below HR0_3.out HB.out)); (case side8 => exact HC0_3.out); rintro e w28 ⟨rfl, hb⟩; replace BK130 := Aside0.mk (blk_below (kz BK130.out) hb); replace BK131 := Aside0.mk (blk_below (kz BK131.out) hb); replace HB := Aside0.mk (below_step (bz2 HB.out GE130.out GE131.out) hb); (try clear hb); (try clear hi)) | (go_at_call 42; (with_reducible refine (impl_in.calls a2 0 8 false _ A8.out).mono ?_); rintro e w' ⟨rfl, ⟨nd, rfl⟩⟩))
    go_ret
    exact ⟨gz, (bz2 HB.out GE130.out GE131.out)⟩
  ·replace c7 := Bool.eq_false_iff.mpr c7
   subst c7
   have H1 := hq H
   clear H
   have H := H1
   clear H1
   obtain rfl := Option.some.inj H
   go_enter Tryd.func16, Tryd.ntmps16
   go_wp2_with (first | ((with_reducible refine gate_dst (N := 3) rfl ?_); refine box_event ?hg (N := 3) ?hd (cs := #[.slice A0_0 l0_0.length c0_0, .slice A0_1 l0_1.length c0_1, .slice A0_2 l0_2.length c0_2, .slice A0_3 l0_3.length c0_3]) (t := 29) ?hr ?_; (case hd => rfl); (case hg => rfl); (case hr => exact vz); intro gb130 hg w29 hbox hb; have BK130 := Aside0.mk (hbox); have GW130 := Aside0.mk ((by rw [hg]; exact (below_size (bz0 HB.out)) : w.heap.size <= gb130)); have GE130 := Aside0.mk ((by rw [hg]; exact (below_size (bz0 HB.out)) : w.heap.size <= gb130)); replace HB := Aside0.mk (below_step (bz0 HB.out) hb); clear hb hbox hg) | ((with_reducible refine gate_dst (N := 4) rfl ?_); refine box_event ?hg (N := 4) ?hd (cs := #[.int .i64 a1_0, .int .i64 a1_1]) (t := 35) ?hr ?_; (case hd => rfl); (case hg => rfl); (case hr => exact vz); intro gb131 hg w30 hbox hb; have BK131 := Aside0.mk (hbox); have GW131 := Aside0.mk ((by rw [hg]; exact (below_size (bz1 HB.out GE130.out)) : w.heap.size <= gb131)); have GE131 := Aside0.mk ((by rw [hg]; exact (below_size (bz1 HB.out GE130.out)) : w.heap.size <= gb131)); replace HB := Aside0.mk (below_step (bz1 HB.out GE130.out) hb); have NB130_131 := Aside0.mk ((by rw [hg]; exact Nat.ne_of_lt (blk_lt (g := gb130) (o := .cells #[.slice A0_0 l0_0.length c0_0, .slice A0_1 l0_1.length c0_1, .slice A0_2 l0_2.length c0_2, .slice A0_3 l0_3.length c0_3] 29 (0, 0)) (kz BK130.out)) : gb130 ≠ gb131)); have NB131_130 := Aside0.mk ((by rw [hg]; exact Nat.ne_of_gt (blk_lt (g := gb130) (o := .cells #[.slice A0_0 l0_0.length c0_0, .slice A0_1 l0_1.length c0_1, .slice A0_2 l0_2.length c0_2, .slice A0_3 l0_3.length c0_3] 29 (0, 0)) (kz BK130.out)) : gb131 ≠ gb130)); replace BK130 := Aside0.mk (blk_below (kz BK130.out) hb); clear hb hbox hg; have hnb31 := NB130_131.out; have hnc31 := NB131_130.out; obtain ⟨hcz32_0, hcz32_1, hcz32_2, hcz32_3⟩ := cz4 BK130.out; obtain ⟨hfz32_0, hfz32_1, hfz32_2, hfz32_3⟩ := fz4 BK130.out) | ((with_reducible refine gate_callee (f := 41) rfl ?_); refine goesL_ (some 8) rfl rfl Tryd.func41 (by kernel_rfl) rfl #[.agg #[.slice A0_0 l0_0.length c0_0, .slice A0_1 l0_1.length c0_1, .slice A0_2 l0_2.length c0_2, .slice A0_3 l0_3.length c0_3]] rfl lz ?_; (with_reducible refine (impl_HeapOk.calls k _ _ l0_0 _ _ l0_1 _ _ l0_2 _ _ l0_3 true _ ?side1 ?side2 ?side3 ?side4 ?side5 ?side6 ?side7 ?side8 A4.out).mono ?_); (case side1 => exact cz (Kd.C_below HR0_0.out HB.out)); (case side2 => exact HC0_0.out); (case side3 => exact cz (Kd.C_below HR0_1.out HB.out)); (case side4 => exact HC0_1.out); (case side5 => exact cz (Kd.C_below HR0_2.out HB.out)); (case side6 => exact HC0_2.out); (case side7 => exact cz (Kd.C_below HR0_3.out HB.out)); (case side8 => exact HC0_3.out); rintro e w33 ⟨rfl, hb⟩; refine ⟨_, rfl, ?_⟩; replace BK130 := Aside0.mk (blk_below (kz BK130.out) hb); replace BK131 := Aside0.mk (blk_below (kz BK131.out) hb); replace HB := Aside0.mk (below_step (bz2 HB.out GE130.out GE131.out) hb); (try clear hb); obtain ⟨hcz34_0, hcz34_1, hcz34_2, hcz34_3⟩ := cz4 BK130.out; obtain ⟨hfz34_0, hfz34_1, hfz34_2, hfz34_3⟩ := fz4 BK130.out; obtain ⟨hcz35_0, hcz35_1⟩ := cz2 BK131.out; obtain ⟨hfz35_0, hfz35_1⟩ := fz2 BK131.out) | (go_at_call 13; (with_reducible refine (impl_ValOk.calls k _ _ l0_0 _ _ l0_1 _ _ l0_2 _ _ l0_3 a1_0 a1_1 false _ ?side1 ?side2 ?side3 ?side4 ?side5 ?side6 ?side7 ?side8 A6.out).mono ?_); (case side1 => exact cz (Kd.C_below HR0_0.out HB.out)); (case side2 => exact HC0_0.out); (case side3 => exact cz (Kd.C_below HR0_1.out HB.out)); (case side4 => exact HC0_1.out); (case side5 => exact cz (Kd.C_below HR0_2.out HB.out)); (case side6 => exact HC0_2.out); (case side7 => exact cz (Kd.C_below HR0_3.out HB.out)); (case side8 => exact HC0_3.out); rintro e w36 ⟨rfl, hb⟩; replace BK130 := Aside0.mk (blk_below (kz BK130.out) hb); replace BK131 := Aside0.mk (blk_below (kz BK131.out) hb); replace HB := Aside0.mk (below_step (bz2 HB.out GE130.out GE131.out) hb); (try clear hb); (try clear hi)))
   go_ret
   exact ⟨gz, (bz2 HB.out GE130.out GE131.out)⟩
 ·replace c5 := Bool.eq_false_iff.mpr c5
  subst c5
  have H1 := hq H
  clear H
  have H := H1
  clear H1
  obtain rfl := Option.some.inj H
  go_enter Tryd.func16, Tryd.ntmps16
  go_wp2_with (first | ((with_reducible refine gate_dst (N := 3) rfl ?_); refine box_event ?hg (N := 3) ?hd (cs := #[.slice A0_0 l0_0.length c0_0, .slice A0_1 l0_1.length c0_1, .slice A0_2 l0_2.length c0_2, .slice A0_3 l0_3.length c0_3]) (t := 29) ?hr ?_; (case hd => rfl); (case hg => rfl); (case hr => exact vz); intro gb130 hg w37 hbox hb; have BK130 := Aside0.mk (hbox); have GW130 := Aside0.mk ((by rw [hg]; exact (below_size (bz0 HB.out)) : w.heap.size <= gb130)); have GE130 := Aside0.mk ((by rw [hg]; exact (below_size (bz0 HB.out)) : w.heap.size <= gb130)); replace HB := Aside0.mk (below_step (bz0 HB.out) hb); clear hb hbox hg) | ((with_reducible refine gate_dst (N := 4) rfl ?_); refine box_event ?hg (N := 4) ?hd (cs := #[.int .i64 a1_0, .int .i64 a1_1]) (t := 35) ?hr ?_; (case hd => rfl); (case hg => rfl); (case hr => exact vz); intro gb131 hg w38 hbox hb; have BK131 := Aside0.mk (hbox); have GW131 := Aside0.mk ((by rw [hg]; exact (below_size (bz1 HB.out GE130.out)) : w.heap.size <= gb131)); have GE131 := Aside0.mk ((by rw [hg]; exact (below_size (bz1 HB.out GE130.out)) : w.heap.size <= gb131)); replace HB := Aside0.mk (below_step (bz1 HB.out GE130.out) hb); have NB130_131 := Aside0.mk ((by rw [hg]; exact Nat.ne_of_lt (blk_lt (g := gb130) (o := .cells #[.slice A0_0 l0_0.length c0_0, .slice A0_1 l0_1.length c0_1, .slice A0_2 l0_2.length c0_2, .slice A0_3 l0_3.length c0_3] 29 (0, 0)) (kz BK130.out)) : gb130 ≠ gb131)); have NB131_130 := Aside0.mk ((by rw [hg]; exact Nat.ne_of_gt (blk_lt (g := gb130) (o := .cells #[.slice A0_0 l0_0.length c0_0, .slice A0_1 l0_1.length c0_1, .slice A0_2 l0_2.length c0_2, .slice A0_3 l0_3.length c0_3] 29 (0, 0)) (kz BK130.out)) : gb131 ≠ gb130)); replace BK130 := Aside0.mk (blk_below (kz BK130.out) hb); clear hb hbox hg; have hnb39 := NB130_131.out; have hnc39 := NB131_130.out; obtain ⟨hcz40_0, hcz40_1, hcz40_2, hcz40_3⟩ := cz4 BK130.out; obtain ⟨hfz40_0, hfz40_1, hfz40_2, hfz40_3⟩ := fz4 BK130.out) | ((with_reducible refine gate_callee (f := 41) rfl ?_); refine goesL_ (some 8) rfl rfl Tryd.func41 (by kernel_rfl) rfl #[.agg #[.slice A0_0 l0_0.length c0_0, .slice A0_1 l0_1.length c0_1, .slice A0_2 l0_2.length c0_2, .slice A0_3 l0_3.length c0_3]] rfl lz ?_; (with_reducible refine (impl_HeapOk.calls k _ _ l0_0 _ _ l0_1 _ _ l0_2 _ _ l0_3 false _ ?side1 ?side2 ?side3 ?side4 ?side5 ?side6 ?side7 ?side8 A4.out).mono ?_); (case side1 => exact cz (Kd.C_below HR0_0.out HB.out)); (case side2 => exact HC0_0.out); (case side3 => exact cz (Kd.C_below HR0_1.out HB.out)); (case side4 => exact HC0_1.out); (case side5 => exact cz (Kd.C_below HR0_2.out HB.out)); (case side6 => exact HC0_2.out); (case side7 => exact cz (Kd.C_below HR0_3.out HB.out)); (case side8 => exact HC0_3.out); rintro e w41 ⟨rfl, hb⟩; refine ⟨_, rfl, ?_⟩; replace BK130 := Aside0.mk (blk_below (kz BK130.out) hb); replace BK131 := Aside0.mk (blk_below (kz BK131.out) hb); replace HB := Aside0.mk (below_step (bz2 HB.out GE130.out GE131.out) hb); (try clear hb); (try clear hi)))
  go_ret
  exact ⟨gz, (bz2 HB.out GE130.out GE131.out)⟩
def laws_szEnvCellS.f (l0 : List (S130)) (a1 : Int) : Option (Int) := if (wrap64 (a1 - (l0.length : Int))) < 0 then (some (-1)) else (some (wrap64 (a1 - (l0.length : Int))))
set_option maxHeartbeats 8000000 in
set_option maxRecDepth 100000 in
theorem laws_szEnvCellS.calls (A0 : Option Addr) (c0 : Nat) (l0 : List (S130)) (a1 : Int) (r : Int) (w : World) (hr0 : Kd.C k130 w A0 l0.length l0) (hc0 : l0.length <= c0) (h : laws_szEnvCellS.f l0 a1 = some r) :
  Calls Tryd.prog 62 #[.slice A0 l0.length c0, .int .i64 a1] w fun e w' => e = .returned (.int .i64 r) /\ Drawn0 w w' := by
 have HR0 := Aside0.mk hr0
 have HC0 := Aside0.mk hc0
 clear hr0 hc0
 have H : (if (wrap64 (a1 - (l0.length : Int))) < 0 then (some (-1)) else (some (wrap64 (a1 - (l0.length : Int))))) = some r := h
 clear h
 by_cases c3 : (wrap64 (a1 - (l0.length : Int))) < 0
 ·rw [if_pos c3] at H
  have c3b0 := decide_eq_true c3
  clear c3
  obtain rfl := Option.some.inj H
  go_enter Tryd.func62, Tryd.ntmps62
  go_wp2
  go_ret
  exact ⟨e2z, dz⟩
 ·rw [if_neg c3] at H
  have c3b0 := decide_eq_false c3
  clear c3
  obtain rfl := Option.some.inj H
  go_enter Tryd.func62, Tryd.ntmps62
  go_wp2
  go_ret
  exact ⟨e2z, dz⟩
end Go.Proofs.YtlhofeikcaejpaaDoor.PFnExactShowVal
