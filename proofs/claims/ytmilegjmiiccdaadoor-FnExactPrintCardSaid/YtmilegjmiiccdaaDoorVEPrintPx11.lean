/- PFnExactPrintx11, of the words and walks that the law FnExactPrint needs; made by this session's program out of printed texts. -/

import Derived.Test.YtmilegjmiiccdaaDoorVEPrintPx0
import Derived.Test.YtmilegjmiiccdaaDoorVEPrintPx9
import Derived.Test.YtmilegjmiiccdaaDoorVEPrintPx10
namespace Go.Proofs.YtmilegjmiiccdaaDoor.PFnExactPrint
open Go.RowKit Go.Proofs.YtmilegjmiiccdaaDoorW.PrintWords Go.Proofs.YtmilegjmiiccdaaDoorW.PrintLast Go.Proofs.YtmilegjmiiccdaaDoorW.PrintMore
attribute [local go_sem] max2_int min2_int max_two min_two max_three min_three max_four min_four
set_option linter.unusedVariables false
set_option linter.unusedSimpArgs false
mutual
def impl_printNode.l0 : Nat -> List (S43) -> ByteArray -> List ByteArray -> List ByteArray -> List Int -> Int -> Option (ByteArray)
 | 0, _, _, _, _, _, _ => none
 | k + 1, x0, x8, x9, x10, x11, x12 => if x12 < (x8.size : Int) then (if 0 <= x12 then (if (bt x8 x12) = 110 then (if 0 < (x10.length : Int) then (if x9.length < 8796093022208 then (if 1 <= (x10.length : Int) then (impl_printNode.l0 k x0 x8 (x9 ++ [rdOf ByteArray.empty x10 0]) (x10.drop (1 : Int).toNat) x11 (wrap64 (x12 + 1))) else (none)) else (none)) else (none)) else (if 0 < (x11.length : Int) then ((impl_printNode.f k x0 (rd x11 0)).bind fun t338 => (if x9.length < 8796093022208 then (if 1 <= (x11.length : Int) then (impl_printNode.l0 k x0 x8 (x9 ++ [t338]) x10 (x11.drop 1) (wrap64 (x12 + 1))) else (none)) else (none))) else (none))) else (none)) else ((strings_Join.f x9 (⟨#[32]⟩ : ByteArray)).bind fun t347 => (if 1 + t347.size <= 9223372036854775807 then (if ((⟨#[40]⟩ : ByteArray) ++ t347).size + 1 <= 9223372036854775807 then (some (((⟨#[40]⟩ : ByteArray) ++ t347) ++ (⟨#[41]⟩ : ByteArray))) else (none)) else (none)))
def impl_printNode.f : Nat -> List (S43) -> Int -> Option (ByteArray)
 | 0, _, _ => none
 | k + 1, l0, a1 => if 0 <= a1 then (if a1 < (l0.length : Int) then (if ((rd_T43 l0 a1).f0) = 2 then ((impl_Dec.f ((rd_T43 l0 a1).f4)).bind fun t310 => (some t310)) else (if ((rd_T43 l0 a1).f0) = 1 then (some ((rd_T43 l0 a1).f5)) else (if ((rd_T43 l0 a1).f0) = 12 then (some (⟨#[110, 105, 108]⟩ : ByteArray)) else ((impl_KeyOf.f k ((rd_T43 l0 a1).f0) ((rd_T43 l0 a1).f1) ((rd_T43 l0 a1).f2) ((rd_T43 l0 a1).f3) ((rd_T43 l0 a1).f4) ((rd_T43 l0 a1).f5) ((rd_T43 l0 a1).f6)).bind fun t311 => ((impl_formOf.f t311).bind fun bt312 => ((impl_Kids.f k ((rd_T43 l0 a1).f0) ((rd_T43 l0 a1).f1) ((rd_T43 l0 a1).f2) ((rd_T43 l0 a1).f3) ((rd_T43 l0 a1).f4) ((rd_T43 l0 a1).f5) ((rd_T43 l0 a1).f6)).bind fun t327 => (impl_printNode.l0 k l0 bt312.2.2.2.2.2.2.2 (([t311] : List ByteArray)) (([(rd_T43 l0 a1).f5, (rd_T43 l0 a1).f6] : List ByteArray)) t327 0))))))) else (none)) else (none)
end
theorem impl_printNode.mono_l : ∀ k, (∀ y0 y1, LeO (impl_printNode.f k y0 y1) (impl_printNode.f (k + 1) y0 y1)) /\ (∀ y0 y1 y2 y3 y4 y5, LeO (impl_printNode.l0 k y0 y1 y2 y3 y4 y5) (impl_printNode.l0 (k + 1) y0 y1 y2 y3 y4 y5))
 | 0 => ⟨fun _ _ r h => by simp [impl_printNode.f] at h, fun _ _ _ _ _ _ r h => by simp [impl_printNode.l0] at h⟩
 | k + 1 => by
  obtain ⟨ih0, ih1⟩ := impl_printNode.mono_l k
  refine ⟨?_, ?_⟩
  ·intro y0 y1
   unfold impl_printNode.f
   with_reducible repeat' first | exact ih0 _ _ | exact ih1 _ _ _ _ _ _ | exact impl_KeyOf.mono _ _ _ _ _ _ _ _ | exact impl_Kids.mono _ _ _ _ _ _ _ _ | exact lrz _ | exact lnz _ | refine liz ?_ ?_ | refine lbz ?_ fun _ => ?_
  ·intro y0 y1 y2 y3 y4 y5
   unfold impl_printNode.l0
   with_reducible repeat' first | exact ih0 _ _ | exact ih1 _ _ _ _ _ _ | exact impl_KeyOf.mono _ _ _ _ _ _ _ _ | exact impl_Kids.mono _ _ _ _ _ _ _ _ | exact lrz _ | exact lnz _ | refine liz ?_ ?_ | refine lbz ?_ fun _ => ?_
theorem impl_printNode.mono : ∀ a0 a1 k, LeO (impl_printNode.f k a0 a1) (impl_printNode.f (k + 1) a0 a1) := by
 intro a0 a1 k
 obtain ⟨ih0, ih1⟩ := impl_printNode.mono_l k
 exact ih0 a0 a1
set_option maxHeartbeats 8000000 in
set_option maxRecDepth 100000 in
theorem impl_printNode.calls (k : Nat) : ∀ (A0 : Option Addr) (c0 : Nat) (l0 : List (S43)) (a1 : Int) (r : ByteArray) (w : World) (hr0 : Kd.C k43 w A0 l0.length l0) (hc0 : l0.length <= c0) (h : impl_printNode.f k l0 a1 = some r) (hT_ : PW w),
  Calls Tryd.prog 37 #[.slice A0 l0.length c0, .int .i64 a1] w fun e w' => e = .returned (.string r) /\ Below w.heap.size w w' := by
 induction k using Nat.strongRecOn with
 | _ k ih =>
 intro A0 c0 l0 a1 r w hr0 hc0 h hT_
 cases k with
 | zero => exact absurd h (by simp [impl_printNode.f])
 | succ k =>
 simp only [impl_printNode.f] at h
 have hu43 := Tryd.underlying43
 have HR0 := Aside0.mk hr0
 have HC0 := Aside0.mk hc0
 clear hr0 hc0
 have HB := Aside0.mk (Below.refl w.heap.size w)
 have H : (if 0 <= a1 then (if a1 < (l0.length : Int) then (if ((rd_T43 l0 a1).f0) = 2 then ((impl_Dec.f ((rd_T43 l0 a1).f4)).bind fun t310 => (some t310)) else (if ((rd_T43 l0 a1).f0) = 1 then (some ((rd_T43 l0 a1).f5)) else (if ((rd_T43 l0 a1).f0) = 12 then (some (⟨#[110, 105, 108]⟩ : ByteArray)) else ((impl_KeyOf.f k ((rd_T43 l0 a1).f0) ((rd_T43 l0 a1).f1) ((rd_T43 l0 a1).f2) ((rd_T43 l0 a1).f3) ((rd_T43 l0 a1).f4) ((rd_T43 l0 a1).f5) ((rd_T43 l0 a1).f6)).bind fun t311 => ((impl_formOf.f t311).bind fun bt312 => ((impl_Kids.f k ((rd_T43 l0 a1).f0) ((rd_T43 l0 a1).f1) ((rd_T43 l0 a1).f2) ((rd_T43 l0 a1).f3) ((rd_T43 l0 a1).f4) ((rd_T43 l0 a1).f5) ((rd_T43 l0 a1).f6)).bind fun t327 => (impl_printNode.l0 k l0 bt312.2.2.2.2.2.2.2 (([t311] : List ByteArray)) (([(rd_T43 l0 a1).f5, (rd_T43 l0 a1).f6] : List ByteArray)) t327 0))))))) else (none)) else (none)) = some r := h
 clear h
 replace H := iz H
 obtain ⟨c3, H⟩ := H
 have c3b0 := decide_eq_true c3
 clear c3
 replace H := iz H
 obtain ⟨c4, H⟩ := H
 have c4b0 := decide_eq_true c4
 clear c4
 by_cases c5 : ((rd_T43 l0 a1).f0) = 2
 ·rw [if_pos c5] at H
  have c5b0 : (((rd_T43 l0 a1).f0) == 2) = true := beq_iff_eq.mpr c5
  have c5b1 : (((rd_T43 l0 a1).f0) != 2) = false := bne_eq_false_iff_eq.mpr c5
  clear c5
  replace H := bi H
  obtain ⟨t310, A60, H⟩ := H
  try dsimp only at H
  have A6 := Aside0.mk A60
  clear A60
  obtain rfl := Option.some.inj H
  have p308 : 0 <= (a1 : Int) := oz
  have q308 : a1 < (l0.length : Int) := oz
  obtain ⟨ad308, e308, hx308_0, hx308_1, hx308_2, hx308_3, hx308_4, hx308_5, hx308_6⟩ := at_T43 HR0.out a1 p308 q308
  cases e308
  replace p308 := eq_true p308
  replace q308 := eq_true q308
  go_enter Tryd.func37, Tryd.ntmps37
  go_wp2_with (first | ((with_reducible refine gate_dst (N := 5) rfl ?_); refine box_event ?hg (N := 5) ?hd (cs := #[.int .i64 0, .int .i64 0, .int .i64 0, .int .i64 0, .int .i64 0, .string (⟨#[]⟩ : ByteArray), .string (⟨#[]⟩ : ByteArray)]) (t := 43) ?hr ?_; (case hd => rfl); (case hg => rfl); (case hr => exact vz); intro gb309 hg w7 hbox hb; have BK309 := Aside0.mk (hbox); have GW309 := Aside0.mk ((by rw [hg]; exact (below_size (bz0 HB.out)) : w.heap.size <= gb309)); have GE309 := Aside0.mk ((by rw [hg]; exact (below_size (bz0 HB.out)) : w.heap.size <= gb309)); replace HB := Aside0.mk (below_step (bz0 HB.out) hb); clear hb hbox hg; obtain ⟨hcz8_0, hcz8_1, hcz8_2, hcz8_3, hcz8_4, hcz8_5, hcz8_6⟩ := cz7 BK309.out; obtain ⟨hfz8_0, hfz8_1, hfz8_2, hfz8_3, hfz8_4, hfz8_5, hfz8_6⟩ := fz7 BK309.out) | ((with_reducible refine gate_callee (f := 70) rfl ?_); refine goesL_ (some 23) rfl rfl Tryd.func70 (by kernel_rfl) rfl #[.int .i64 ((rd_T43 l0 a1).f4)] rfl lz ?_; (with_reducible refine (impl_Dec.calls ((rd_T43 l0 a1).f4) t310 _ A6.out ?hT_).mono ?_); (case hT_ => exact PW.below hT_ (bz1 HB.out GE309.out)); rintro e w9 ⟨rfl, hb⟩; refine ⟨_, rfl, ?_⟩; replace BK309 := Aside0.mk (blk_below (g := gb309) (o := .cells #[.int .i64 ((rd_T43 l0 a1).f0), .int .i64 ((rd_T43 l0 a1).f1), .int .i64 ((rd_T43 l0 a1).f2), .int .i64 ((rd_T43 l0 a1).f3), .int .i64 ((rd_T43 l0 a1).f4), .string ((rd_T43 l0 a1).f5), .string ((rd_T43 l0 a1).f6)] 43 (0, 0)) (by refine kq ?_; refine blk_put (cs := #[.int .i64 ((rd_T43 l0 a1).f0), .int .i64 ((rd_T43 l0 a1).f1), .int .i64 ((rd_T43 l0 a1).f2), .int .i64 ((rd_T43 l0 a1).f3), .int .i64 ((rd_T43 l0 a1).f4), .string ((rd_T43 l0 a1).f5), .string (⟨#[]⟩ : ByteArray)]) ?_ 6 _ rfl; refine kq ?_; refine blk_put (cs := #[.int .i64 ((rd_T43 l0 a1).f0), .int .i64 ((rd_T43 l0 a1).f1), .int .i64 ((rd_T43 l0 a1).f2), .int .i64 ((rd_T43 l0 a1).f3), .int .i64 ((rd_T43 l0 a1).f4), .string (⟨#[]⟩ : ByteArray), .string (⟨#[]⟩ : ByteArray)]) ?_ 5 _ rfl; refine kq ?_; refine blk_put (cs := #[.int .i64 ((rd_T43 l0 a1).f0), .int .i64 ((rd_T43 l0 a1).f1), .int .i64 ((rd_T43 l0 a1).f2), .int .i64 ((rd_T43 l0 a1).f3), .int .i64 0, .string (⟨#[]⟩ : ByteArray), .string (⟨#[]⟩ : ByteArray)]) ?_ 4 _ rfl; refine kq ?_; refine blk_put (cs := #[.int .i64 ((rd_T43 l0 a1).f0), .int .i64 ((rd_T43 l0 a1).f1), .int .i64 ((rd_T43 l0 a1).f2), .int .i64 0, .int .i64 0, .string (⟨#[]⟩ : ByteArray), .string (⟨#[]⟩ : ByteArray)]) ?_ 3 _ rfl; refine kq ?_; refine blk_put (cs := #[.int .i64 ((rd_T43 l0 a1).f0), .int .i64 ((rd_T43 l0 a1).f1), .int .i64 0, .int .i64 0, .int .i64 0, .string (⟨#[]⟩ : ByteArray), .string (⟨#[]⟩ : ByteArray)]) ?_ 2 _ rfl; refine kq ?_; refine blk_put (cs := #[.int .i64 ((rd_T43 l0 a1).f0), .int .i64 0, .int .i64 0, .int .i64 0, .int .i64 0, .string (⟨#[]⟩ : ByteArray), .string (⟨#[]⟩ : ByteArray)]) ?_ 1 _ rfl; refine kq ?_; refine blk_put (cs := #[.int .i64 0, .int .i64 0, .int .i64 0, .int .i64 0, .int .i64 0, .string (⟨#[]⟩ : ByteArray), .string (⟨#[]⟩ : ByteArray)]) ?_ 0 _ rfl; refine kq ?_; exact BK309.out) hb); replace HB := Aside0.mk (below_step (bz1 HB.out GE309.out) hb); (try clear hb); (try clear hi)))
  go_ret
  exact ⟨gz, (bz1 HB.out GE309.out)⟩
 ·rw [if_neg c5] at H
  have c5b0 : (((rd_T43 l0 a1).f0) == 2) = false := beq_eq_false_iff_ne.mpr c5
  have c5b1 : (((rd_T43 l0 a1).f0) != 2) = true := bne_iff_ne.mpr c5
  by_cases c10 : ((rd_T43 l0 a1).f0) = 1
  ·rw [if_pos c10] at H
   have c10b0 : (((rd_T43 l0 a1).f0) == 1) = true := beq_iff_eq.mpr c10
   have c10b1 : (((rd_T43 l0 a1).f0) != 1) = false := bne_eq_false_iff_eq.mpr c10
   clear c10
   obtain rfl := Option.some.inj H
   have p308 : 0 <= (a1 : Int) := oz
   have q308 : a1 < (l0.length : Int) := oz
   obtain ⟨ad308, e308, hx308_0, hx308_1, hx308_2, hx308_3, hx308_4, hx308_5, hx308_6⟩ := at_T43 HR0.out a1 p308 q308
   cases e308
   replace p308 := eq_true p308
   replace q308 := eq_true q308
   go_enter Tryd.func37, Tryd.ntmps37
   go_wp2_with (first | ((with_reducible refine gate_dst (N := 5) rfl ?_); refine box_event ?hg (N := 5) ?hd (cs := #[.int .i64 0, .int .i64 0, .int .i64 0, .int .i64 0, .int .i64 0, .string (⟨#[]⟩ : ByteArray), .string (⟨#[]⟩ : ByteArray)]) (t := 43) ?hr ?_; (case hd => rfl); (case hg => rfl); (case hr => exact vz); intro gb309 hg w11 hbox hb; have BK309 := Aside0.mk (hbox); have GW309 := Aside0.mk ((by rw [hg]; exact (below_size (bz0 HB.out)) : w.heap.size <= gb309)); have GE309 := Aside0.mk ((by rw [hg]; exact (below_size (bz0 HB.out)) : w.heap.size <= gb309)); replace HB := Aside0.mk (below_step (bz0 HB.out) hb); clear hb hbox hg; obtain ⟨hcz12_0, hcz12_1, hcz12_2, hcz12_3, hcz12_4, hcz12_5, hcz12_6⟩ := cz7 BK309.out; obtain ⟨hfz12_0, hfz12_1, hfz12_2, hfz12_3, hfz12_4, hfz12_5, hfz12_6⟩ := fz7 BK309.out))
   go_ret
   exact ⟨gz, (bz1 HB.out GE309.out)⟩
  ·rw [if_neg c10] at H
   have c10b0 : (((rd_T43 l0 a1).f0) == 1) = false := beq_eq_false_iff_ne.mpr c10
   have c10b1 : (((rd_T43 l0 a1).f0) != 1) = true := bne_iff_ne.mpr c10
   by_cases c13 : ((rd_T43 l0 a1).f0) = 12
   ·rw [if_pos c13] at H
    have c13b0 : (((rd_T43 l0 a1).f0) == 12) = true := beq_iff_eq.mpr c13
    have c13b1 : (((rd_T43 l0 a1).f0) != 12) = false := bne_eq_false_iff_eq.mpr c13
    clear c13
    obtain rfl := Option.some.inj H
    have p308 : 0 <= (a1 : Int) := oz
    have q308 : a1 < (l0.length : Int) := oz
    obtain ⟨ad308, e308, hx308_0, hx308_1, hx308_2, hx308_3, hx308_4, hx308_5, hx308_6⟩ := at_T43 HR0.out a1 p308 q308
    cases e308
    replace p308 := eq_true p308
    replace q308 := eq_true q308
    go_enter Tryd.func37, Tryd.ntmps37
    go_wp2_with (first | ((with_reducible refine gate_dst (N := 5) rfl ?_); refine box_event ?hg (N := 5) ?hd (cs := #[.int .i64 0, .int .i64 0, .int .i64 0, .int .i64 0, .int .i64 0, .string (⟨#[]⟩ : ByteArray), .string (⟨#[]⟩ : ByteArray)]) (t := 43) ?hr ?_; (case hd => rfl); (case hg => rfl); (case hr => exact vz); intro gb309 hg w14 hbox hb; have BK309 := Aside0.mk (hbox); have GW309 := Aside0.mk ((by rw [hg]; exact (below_size (bz0 HB.out)) : w.heap.size <= gb309)); have GE309 := Aside0.mk ((by rw [hg]; exact (below_size (bz0 HB.out)) : w.heap.size <= gb309)); replace HB := Aside0.mk (below_step (bz0 HB.out) hb); clear hb hbox hg; obtain ⟨hcz15_0, hcz15_1, hcz15_2, hcz15_3, hcz15_4, hcz15_5, hcz15_6⟩ := cz7 BK309.out; obtain ⟨hfz15_0, hfz15_1, hfz15_2, hfz15_3, hfz15_4, hfz15_5, hfz15_6⟩ := fz7 BK309.out))
    go_ret
    exact ⟨gz, (bz1 HB.out GE309.out)⟩
   ·rw [if_neg c13] at H
    have c13b0 : (((rd_T43 l0 a1).f0) == 12) = false := beq_eq_false_iff_ne.mpr c13
    have c13b1 : (((rd_T43 l0 a1).f0) != 12) = true := bne_iff_ne.mpr c13
    replace H := bi H
    obtain ⟨t311, A160, H⟩ := H
    try dsimp only at H
    have A16 := Aside0.mk A160
    clear A160
    replace H := bi H
    obtain ⟨⟨t312, t313, t314, t315, t316, t317, t318, t319⟩, A170, H⟩ := H
    try dsimp only at H
    have A17 := Aside0.mk A170
    clear A170
    obtain ⟨y321, hy321⟩ : ∃ y_ : List ByteArray, y_ = (([t311] : List ByteArray)) := ⟨_, rfl⟩
    replace H : ((impl_Kids.f k ((rd_T43 l0 a1).f0) ((rd_T43 l0 a1).f1) ((rd_T43 l0 a1).f2) ((rd_T43 l0 a1).f3) ((rd_T43 l0 a1).f4) ((rd_T43 l0 a1).f5) ((rd_T43 l0 a1).f6)).bind fun t327 => (impl_printNode.l0 k l0 t319 y321 (([(rd_T43 l0 a1).f5, (rd_T43 l0 a1).f6] : List ByteArray)) t327 0)) = some r := yz hy321 H
    have Ny321 := Aside0.mk hy321
    clear hy321
    obtain ⟨y324, hy324⟩ : ∃ y_ : List ByteArray, y_ = (([(rd_T43 l0 a1).f5, (rd_T43 l0 a1).f6] : List ByteArray)) := ⟨_, rfl⟩
    replace H : ((impl_Kids.f k ((rd_T43 l0 a1).f0) ((rd_T43 l0 a1).f1) ((rd_T43 l0 a1).f2) ((rd_T43 l0 a1).f3) ((rd_T43 l0 a1).f4) ((rd_T43 l0 a1).f5) ((rd_T43 l0 a1).f6)).bind fun t327 => (impl_printNode.l0 k l0 t319 y321 y324 t327 0)) = some r := yz hy324 H
    have Ny324 := Aside0.mk hy324
    clear hy324
    replace H := bi H
    obtain ⟨t327, A180, H⟩ := H
    try dsimp only at H
    have A18 := Aside0.mk A180
    clear A180
    have H' := Aside0.mk H
    clear H
    have p308 : 0 <= (a1 : Int) := oz
    have q308 : a1 < (l0.length : Int) := oz
    obtain ⟨ad308, e308, hx308_0, hx308_1, hx308_2, hx308_3, hx308_4, hx308_5, hx308_6⟩ := at_T43 HR0.out a1 p308 q308
    cases e308
    replace p308 := eq_true p308
    replace q308 := eq_true q308
    go_enter Tryd.func37, Tryd.ntmps37
    go_wp2_with (first | ((with_reducible refine gate_dst (N := 5) rfl ?_); refine box_event ?hg (N := 5) ?hd (cs := #[.int .i64 0, .int .i64 0, .int .i64 0, .int .i64 0, .int .i64 0, .string (⟨#[]⟩ : ByteArray), .string (⟨#[]⟩ : ByteArray)]) (t := 43) ?hr ?_; (case hd => rfl); (case hg => rfl); (case hr => exact vz); intro gb309 hg w19 hbox hb; have BK309 := Aside0.mk (hbox); have GW309 := Aside0.mk ((by rw [hg]; exact (below_size (bz0 HB.out)) : w.heap.size <= gb309)); have GE309 := Aside0.mk ((by rw [hg]; exact (below_size (bz0 HB.out)) : w.heap.size <= gb309)); replace HB := Aside0.mk (below_step (bz0 HB.out) hb); clear hb hbox hg; obtain ⟨hcz20_0, hcz20_1, hcz20_2, hcz20_3, hcz20_4, hcz20_5, hcz20_6⟩ := cz7 BK309.out; obtain ⟨hfz20_0, hfz20_1, hfz20_2, hfz20_3, hfz20_4, hfz20_5, hfz20_6⟩ := fz7 BK309.out) | ((with_reducible refine gate_callee (f := 71) rfl ?_); refine goesL_ (some 31) rfl rfl Tryd.func71 (by kernel_rfl) rfl #[.agg #[.int .i64 ((rd_T43 l0 a1).f0), .int .i64 ((rd_T43 l0 a1).f1), .int .i64 ((rd_T43 l0 a1).f2), .int .i64 ((rd_T43 l0 a1).f3), .int .i64 ((rd_T43 l0 a1).f4), .string ((rd_T43 l0 a1).f5), .string ((rd_T43 l0 a1).f6)]] rfl lz ?_; (with_reducible refine (impl_KeyOf.calls k ((rd_T43 l0 a1).f0) ((rd_T43 l0 a1).f1) ((rd_T43 l0 a1).f2) ((rd_T43 l0 a1).f3) ((rd_T43 l0 a1).f4) ((rd_T43 l0 a1).f5) ((rd_T43 l0 a1).f6) t311 _ A16.out).mono ?_); rintro e w21 ⟨rfl, hb⟩; refine ⟨_, rfl, ?_⟩; replace BK309 := Aside0.mk (blk_below (g := gb309) (o := .cells #[.int .i64 ((rd_T43 l0 a1).f0), .int .i64 ((rd_T43 l0 a1).f1), .int .i64 ((rd_T43 l0 a1).f2), .int .i64 ((rd_T43 l0 a1).f3), .int .i64 ((rd_T43 l0 a1).f4), .string ((rd_T43 l0 a1).f5), .string ((rd_T43 l0 a1).f6)] 43 (0, 0)) (by refine kq ?_; refine blk_put (cs := #[.int .i64 ((rd_T43 l0 a1).f0), .int .i64 ((rd_T43 l0 a1).f1), .int .i64 ((rd_T43 l0 a1).f2), .int .i64 ((rd_T43 l0 a1).f3), .int .i64 ((rd_T43 l0 a1).f4), .string ((rd_T43 l0 a1).f5), .string (⟨#[]⟩ : ByteArray)]) ?_ 6 _ rfl; refine kq ?_; refine blk_put (cs := #[.int .i64 ((rd_T43 l0 a1).f0), .int .i64 ((rd_T43 l0 a1).f1), .int .i64 ((rd_T43 l0 a1).f2), .int .i64 ((rd_T43 l0 a1).f3), .int .i64 ((rd_T43 l0 a1).f4), .string (⟨#[]⟩ : ByteArray), .string (⟨#[]⟩ : ByteArray)]) ?_ 5 _ rfl; refine kq ?_; refine blk_put (cs := #[.int .i64 ((rd_T43 l0 a1).f0), .int .i64 ((rd_T43 l0 a1).f1), .int .i64 ((rd_T43 l0 a1).f2), .int .i64 ((rd_T43 l0 a1).f3), .int .i64 0, .string (⟨#[]⟩ : ByteArray), .string (⟨#[]⟩ : ByteArray)]) ?_ 4 _ rfl; refine kq ?_; refine blk_put (cs := #[.int .i64 ((rd_T43 l0 a1).f0), .int .i64 ((rd_T43 l0 a1).f1), .int .i64 ((rd_T43 l0 a1).f2), .int .i64 0, .int .i64 0, .string (⟨#[]⟩ : ByteArray), .string (⟨#[]⟩ : ByteArray)]) ?_ 3 _ rfl; refine kq ?_; refine blk_put (cs := #[.int .i64 ((rd_T43 l0 a1).f0), .int .i64 ((rd_T43 l0 a1).f1), .int .i64 0, .int .i64 0, .int .i64 0, .string (⟨#[]⟩ : ByteArray), .string (⟨#[]⟩ : ByteArray)]) ?_ 2 _ rfl; refine kq ?_; refine blk_put (cs := #[.int .i64 ((rd_T43 l0 a1).f0), .int .i64 0, .int .i64 0, .int .i64 0, .int .i64 0, .string (⟨#[]⟩ : ByteArray), .string (⟨#[]⟩ : ByteArray)]) ?_ 1 _ rfl; refine kq ?_; refine blk_put (cs := #[.int .i64 0, .int .i64 0, .int .i64 0, .int .i64 0, .int .i64 0, .string (⟨#[]⟩ : ByteArray), .string (⟨#[]⟩ : ByteArray)]) ?_ 0 _ rfl; refine kq ?_; exact BK309.out) hb); replace HB := Aside0.mk (below_step (bz1 HB.out GE309.out) hb); (try clear hb); (try clear hk); (try clear hi)) | ((with_reducible refine gate_callee (f := 72) rfl ?_); refine goesL_ (some 34) rfl rfl Tryd.func72 (by kernel_rfl) rfl #[.string t311] rfl lz ?_; (with_reducible refine (impl_formOf.calls t311 t312 t313 t314 t315 t316 t317 t318 t319 _ A17.out).mono ?_); rintro e w22 ⟨rfl, hb⟩; refine ⟨_, rfl, ?_⟩; replace BK309 := Aside0.mk (blk_below (kz BK309.out) hb); replace HB := Aside0.mk (below_step (bz1 HB.out GE309.out) hb); (try clear hb); (try clear hk); (try clear hi)) | ((with_reducible refine gate_dst (N := 7) rfl ?_); refine box_event ?hg (N := 7) ?hd (cs := #[.int .i64 0, .int .i64 0, .int .i64 0, .int .i64 0, .int .i64 0, .string (⟨#[]⟩ : ByteArray), .string (⟨#[]⟩ : ByteArray)]) (t := 43) ?hr ?_; (case hd => rfl); (case hg => rfl); (case hr => exact vz); intro gb320 hg w23 hbox hb; have BK320 := Aside0.mk (hbox); have GW320 := Aside0.mk ((by rw [hg]; exact (below_size (bz1 HB.out GE309.out)) : w.heap.size <= gb320)); have GE320 := Aside0.mk ((by rw [hg]; exact (below_size (bz1 HB.out GE309.out)) : w.heap.size <= gb320)); replace HB := Aside0.mk (below_step (bz1 HB.out GE309.out) hb); have NB309_320 := Aside0.mk ((by rw [hg]; exact Nat.ne_of_lt (blk_lt (g := gb309) (o := .cells #[.int .i64 ((rd_T43 l0 a1).f0), .int .i64 ((rd_T43 l0 a1).f1), .int .i64 ((rd_T43 l0 a1).f2), .int .i64 ((rd_T43 l0 a1).f3), .int .i64 ((rd_T43 l0 a1).f4), .string ((rd_T43 l0 a1).f5), .string ((rd_T43 l0 a1).f6)] 43 (0, 0)) (kz BK309.out)) : gb309 ≠ gb320)); have NB320_309 := Aside0.mk ((by rw [hg]; exact Nat.ne_of_gt (blk_lt (g := gb309) (o := .cells #[.int .i64 ((rd_T43 l0 a1).f0), .int .i64 ((rd_T43 l0 a1).f1), .int .i64 ((rd_T43 l0 a1).f2), .int .i64 ((rd_T43 l0 a1).f3), .int .i64 ((rd_T43 l0 a1).f4), .string ((rd_T43 l0 a1).f5), .string ((rd_T43 l0 a1).f6)] 43 (0, 0)) (kz BK309.out)) : gb320 ≠ gb309)); replace BK309 := Aside0.mk (blk_below (kz BK309.out) hb); clear hb hbox hg; have hnb24 := NB320_309.out; have hnc24 := NB309_320.out; obtain ⟨hcz25_0, hcz25_1, hcz25_2, hcz25_3, hcz25_4, hcz25_5, hcz25_6⟩ := cz7 BK320.out; obtain ⟨hfz25_0, hfz25_1, hfz25_2, hfz25_3, hfz25_4, hfz25_5, hfz25_6⟩ := fz7 BK320.out) | ((with_reducible refine gate_dst (N := 38) rfl ?_); refine Kd.R_lit Kd.string _ 9 ?hg (N := 38) ?hd (xs := ([t311] : List ByteArray)) (inner := [.string t311]) (ok := fun _ => True) (okp := fun _ => True) ?hr ?hp (fun _ hk => hk) trivial (Below.refl _ _) (Nat.le_refl _) (by simp) ?_; (case hd => rfl); (case hg => rfl); (case hr => exact vz); (case hp => exact (Reps.one (show Kd.M Kd.string _ _ _ t311 [.string t311] from rfl) (Reps.none _ _))); intro v322 w26 ho27 hb hg_ hnew_; clear hg_ hnew_; (first | rw [<- Ny321.out] at ho27 | (simp only [Int.reduceToNat] at ho27; rw [<- Ny321.out] at ho27)); have HO323 := Aside0.mk (Kd.R_lower ho27 (below_size (bz2 HB.out GE309.out GE320.out))); replace BK309 := Aside0.mk (blk_below (g := gb309) (o := .cells #[.int .i64 ((rd_T43 l0 a1).f0), .int .i64 ((rd_T43 l0 a1).f1), .int .i64 ((rd_T43 l0 a1).f2), .int .i64 ((rd_T43 l0 a1).f3), .int .i64 ((rd_T43 l0 a1).f4), .string ((rd_T43 l0 a1).f5), .string ((rd_T43 l0 a1).f6)] 43 (0, 0)) (by refine kq ?_; refine blk_far ?_ NB309_320.out _; refine kq ?_; refine blk_far ?_ NB309_320.out _; refine kq ?_; refine blk_far ?_ NB309_320.out _; refine kq ?_; refine blk_far ?_ NB309_320.out _; refine kq ?_; refine blk_far ?_ NB309_320.out _; refine kq ?_; refine blk_far ?_ NB309_320.out _; refine kq ?_; refine blk_far ?_ NB309_320.out _; refine kq ?_; exact BK309.out) hb); replace BK320 := Aside0.mk (blk_below (g := gb320) (o := .cells #[.int .i64 t312, .int .i64 t313, .int .i64 t314, .int .i64 t315, .int .i64 t316, .string t317, .string t318] 43 (0, 0)) (by refine kq ?_; refine blk_put (cs := #[.int .i64 t312, .int .i64 t313, .int .i64 t314, .int .i64 t315, .int .i64 t316, .string t317, .string (⟨#[]⟩ : ByteArray)]) ?_ 6 _ rfl; refine kq ?_; refine blk_put (cs := #[.int .i64 t312, .int .i64 t313, .int .i64 t314, .int .i64 t315, .int .i64 t316, .string (⟨#[]⟩ : ByteArray), .string (⟨#[]⟩ : ByteArray)]) ?_ 5 _ rfl; refine kq ?_; refine blk_put (cs := #[.int .i64 t312, .int .i64 t313, .int .i64 t314, .int .i64 t315, .int .i64 0, .string (⟨#[]⟩ : ByteArray), .string (⟨#[]⟩ : ByteArray)]) ?_ 4 _ rfl; refine kq ?_; refine blk_put (cs := #[.int .i64 t312, .int .i64 t313, .int .i64 t314, .int .i64 0, .int .i64 0, .string (⟨#[]⟩ : ByteArray), .string (⟨#[]⟩ : ByteArray)]) ?_ 3 _ rfl; refine kq ?_; refine blk_put (cs := #[.int .i64 t312, .int .i64 t313, .int .i64 0, .int .i64 0, .int .i64 0, .string (⟨#[]⟩ : ByteArray), .string (⟨#[]⟩ : ByteArray)]) ?_ 2 _ rfl; refine kq ?_; refine blk_put (cs := #[.int .i64 t312, .int .i64 0, .int .i64 0, .int .i64 0, .int .i64 0, .string (⟨#[]⟩ : ByteArray), .string (⟨#[]⟩ : ByteArray)]) ?_ 1 _ rfl; refine kq ?_; refine blk_put (cs := #[.int .i64 0, .int .i64 0, .int .i64 0, .int .i64 0, .int .i64 0, .string (⟨#[]⟩ : ByteArray), .string (⟨#[]⟩ : ByteArray)]) ?_ 0 _ rfl; refine kq ?_; exact BK320.out) hb); replace HB := Aside0.mk (below_step (bz2 HB.out GE309.out GE320.out) hb); clear hb ho27; obtain ⟨hcz28_0, hcz28_1, hcz28_2, hcz28_3, hcz28_4, hcz28_5, hcz28_6⟩ := cz7 BK309.out; obtain ⟨hfz28_0, hfz28_1, hfz28_2, hfz28_3, hfz28_4, hfz28_5, hfz28_6⟩ := fz7 BK309.out) | ((with_reducible refine gate_dst (N := 43) rfl ?_); refine Kd.R_lit Kd.string _ 9 ?hg (N := 43) ?hd (xs := ([(rd_T43 l0 a1).f5, (rd_T43 l0 a1).f6] : List ByteArray)) (inner := [.string ((rd_T43 l0 a1).f5), .string ((rd_T43 l0 a1).f6)]) (ok := fun _ => True) (okp := fun _ => True) ?hr ?hp (fun _ hk => hk) trivial (Below.refl _ _) (Nat.le_refl _) (by simp) ?_; (case hd => rfl); (case hg => rfl); (case hr => exact vz); (case hp => exact (Reps.one (show Kd.M Kd.string _ _ _ ((rd_T43 l0 a1).f5) [.string ((rd_T43 l0 a1).f5)] from rfl) (Reps.one (show Kd.M Kd.string _ _ _ ((rd_T43 l0 a1).f6) [.string ((rd_T43 l0 a1).f6)] from rfl) (Reps.none _ _)))); intro v325 w29 ho30 hb hg_ hnew_; clear hg_ hnew_; (first | rw [<- Ny324.out] at ho30 | (simp only [Int.reduceToNat] at ho30; rw [<- Ny324.out] at ho30)); have HO326 := Aside0.mk (Kd.R_lower (Kd.R_new' ho30 (Kd.R_lt (rz HO323.out))) (below_size (bz2 HB.out GE309.out GE320.out))); replace HO323 := Aside0.mk (Kd.R_elder' (rz HO323.out) (Kd.R_base ho30) hb); replace BK309 := Aside0.mk (blk_below (kz BK309.out) hb); replace BK320 := Aside0.mk (blk_below (kz BK320.out) hb); replace HB := Aside0.mk (below_step (bz2 HB.out GE309.out GE320.out) hb); clear hb ho30; obtain ⟨hcz31_0, hcz31_1, hcz31_2, hcz31_3, hcz31_4, hcz31_5, hcz31_6⟩ := cz7 BK309.out; obtain ⟨hfz31_0, hfz31_1, hfz31_2, hfz31_3, hfz31_4, hfz31_5, hfz31_6⟩ := fz7 BK309.out) | ((with_reducible refine gate_callee (f := 69) rfl ?_); refine goesL_ (some 45) rfl rfl Tryd.func69 (by kernel_rfl) rfl #[.agg #[.int .i64 ((rd_T43 l0 a1).f0), .int .i64 ((rd_T43 l0 a1).f1), .int .i64 ((rd_T43 l0 a1).f2), .int .i64 ((rd_T43 l0 a1).f3), .int .i64 ((rd_T43 l0 a1).f4), .string ((rd_T43 l0 a1).f5), .string ((rd_T43 l0 a1).f6)]] rfl lz ?_; (with_reducible refine (impl_Kids.calls k ((rd_T43 l0 a1).f0) ((rd_T43 l0 a1).f1) ((rd_T43 l0 a1).f2) ((rd_T43 l0 a1).f3) ((rd_T43 l0 a1).f4) ((rd_T43 l0 a1).f5) ((rd_T43 l0 a1).f6) t327 _ A18.out).mono ?_); rintro e w32 ⟨v328, rfl, ho0, hb⟩; refine ⟨_, rfl, ?_⟩; have HO329 := Aside0.mk (Kd.V_lower (Kd.V_mono (ok' := fun k_ => some k_ ≠ (v322 : Value).ownBlock /\ some k_ ≠ (v325 : Value).ownBlock /\ k_ ≠ gb309 /\ k_ ≠ gb320) ho0 (fun k_ hk_ => ⟨(Kd.fresh' (Kd.R_lt (rz HO323.out)) k_ hk_), (Kd.fresh' (Kd.R_lt (rz HO326.out)) k_ hk_), (Kd.freshB (g := gb309) (o := .cells #[.int .i64 ((rd_T43 l0 a1).f0), .int .i64 ((rd_T43 l0 a1).f1), .int .i64 ((rd_T43 l0 a1).f2), .int .i64 ((rd_T43 l0 a1).f3), .int .i64 ((rd_T43 l0 a1).f4), .string ((rd_T43 l0 a1).f5), .string ((rd_T43 l0 a1).f6)] 43 (0, 0)) (kz BK309.out) k_ hk_), (Kd.freshB (g := gb320) (o := .cells #[.int .i64 t312, .int .i64 t313, .int .i64 t314, .int .i64 t315, .int .i64 t316, .string t317, .string t318] 43 (0, 0)) (kz BK320.out) k_ hk_)⟩)) (below_size (bz2 HB.out GE309.out GE320.out))); replace HO323 := qz HO323 hb; replace HO326 := qz HO326 hb; replace BK309 := Aside0.mk (blk_below (kz BK309.out) hb); replace BK320 := Aside0.mk (blk_below (kz BK320.out) hb); replace HB := Aside0.mk (below_step (bz2 HB.out GE309.out GE320.out) hb); (try clear hb); (try clear hk); (try clear ho0)))
    (try simp only [Act.put, sz1, sz2, sz3])
    go_loopg [9, 10, 11, 12] k (fun kq v9 v10 v11 v12 w' => ∃ (x9_1 : List ByteArray) (x10_1 : List ByteArray) (x11_1 : List Int) (x12_1 : Int), v12 = .int .i64 x12_1 /\ Aside0 (impl_printNode.l0 kq l0 t319 x9_1 x10_1 x11_1 x12_1 = some r) /\ Aside0 (kq <= k) /\ Aside0 (Kd.R Kd.string 9 w' w.heap.size (fun k_ => some k_ ≠ (v10 : Value).ownBlock) v9 x9_1) /\ Aside0 (Kd.Q Kd.string 9 w' w.heap.size (fun k_ => some k_ ≠ (v9 : Value).ownBlock) v10 x10_1) /\ Aside0 (Kd.V (Kd.int .i64) 3 w' w.heap.size (fun k_ => some k_ ≠ (v9 : Value).ownBlock /\ some k_ ≠ (v10 : Value).ownBlock /\ k_ ≠ gb309 /\ k_ ≠ gb320) v11 x11_1) /\ Aside0 (w'.heap[gb309]? = some (.cells #[.int .i64 ((rd_T43 l0 a1).f0), .int .i64 ((rd_T43 l0 a1).f1), .int .i64 ((rd_T43 l0 a1).f2), .int .i64 ((rd_T43 l0 a1).f3), .int .i64 ((rd_T43 l0 a1).f4), .string ((rd_T43 l0 a1).f5), .string ((rd_T43 l0 a1).f6)] 43 (0, 0))) /\ Aside0 (w'.heap[gb320]? = some (.cells #[.int .i64 t312, .int .i64 t313, .int .i64 t314, .int .i64 t315, .int .i64 t316, .string t317, .string t318] 43 (0, 0))) /\ Aside0 (Below w.heap.size w w'))
    case atStart => exact ⟨(y321), (y324), (t327), (0), ez, H', ⟨Nat.le_refl _⟩, ⟨by refine rq ?_; exact Kd.R_mono HO323.out (fun _ hk => hk.2)⟩, ⟨Kd.Q_of_R (by refine rq ?_; exact Kd.R_mono HO326.out (fun _ hk => hk.2))⟩, ⟨by (with_reducible repeat (first | apply Kd.V_alloc | apply Kd.V_drewN | apply Kd.V_drew)); exact HO329.out⟩, ⟨by refine kq ?_; exact BK309.out⟩, ⟨by refine kq ?_; exact BK320.out⟩, ⟨(bz2 HB.out GE309.out GE320.out)⟩⟩
    case round =>
     clear H'
     try clear c1
     try clear c2
     try clear p2
     try clear c3
     try clear c3b0
     try clear p3
     try clear q3
     try clear hx3
     try clear c4
     try clear c4b0
     try clear c5
     try clear c5b0
     try clear c5b1
     try clear c6
     try clear c7
     try clear c10
     try clear c10b0
     try clear c10b1
     try clear c13
     try clear c13b0
     try clear c13b1
     try clear c24
     try clear p30
     try clear q30
     try clear hx30
     try clear hcz12_0 hcz12_1 hcz12_2 hcz12_3 hcz12_4 hcz12_5 hcz12_6
     try clear hcz15_0 hcz15_1 hcz15_2 hcz15_3 hcz15_4 hcz15_5 hcz15_6
     try clear hcz20_0 hcz20_1 hcz20_2 hcz20_3 hcz20_4 hcz20_5 hcz20_6
     try clear hcz25_0 hcz25_1 hcz25_2 hcz25_3 hcz25_4 hcz25_5 hcz25_6
     try clear hcz28_0 hcz28_1 hcz28_2 hcz28_3 hcz28_4 hcz28_5 hcz28_6
     try clear hcz31_0 hcz31_1 hcz31_2 hcz31_3 hcz31_4 hcz31_5 hcz31_6
     try clear hcz8_0 hcz8_1 hcz8_2 hcz8_3 hcz8_4 hcz8_5 hcz8_6
     try clear hfz12_0 hfz12_1 hfz12_2 hfz12_3 hfz12_4 hfz12_5 hfz12_6
     try clear hfz15_0 hfz15_1 hfz15_2 hfz15_3 hfz15_4 hfz15_5 hfz15_6
     try clear hfz20_0 hfz20_1 hfz20_2 hfz20_3 hfz20_4 hfz20_5 hfz20_6
     try clear hfz25_0 hfz25_1 hfz25_2 hfz25_3 hfz25_4 hfz25_5 hfz25_6
     try clear hfz28_0 hfz28_1 hfz28_2 hfz28_3 hfz28_4 hfz28_5 hfz28_6
     try clear hfz31_0 hfz31_1 hfz31_2 hfz31_3 hfz31_4 hfz31_5 hfz31_6
     try clear hfz8_0 hfz8_1 hfz8_2 hfz8_3 hfz8_4 hfz8_5 hfz8_6
     try clear hx308_0
     try clear hx308_1
     try clear hx308_2
     try clear hx308_3
     try clear hx308_4
     try clear hx308_5
     try clear hx308_6
     try clear p308
     try clear q308
     obtain ⟨x9_1, x10_1, x11_1, x12_1, rfl, HA, HK1, HO_9, HO_10, HO_11, BK309, BK320, HB⟩ := hrel
     cases gk with
     | zero => exact absurd HA.out (by simp [impl_printNode.l0])
     | succ k1 =>
      have H := HA.out
      clear HA
      simp only [impl_printNode.l0] at H
      by_cases c33 : x12_1 < (t319.size : Int)
      ·rw [if_pos c33] at H
       have c33b0 := decide_eq_true c33
       clear c33
       replace H := iz H
       obtain ⟨c34, H⟩ := H
       have c34b0 := decide_eq_true c34
       clear c34
       by_cases c36 : (bt t319 x12_1) = 110
       ·rw [if_pos c36] at H
        have c36b0 : ((bt t319 x12_1) == 110) = true := beq_iff_eq.mpr c36
        have c36b1 : ((bt t319 x12_1) != 110) = false := bne_eq_false_iff_eq.mpr c36
        clear c36
        replace H := iz H
        obtain ⟨c37, H⟩ := H
        have c37b0 := decide_eq_true c37
        have c37b1 : decide (0 < x10_1.length) = true := decide_eq_true (by omega)
        clear c37
        replace H := iz H
        obtain ⟨c38, H⟩ := H
        have LMc38 := Aside0.mk c38
        clear c38
        obtain ⟨y331, hy331⟩ : ∃ y_ : List ByteArray, y_ = (x9_1 ++ [rdOf ByteArray.empty x10_1 0]) := ⟨_, rfl⟩
        replace H : (if 1 <= (x10_1.length : Int) then (impl_printNode.l0 k1 l0 t319 y331 (x10_1.drop (1 : Int).toNat) x11_1 (wrap64 (x12_1 + 1))) else (none)) = some r := yz hy331 H
        have Ny331 := Aside0.mk hy331
        clear hy331
        replace H := iz H
        obtain ⟨c39, H⟩ := H
        have c39b0 := eq_true c39
        have c39b1 : decide (1 <= (x10_1.length : Int)) = true := decide_eq_true c39
        clear c39
        obtain ⟨y334, hy334⟩ : ∃ y_ : List ByteArray, y_ = (x10_1.drop (1 : Int).toNat) := ⟨_, rfl⟩
        replace H : (impl_printNode.l0 k1 l0 t319 y331 y334 x11_1 (wrap64 (x12_1 + 1))) = some r := yz hy334 H
        have Ny334 := Aside0.mk hy334
        clear hy334
        have H' := Aside0.mk H
        clear H
        have p35 : 0 <= (x12_1 : Int) := oz
        have q35 : x12_1 < (t319.size : Int) := oz
        have hx35 := bt_at t319 x12_1
        replace p35 := eq_true p35
        replace q35 := eq_true q35
        obtain ⟨Ao40, co40, eo40, _⟩ := Kd.Q_slice HO_10.out
        subst eo40
        have p330 : 0 <= (0 : Int) := (by omega)
        have q330 : 0 < (x10_1.length : Int) := oz
        obtain ⟨ad330, e330, hx330_0⟩ := Kd.at_string (Kd.Q_reads' HO_10.out).2.2 0 p330 q330
        cases e330
        have qi330 : (0 < x10_1.length) = True := eq_true (by omega)
        (try rw [show ((0 : Int)).toNat = 0 from rfl] at hx330_0)
        (try rw [Addr.add_zero'] at hx330_0)
        replace p330 := eq_true p330
        replace q330 := eq_true q330
        go_wp2_with (first | ((with_reducible refine gate_builtin (b := .append) (xs := #[.tmp 56, .tmp 60]) rfl ?_); at_builtin; refine Kd.R_append Kd.string (w0 := w) w.heap.size rfl (.tmp 56) (.tmp 60) 32 9 (.string ⟨#[]⟩) 16 rfl Tryd.underlying32 info9 rfl (by decide) (by omega) u9 x9_1 (rdOf ByteArray.empty x10_1 0) [.string (rdOf ByteArray.empty x10_1 0)] (fun k_ => some k_ ≠ (.slice (some ad330) x10_1.length co40 : Value).ownBlock) (fun _ => False) rfl rfl ?aP (fun _ hk => hk.elim) ?aF ?aO ?aB ?aS ?aL ?_; (case aP => exact rfl); (case aB => exact (bz2 HB.out GE309.out GE320.out)); (case aF => exact (fun k_ hk => Kd.fresh' (Kd.Q_lt (by (with_reducible repeat (first | apply Kd.Q_alloc | apply Kd.Q_drewN | apply Kd.Q_drew)); exact HO_10.out)) k_ hk)); (case aO => exact (rz HO_9.out)); (case aS => exact (below_size (bz2 HB.out GE309.out GE320.out))); (case aL => have := LMc38.out; omega); intro v332 w41 ho hb hg hat; rw [<- Ny331.out] at ho; have n0_ := Aside0.mk (Kd.Q_after (ok := (fun _ => True)) (by (with_reducible repeat (first | apply Kd.Q_alloc | apply Kd.Q_drewN | apply Kd.Q_drew)); exact Kd.Q_mono HO_10.out (fun _ hk => ⟨trivial, hk⟩)) hg hat); have n1_ := Aside0.mk (Kd.V_afterv (ok := (fun k_ => some k_ ≠ (.slice (some ad330) x10_1.length co40 : Value).ownBlock /\ k_ ≠ gb309 /\ k_ ≠ gb320)) (by (with_reducible repeat (first | apply Kd.V_alloc | apply Kd.V_drewN | apply Kd.V_drew)); exact Kd.V_mono HO_11.out (fun _ hk => ⟨⟨hk.2.1, ⟨hk.2.2.1, hk.2.2.2⟩⟩, hk.1⟩)) hg hat); have n2_ := Aside0.mk (blk_grown (g := gb309) (o := .cells #[.int .i64 ((rd_T43 l0 a1).f0), .int .i64 ((rd_T43 l0 a1).f1), .int .i64 ((rd_T43 l0 a1).f2), .int .i64 ((rd_T43 l0 a1).f3), .int .i64 ((rd_T43 l0 a1).f4), .string ((rd_T43 l0 a1).f5), .string ((rd_T43 l0 a1).f6)] 43 (0, 0)) (kz BK309.out) hg (Kd.R_ne HO_9.out BK309.out (by decide))); have n3_ := Aside0.mk (blk_grown (g := gb320) (o := .cells #[.int .i64 t312, .int .i64 t313, .int .i64 t314, .int .i64 t315, .int .i64 t316, .string t317, .string t318] 43 (0, 0)) (kz BK320.out) hg (Kd.R_ne HO_9.out BK320.out (by decide))); have n4_ := Aside0.mk (hb); have n5_ := Aside0.mk (ho); clear HO_10; clear HO_11; clear BK309; clear BK320; clear HB; clear HO_9; have HO_10 := n0_; have HO_11 := n1_; have BK309 := n2_; have BK320 := n3_; have HB := n4_; have HO333 := n5_; clear n0_ n1_ n2_ n3_ n4_ n5_; clear ho hb hg hat; have n_ := Aside0.mk (Kd.Q_mono (ok' := (fun k_ => some k_ ≠ (v332 : Value).ownBlock)) HO_10.out (fun k_ hk => hk.2)); clear HO_10; have HO_10 := n_; clear n_; have q42 : (1 : Int) <= ((x10_1.length : Int) : Int) := oz; obtain ⟨i042, hi042, _, hsz42, _⟩ := info_parts info9; have hcut42 := cut_from (P := Tryd.prog) 32 9 .i64 Tryd.underlying32 hi042 1 hsz42 (some ad330) x10_1.length co40 1 (by omega) q42; have hr42 := Kd.Q_drop (k := (1 : Int).toNat) HO_10.out (by omega); obtain ⟨A42, hA42⟩ : ∃ A1, A1 = (if co40 = (1 : Int).toNat then (some ad330) else ((some ad330) : Option Addr).map (·.add ((1 : Int).toNat * 1))) := ⟨_, rfl⟩; obtain ⟨c42, hc42⟩ : ∃ c1, c1 = co40 - (1 : Int).toNat := ⟨_, rfl⟩; have hy42 : y334.length = x10_1.length - (1 : Int).toNat := (by rw [Ny334.out, List.length_drop]); rw [<- Ny334.out] at hr42; rw [<- hy42, <- hA42, <- hc42] at hcut42; replace hr42 : Kd.Q Kd.string 9 w41 w.heap.size (fun k_ => some k_ ≠ (v332 : Value).ownBlock) (.slice A42 y334.length c42) y334 := (by rw [hA42, hc42, hy42]; exact hr42); have HE42 : Aside0 ((Value.slice A42 y334.length c42).ownBlock = (.slice (some ad330) x10_1.length co40 : Value).ownBlock) := ⟨by rw [hA42]; split <;> (cases ((some ad330) : Option Addr) <;> rfl)⟩; clear hy42 hi042 hsz42 HO_10 hA42 hc42; have HO336 := Aside0.mk hr42; clear hr42; replace q42 := eq_true q42; have n_ := Aside0.mk (Kd.V_mono (ok' := fun k_ => ((some k_ ≠ (.slice A42 y334.length c42 : Value).ownBlock /\ (k_ ≠ gb309 /\ k_ ≠ gb320)) /\ some k_ ≠ (v332 : Value).ownBlock)) HO_11.out (fun k_ hk => ⟨⟨(by rw [HE42.out]; exact hk.1.1), ⟨hk.1.2.1, hk.1.2.2⟩⟩, hk.2⟩)); clear HO_11; have HO_11 := n_; clear n_; have n_ := Aside0.mk (Kd.R_mono (ok' := fun k_ => some k_ ≠ (.slice A42 y334.length c42 : Value).ownBlock) HO333.out (fun k_ hk => (by rw [HE42.out]; exact hk))); clear HO333; have HO333 := n_; clear n_))
        go_roundg k1
        case measure => have := HK1.out; omega
        case rel => exact ⟨(y331), (y334), (x11_1), (wrap64 (x12_1 + 1)), ez, H', ⟨by have := HK1.out; omega⟩, ⟨by refine rq ?_; exact HO333.out⟩, ⟨by (with_reducible repeat (first | apply Kd.Q_alloc | apply Kd.Q_drewN | apply Kd.Q_drew)); exact HO336.out⟩, ⟨by (with_reducible repeat (first | apply Kd.V_alloc | apply Kd.V_drewN | apply Kd.V_drew)); exact Kd.V_mono HO_11.out (fun _ hk => ⟨hk.2, ⟨hk.1.1, ⟨hk.1.2.1, hk.1.2.2⟩⟩⟩)⟩, ⟨by refine kq ?_; exact BK309.out⟩, ⟨by refine kq ?_; exact BK320.out⟩, ⟨(bz2 HB.out GE309.out GE320.out)⟩⟩
       ·rw [if_neg c36] at H
        have c36b0 : ((bt t319 x12_1) == 110) = false := beq_eq_false_iff_ne.mpr c36
        have c36b1 : ((bt t319 x12_1) != 110) = true := bne_iff_ne.mpr c36
        replace H := iz H
        obtain ⟨c43, H⟩ := H
        have c43b0 := decide_eq_true c43
        have c43b1 : decide (0 < x11_1.length) = true := decide_eq_true (by omega)
        clear c43
        replace H := bi H
        obtain ⟨t338, A440, H⟩ := H
        try dsimp only at H
        have A44 := Aside0.mk A440
        clear A440
        replace H := iz H
        obtain ⟨c45, H⟩ := H
        have LMc45 := Aside0.mk c45
        clear c45
        obtain ⟨y339, hy339⟩ : ∃ y_ : List ByteArray, y_ = (x9_1 ++ [t338]) := ⟨_, rfl⟩
        replace H : (if 1 <= (x11_1.length : Int) then (impl_printNode.l0 k1 l0 t319 y339 x10_1 (x11_1.drop 1) (wrap64 (x12_1 + 1))) else (none)) = some r := yz hy339 H
        have Ny339 := Aside0.mk hy339
        clear hy339
        replace H := iz H
        obtain ⟨c46, H⟩ := H
        have c46b0 := eq_true c46
        have c46b1 : decide (1 <= (x11_1.length : Int)) = true := decide_eq_true c46
        clear c46
        obtain ⟨y342, hy342⟩ : ∃ y_ : List Int, y_ = (x11_1.drop 1) := ⟨_, rfl⟩
        replace H : (impl_printNode.l0 k1 l0 t319 y339 x10_1 y342 (wrap64 (x12_1 + 1))) = some r := yz hy342 H
        have Ny342 := Aside0.mk hy342
        clear hy342
        have H' := Aside0.mk H
        clear H
        have p35 : 0 <= (x12_1 : Int) := oz
        have q35 : x12_1 < (t319.size : Int) := oz
        have hx35 := bt_at t319 x12_1
        replace p35 := eq_true p35
        replace q35 := eq_true q35
        obtain ⟨Ao47, co47, eo47⟩ := Kd.V_slice HO_11.out
        subst eo47
        have p337 : 0 <= (0 : Int) := (by omega)
        have q337 : 0 < (x11_1.length : Int) := oz
        obtain ⟨ad337, e337, hx337_0⟩ := Kd.at_int (Kd.V_reads' HO_11.out).2.2 0 p337 q337
        cases e337
        have qi337 : (0 < x11_1.length) = True := eq_true (by omega)
        (try rw [show ((0 : Int)).toNat = 0 from rfl] at hx337_0)
        (try rw [Addr.add_zero'] at hx337_0)
        replace p337 := eq_true p337
        replace q337 := eq_true q337
        go_wp2_with (first | ((with_reducible refine gate_callee (f := 37) rfl ?_); refine goesL_ (some 69) rfl rfl Tryd.func37 (by kernel_rfl) rfl #[.slice (some ad308) l0.length c0, .int .i64 (rd x11_1 0)] rfl lz ?_; (with_reducible refine (ih k1 (by have := HK1.out; omega) _ _ l0 (rd x11_1 0) t338 _ ?side1 ?side2 A44.out ?hT_).mono ?_); (case hT_ => exact PW.below hT_ (bz2 HB.out GE309.out GE320.out)); (case side1 => exact cz (Kd.C_below HR0.out HB.out)); (case side2 => exact HC0.out); rintro e w48 ⟨rfl, hb⟩; refine ⟨_, rfl, ?_⟩; replace HO_9 := qz HO_9 hb; replace HO_10 := Aside0.mk (Kd.Q_below (by (with_reducible repeat (first | apply Kd.Q_alloc | apply Kd.Q_drewN | apply Kd.Q_drew)); exact HO_10.out) hb); replace HO_11 := Aside0.mk (Kd.V_below (by (with_reducible repeat (first | apply Kd.V_alloc | apply Kd.V_drewN | apply Kd.V_drew)); exact HO_11.out) hb); replace BK309 := Aside0.mk (blk_below (kz BK309.out) hb); replace BK320 := Aside0.mk (blk_below (kz BK320.out) hb); replace HB := Aside0.mk (below_step (bz2 HB.out GE309.out GE320.out) hb); (try clear hb); (try clear hk); (try clear hi)) | ((with_reducible refine gate_builtin (b := .append) (xs := #[.tmp 64, .tmp 70]) rfl ?_); at_builtin; refine Kd.R_append Kd.string (w0 := w) w.heap.size rfl (.tmp 64) (.tmp 70) 32 9 (.string ⟨#[]⟩) 16 rfl Tryd.underlying32 info9 rfl (by decide) (by omega) u9 x9_1 t338 [.string t338] (fun k_ => some k_ ≠ (u10 : Value).ownBlock) (fun _ => False) rfl rfl ?aP (fun _ hk => hk.elim) ?aF ?aO ?aB ?aS ?aL ?_; (case aP => exact rfl); (case aB => exact (bz2 HB.out GE309.out GE320.out)); (case aF => exact (fun k_ hk => Kd.fresh' (Kd.Q_lt (by (with_reducible repeat (first | apply Kd.Q_alloc | apply Kd.Q_drewN | apply Kd.Q_drew)); exact HO_10.out)) k_ hk)); (case aO => exact (rz HO_9.out)); (case aS => exact (below_size (bz2 HB.out GE309.out GE320.out))); (case aL => have := LMc45.out; omega); intro v340 w49 ho hb hg hat; rw [<- Ny339.out] at ho; have n0_ := Aside0.mk (Kd.Q_after (ok := (fun _ => True)) (by (with_reducible repeat (first | apply Kd.Q_alloc | apply Kd.Q_drewN | apply Kd.Q_drew)); exact Kd.Q_mono HO_10.out (fun _ hk => ⟨trivial, hk⟩)) hg hat); have n1_ := Aside0.mk (Kd.V_afterv (ok := (fun k_ => some k_ ≠ (u10 : Value).ownBlock /\ k_ ≠ gb309 /\ k_ ≠ gb320)) (by (with_reducible repeat (first | apply Kd.V_alloc | apply Kd.V_drewN | apply Kd.V_drew)); exact Kd.V_mono HO_11.out (fun _ hk => ⟨⟨hk.2.1, ⟨hk.2.2.1, hk.2.2.2⟩⟩, hk.1⟩)) hg hat); have n2_ := Aside0.mk (blk_grown (g := gb309) (o := .cells #[.int .i64 ((rd_T43 l0 a1).f0), .int .i64 ((rd_T43 l0 a1).f1), .int .i64 ((rd_T43 l0 a1).f2), .int .i64 ((rd_T43 l0 a1).f3), .int .i64 ((rd_T43 l0 a1).f4), .string ((rd_T43 l0 a1).f5), .string ((rd_T43 l0 a1).f6)] 43 (0, 0)) (kz BK309.out) hg (Kd.R_ne HO_9.out BK309.out (by decide))); have n3_ := Aside0.mk (blk_grown (g := gb320) (o := .cells #[.int .i64 t312, .int .i64 t313, .int .i64 t314, .int .i64 t315, .int .i64 t316, .string t317, .string t318] 43 (0, 0)) (kz BK320.out) hg (Kd.R_ne HO_9.out BK320.out (by decide))); have n4_ := Aside0.mk (hb); have n5_ := Aside0.mk (ho); clear HO_10; clear HO_11; clear BK309; clear BK320; clear HB; clear HO_9; have HO_10 := n0_; have HO_11 := n1_; have BK309 := n2_; have BK320 := n3_; have HB := n4_; have HO341 := n5_; clear n0_ n1_ n2_ n3_ n4_ n5_; clear ho hb hg hat; have q50 : (1 : Int) <= ((x11_1.length : Int) : Int) := oz; obtain ⟨i050, hi050, _, hsz50, _⟩ := info_parts info3; have hroom50 : x11_1.length <= co47 := (Kd.V_reads' HO_11.out).2.1; have hC50 : Kd.F (Kd.int .i64) _ _ (some ad337) x11_1.length x11_1 := (Kd.V_at (base := w.heap.size) HO_11.out).2.2; have hcut50 := cut_from (P := Tryd.prog) 47 3 .i64 Tryd.underlying47 hi050 1 hsz50 (some ad337) x11_1.length co47 1 (by omega) q50; have hr50 := Kd.F_cut (m := (1 : Int).toNat) (c := co47) hC50 (by omega) hroom50; obtain ⟨A50, hA50⟩ : ∃ A1, A1 = (if co47 = (1 : Int).toNat then (some ad337) else ((some ad337) : Option Addr).map (·.add ((1 : Int).toNat * 1))) := ⟨_, rfl⟩; obtain ⟨c50, hc50⟩ : ∃ c1, c1 = co47 - (1 : Int).toNat := ⟨_, rfl⟩; have hy50 : y342.length = x11_1.length - (1 : Int).toNat := (by rw [Ny342.out, List.length_drop] <;> omega); rw [show (x11_1).drop (1 : Int).toNat = y342 from Ny342.out.symm] at hr50; replace hr50 : Kd.F (Kd.int .i64) _ _ A50 y342.length y342 := (by rw [hA50]; exact hr50); rw [<- hy50, <- hA50, <- hc50] at hcut50; have HO346 := Aside0.mk (show Kd.V (Kd.int .i64) 3 _ w.heap.size _ (.slice A50 y342.length c50) y342 from Kd.V_mk (by rw [hy50, hc50]; exact Nat.sub_le_sub_right hroom50 _) hr50); have HC346 := Aside0.mk (show y342.length <= c50 from by rw [hy50, hc50]; exact Nat.sub_le_sub_right hroom50 _); clear hr50 hC50 hroom50 hi050 hsz50 hc50; have KY50 := Aside0.mk hy50; have KA50 := Aside0.mk hA50; clear hy50 hA50; replace q50 := eq_true q50))
        go_roundg k1
        case measure => have := HK1.out; omega
        case rel => exact ⟨(y339), (x10_1), (y342), (wrap64 (x12_1 + 1)), ez, H', ⟨by have := HK1.out; omega⟩, ⟨by refine rq ?_; exact HO341.out⟩, ⟨by (with_reducible repeat (first | apply Kd.Q_alloc | apply Kd.Q_drewN | apply Kd.Q_drew)); exact Kd.Q_mono HO_10.out (fun _ hk => hk.2)⟩, ⟨by (with_reducible repeat (first | apply Kd.V_alloc | apply Kd.V_drewN | apply Kd.V_drew)); exact Kd.V_mono HO346.out (fun _ hk => ⟨hk.2, ⟨hk.1.1, ⟨hk.1.2.1, hk.1.2.2⟩⟩⟩)⟩, ⟨by refine kq ?_; exact BK309.out⟩, ⟨by refine kq ?_; exact BK320.out⟩, ⟨(bz2 HB.out GE309.out GE320.out)⟩⟩
      ·rw [if_neg c33] at H
       have c33b0 := decide_eq_false c33
       clear c33
       replace H := bi H
       obtain ⟨t347, A510, H⟩ := H
       try dsimp only at H
       have A51 := Aside0.mk A510
       clear A510
       replace H := iz H
       obtain ⟨c52, H⟩ := H
       have c52b0 := eq_true c52
       have c52b1 : decide (1 + t347.size <= 9223372036854775807) = true := decide_eq_true c52
       try have c52b2 : (9223372036854775807 < 1 + t347.size) = False := eq_false (Nat.not_lt.2 c52)
       replace H := iz H
       obtain ⟨c53, H⟩ := H
       have c53b0 := eq_true c53
       have c53b1 : decide (((⟨#[40]⟩ : ByteArray) ++ t347).size + 1 <= 9223372036854775807) = true := decide_eq_true c53
       try have c53b2 : (9223372036854775807 < ((⟨#[40]⟩ : ByteArray) ++ t347).size + 1) = False := eq_false (Nat.not_lt.2 c53)
       (try (have c53b2z := c53b2; simp only [ByteArray.size_append, show (⟨#[40]⟩ : ByteArray).size = 1 from rfl] at c53b2z))
       obtain rfl := Option.some.inj H
       obtain ⟨Ao54, co54, eo54⟩ := Kd.R_slice HO_9.out
       subst eo54
       go_wp2_with (first | ((with_reducible refine gate_callee (f := 73) rfl ?_); refine goesL_ (some 75) rfl rfl Tryd.func73 (by kernel_rfl) rfl #[.slice Ao54 x9_1.length co54, .string (⟨#[32]⟩ : ByteArray)] rfl lz ?_; (with_reducible refine (strings_Join.calls _ _ x9_1 (⟨#[32]⟩ : ByteArray) t347 _ ?side1 ?side2 A51.out).mono ?_); (case side1 => exact cz (Kd.R_reads' HO_9.out).2.2); (case side2 => exact (Kd.R_reads' HO_9.out).2.1); rintro e w55 ⟨rfl, hb⟩; refine ⟨_, rfl, ?_⟩; replace HO_9 := qz HO_9 hb; replace HO_10 := Aside0.mk (Kd.Q_below (by (with_reducible repeat (first | apply Kd.Q_alloc | apply Kd.Q_drewN | apply Kd.Q_drew)); exact HO_10.out) hb); replace HO_11 := Aside0.mk (Kd.V_below (by (with_reducible repeat (first | apply Kd.V_alloc | apply Kd.V_drewN | apply Kd.V_drew)); exact HO_11.out) hb); replace BK309 := Aside0.mk (blk_below (kz BK309.out) hb); replace BK320 := Aside0.mk (blk_below (kz BK320.out) hb); replace HB := Aside0.mk (below_step (bz2 HB.out GE309.out GE320.out) hb); (try clear hb); (try clear hi)))
       go_ret
       exact ⟨gz, (bz2 HB.out GE309.out GE320.out)⟩
def impl_Print.f (k : Nat) (l0 : List (S43)) : Option (ByteArray) := (impl_NodesOk.f k l0).bind fun t348 => (if t348 = true then ((impl_printNode.f k l0 (wrap64 ((l0.length : Int) - 1))).bind fun t349 => (some t349)) else (some (⟨#[]⟩ : ByteArray)))
theorem impl_Print.mono : ∀ a0 k, LeO (impl_Print.f k a0) (impl_Print.f (k + 1) a0) := by
 intro a0 k
 unfold impl_Print.f
 with_reducible repeat' first | exact impl_NodesOk.mono _ _ | exact impl_printNode.mono _ _ _ | exact lrz _ | exact lnz _ | refine liz ?_ ?_ | refine lbz ?_ fun _ => ?_
set_option maxHeartbeats 8000000 in
set_option maxRecDepth 100000 in
theorem impl_Print.calls (k : Nat) (A0 : Option Addr) (c0 : Nat) (l0 : List (S43)) (r : ByteArray) (w : World) (hr0 : Kd.C k43 w A0 l0.length l0) (hc0 : l0.length <= c0) (h : impl_Print.f k l0 = some r) (hT_ : PW w) :
  Calls Tryd.prog 13 #[.slice A0 l0.length c0] w fun e w' => e = .returned (.string r) /\ Below w.heap.size w w' := by
 have HR0 := Aside0.mk hr0
 have HC0 := Aside0.mk hc0
 clear hr0 hc0
 have HB := Aside0.mk (Below.refl w.heap.size w)
 have H : ((impl_NodesOk.f k l0).bind fun t348 => (if t348 = true then ((impl_printNode.f k l0 (wrap64 ((l0.length : Int) - 1))).bind fun t349 => (some t349)) else (some (⟨#[]⟩ : ByteArray)))) = some r := h
 clear h
 replace H := bi H
 obtain ⟨t348, A20, H⟩ := H
 try dsimp only at H
 have A2 := Aside0.mk A20
 clear A20
 by_cases c3 : t348 = true
 ·subst c3
  have H1 := hp H
  clear H
  have H := H1
  clear H1
  replace H := bi H
  obtain ⟨t349, A40, H⟩ := H
  try dsimp only at H
  have A4 := Aside0.mk A40
  clear A40
  obtain rfl := Option.some.inj H
  go_enter Tryd.func13, Tryd.ntmps13
  go_wp2_with (first | ((with_reducible refine gate_callee (f := 36) rfl ?_); refine goesL_ (some 4) rfl rfl Tryd.func36 (by kernel_rfl) rfl #[.slice A0 l0.length c0] rfl lz ?_; (with_reducible refine (impl_NodesOk.calls k _ _ l0 true _ ?side1 ?side2 A2.out).mono ?_); (case side1 => repeat (first | exact HR0.out | (with_reducible refine Kd.C_alloc ?_ _) | (with_reducible refine Kd.C_drewN ?_ _) | (with_reducible refine Kd.C_drew ?_))); (case side2 => exact HC0.out); rintro e w5 ⟨rfl, hb⟩; refine ⟨_, rfl, ?_⟩; replace HB := Aside0.mk (below_step (bz0 HB.out) hb); (try clear hb); (try clear hi)) | ((with_reducible refine gate_callee (f := 37) rfl ?_); refine goesL_ (some 10) rfl rfl Tryd.func37 (by kernel_rfl) rfl #[.slice A0 l0.length c0, .int .i64 (wrap64 ((l0.length : Int) - 1))] rfl lz ?_; (with_reducible refine (impl_printNode.calls k _ _ l0 (wrap64 ((l0.length : Int) - 1)) t349 _ ?side1 ?side2 A4.out ?hT_).mono ?_); (case hT_ => exact PW.below hT_ (bz0 HB.out)); (case side1 => exact cz (Kd.C_below HR0.out HB.out)); (case side2 => exact HC0.out); rintro e w6 ⟨rfl, hb⟩; refine ⟨_, rfl, ?_⟩; replace HB := Aside0.mk (below_step (bz0 HB.out) hb); (try clear hb); (try clear hi)))
  go_ret
  exact ⟨gz, (bz0 HB.out)⟩
 ·replace c3 := Bool.eq_false_iff.mpr c3
  subst c3
  have H1 := hq H
  clear H
  have H := H1
  clear H1
  obtain rfl := Option.some.inj H
  go_enter Tryd.func13, Tryd.ntmps13
  go_wp2_with (first | ((with_reducible refine gate_callee (f := 36) rfl ?_); refine goesL_ (some 4) rfl rfl Tryd.func36 (by kernel_rfl) rfl #[.slice A0 l0.length c0] rfl lz ?_; (with_reducible refine (impl_NodesOk.calls k _ _ l0 false _ ?side1 ?side2 A2.out).mono ?_); (case side1 => repeat (first | exact HR0.out | (with_reducible refine Kd.C_alloc ?_ _) | (with_reducible refine Kd.C_drewN ?_ _) | (with_reducible refine Kd.C_drew ?_))); (case side2 => exact HC0.out); rintro e w7 ⟨rfl, hb⟩; refine ⟨_, rfl, ?_⟩; replace HB := Aside0.mk (below_step (bz0 HB.out) hb); (try clear hb); (try clear hi)))
  go_ret
  exact ⟨gz, (bz0 HB.out)⟩
def laws_eqNode.f (a0_0 : Int) (a0_1 : Int) (a0_2 : Int) (a0_3 : Int) (a0_4 : Int) (a0_5 : ByteArray) (a0_6 : ByteArray) (a1_0 : Int) (a1_1 : Int) (a1_2 : Int) (a1_3 : Int) (a1_4 : Int) (a1_5 : ByteArray) (a1_6 : ByteArray) : Option (Bool) := if a0_0 = a1_0 then (if a0_1 = a1_1 then (if a0_2 = a1_2 then (if a0_3 = a1_3 then (if a0_4 = a1_4 then (if a0_5.toList = a1_5.toList then (if a0_6.toList = a1_6.toList then (some true) else (some false)) else (some false)) else (some false)) else (some false)) else (some false)) else (some false)) else (some false)
set_option maxHeartbeats 8000000 in
set_option maxRecDepth 100000 in
theorem laws_eqNode.calls (a0_0 : Int) (a0_1 : Int) (a0_2 : Int) (a0_3 : Int) (a0_4 : Int) (a0_5 : ByteArray) (a0_6 : ByteArray) (a1_0 : Int) (a1_1 : Int) (a1_2 : Int) (a1_3 : Int) (a1_4 : Int) (a1_5 : ByteArray) (a1_6 : ByteArray) (r : Bool) (w : World) (h : laws_eqNode.f a0_0 a0_1 a0_2 a0_3 a0_4 a0_5 a0_6 a1_0 a1_1 a1_2 a1_3 a1_4 a1_5 a1_6 = some r) :
  Calls Tryd.prog 38 #[.agg #[.int .i64 a0_0, .int .i64 a0_1, .int .i64 a0_2, .int .i64 a0_3, .int .i64 a0_4, .string a0_5, .string a0_6], .agg #[.int .i64 a1_0, .int .i64 a1_1, .int .i64 a1_2, .int .i64 a1_3, .int .i64 a1_4, .string a1_5, .string a1_6]] w fun e w' => e = .returned (.bool r) /\ Below w.heap.size w w' := by
 have hu43 := Tryd.underlying43
 have HB := Aside0.mk (Below.refl w.heap.size w)
 have H : (if a0_0 = a1_0 then (if a0_1 = a1_1 then (if a0_2 = a1_2 then (if a0_3 = a1_3 then (if a0_4 = a1_4 then (if a0_5.toList = a1_5.toList then (if a0_6.toList = a1_6.toList then (some true) else (some false)) else (some false)) else (some false)) else (some false)) else (some false)) else (some false)) else (some false)) = some r := h
 clear h
 by_cases c3 : a0_0 = a1_0
 ·rw [if_pos c3] at H
  have c3b0 : (a0_0 == a1_0) = true := beq_iff_eq.mpr c3
  have c3b1 : (a0_0 != a1_0) = false := bne_eq_false_iff_eq.mpr c3
  clear c3
  by_cases c4 : a0_1 = a1_1
  ·rw [if_pos c4] at H
   have c4b0 : (a0_1 == a1_1) = true := beq_iff_eq.mpr c4
   have c4b1 : (a0_1 != a1_1) = false := bne_eq_false_iff_eq.mpr c4
   clear c4
   by_cases c5 : a0_2 = a1_2
   ·rw [if_pos c5] at H
    have c5b0 : (a0_2 == a1_2) = true := beq_iff_eq.mpr c5
    have c5b1 : (a0_2 != a1_2) = false := bne_eq_false_iff_eq.mpr c5
    clear c5
    by_cases c6 : a0_3 = a1_3
    ·rw [if_pos c6] at H
     have c6b0 : (a0_3 == a1_3) = true := beq_iff_eq.mpr c6
     have c6b1 : (a0_3 != a1_3) = false := bne_eq_false_iff_eq.mpr c6
     clear c6
     by_cases c7 : a0_4 = a1_4
     ·rw [if_pos c7] at H
      have c7b0 : (a0_4 == a1_4) = true := beq_iff_eq.mpr c7
      have c7b1 : (a0_4 != a1_4) = false := bne_eq_false_iff_eq.mpr c7
      clear c7
      by_cases c8 : a0_5.toList = a1_5.toList
      ·rw [if_pos c8] at H
       have c8b0 : (a0_5.toList == a1_5.toList) = true := beq_iff_eq.mpr c8
       have c8b1 : (a0_5.toList != a1_5.toList) = false := bne_eq_false_iff_eq.mpr c8
       clear c8
       by_cases c9 : a0_6.toList = a1_6.toList
       ·rw [if_pos c9] at H
        have c9b0 : (a0_6.toList == a1_6.toList) = true := beq_iff_eq.mpr c9
        have c9b1 : (a0_6.toList != a1_6.toList) = false := bne_eq_false_iff_eq.mpr c9
        clear c9
        obtain rfl := Option.some.inj H
        go_enter Tryd.func38, Tryd.ntmps38
        go_wp2_with (first | ((with_reducible refine gate_dst (N := 2) rfl ?_); refine box_event ?hg (N := 2) ?hd (cs := #[.int .i64 a0_0, .int .i64 a0_1, .int .i64 a0_2, .int .i64 a0_3, .int .i64 a0_4, .string a0_5, .string a0_6]) (t := 43) ?hr ?_; (case hd => rfl); (case hg => rfl); (case hr => exact vz); intro gb350 hg w10 hbox hb; have BK350 := Aside0.mk (hbox); have GW350 := Aside0.mk ((by rw [hg]; exact (below_size (bz0 HB.out)) : w.heap.size <= gb350)); have GE350 := Aside0.mk ((by rw [hg]; exact (below_size (bz0 HB.out)) : w.heap.size <= gb350)); replace HB := Aside0.mk (below_step (bz0 HB.out) hb); clear hb hbox hg) | ((with_reducible refine gate_dst (N := 3) rfl ?_); refine box_event ?hg (N := 3) ?hd (cs := #[.int .i64 a1_0, .int .i64 a1_1, .int .i64 a1_2, .int .i64 a1_3, .int .i64 a1_4, .string a1_5, .string a1_6]) (t := 43) ?hr ?_; (case hd => rfl); (case hg => rfl); (case hr => exact vz); intro gb351 hg w11 hbox hb; have BK351 := Aside0.mk (hbox); have GW351 := Aside0.mk ((by rw [hg]; exact (below_size (bz1 HB.out GE350.out)) : w.heap.size <= gb351)); have GE351 := Aside0.mk ((by rw [hg]; exact (below_size (bz1 HB.out GE350.out)) : w.heap.size <= gb351)); replace HB := Aside0.mk (below_step (bz1 HB.out GE350.out) hb); have NB350_351 := Aside0.mk ((by rw [hg]; exact Nat.ne_of_lt (blk_lt (g := gb350) (o := .cells #[.int .i64 a0_0, .int .i64 a0_1, .int .i64 a0_2, .int .i64 a0_3, .int .i64 a0_4, .string a0_5, .string a0_6] 43 (0, 0)) (kz BK350.out)) : gb350 ≠ gb351)); have NB351_350 := Aside0.mk ((by rw [hg]; exact Nat.ne_of_gt (blk_lt (g := gb350) (o := .cells #[.int .i64 a0_0, .int .i64 a0_1, .int .i64 a0_2, .int .i64 a0_3, .int .i64 a0_4, .string a0_5, .string a0_6] 43 (0, 0)) (kz BK350.out)) : gb351 ≠ gb350)); replace BK350 := Aside0.mk (blk_below (kz BK350.out) hb); clear hb hbox hg; have hnb12 := NB350_351.out; have hnc12 := NB351_350.out; obtain ⟨hcz13_0, hcz13_1, hcz13_2, hcz13_3, hcz13_4, hcz13_5, hcz13_6⟩ := cz7 BK350.out; obtain ⟨hfz13_0, hfz13_1, hfz13_2, hfz13_3, hfz13_4, hfz13_5, hfz13_6⟩ := fz7 BK350.out; obtain ⟨hcz14_0, hcz14_1, hcz14_2, hcz14_3, hcz14_4, hcz14_5, hcz14_6⟩ := cz7 BK351.out; obtain ⟨hfz14_0, hfz14_1, hfz14_2, hfz14_3, hfz14_4, hfz14_5, hfz14_6⟩ := fz7 BK351.out))
        go_ret
        exact ⟨gz, (bz2 HB.out GE350.out GE351.out)⟩
       ·rw [if_neg c9] at H
        have c9b0 : (a0_6.toList == a1_6.toList) = false := beq_eq_false_iff_ne.mpr c9
        have c9b1 : (a0_6.toList != a1_6.toList) = true := bne_iff_ne.mpr c9
        obtain rfl := Option.some.inj H
        go_enter Tryd.func38, Tryd.ntmps38
        go_wp2_with (first | ((with_reducible refine gate_dst (N := 2) rfl ?_); refine box_event ?hg (N := 2) ?hd (cs := #[.int .i64 a0_0, .int .i64 a0_1, .int .i64 a0_2, .int .i64 a0_3, .int .i64 a0_4, .string a0_5, .string a0_6]) (t := 43) ?hr ?_; (case hd => rfl); (case hg => rfl); (case hr => exact vz); intro gb350 hg w15 hbox hb; have BK350 := Aside0.mk (hbox); have GW350 := Aside0.mk ((by rw [hg]; exact (below_size (bz0 HB.out)) : w.heap.size <= gb350)); have GE350 := Aside0.mk ((by rw [hg]; exact (below_size (bz0 HB.out)) : w.heap.size <= gb350)); replace HB := Aside0.mk (below_step (bz0 HB.out) hb); clear hb hbox hg) | ((with_reducible refine gate_dst (N := 3) rfl ?_); refine box_event ?hg (N := 3) ?hd (cs := #[.int .i64 a1_0, .int .i64 a1_1, .int .i64 a1_2, .int .i64 a1_3, .int .i64 a1_4, .string a1_5, .string a1_6]) (t := 43) ?hr ?_; (case hd => rfl); (case hg => rfl); (case hr => exact vz); intro gb351 hg w16 hbox hb; have BK351 := Aside0.mk (hbox); have GW351 := Aside0.mk ((by rw [hg]; exact (below_size (bz1 HB.out GE350.out)) : w.heap.size <= gb351)); have GE351 := Aside0.mk ((by rw [hg]; exact (below_size (bz1 HB.out GE350.out)) : w.heap.size <= gb351)); replace HB := Aside0.mk (below_step (bz1 HB.out GE350.out) hb); have NB350_351 := Aside0.mk ((by rw [hg]; exact Nat.ne_of_lt (blk_lt (g := gb350) (o := .cells #[.int .i64 a0_0, .int .i64 a0_1, .int .i64 a0_2, .int .i64 a0_3, .int .i64 a0_4, .string a0_5, .string a0_6] 43 (0, 0)) (kz BK350.out)) : gb350 ≠ gb351)); have NB351_350 := Aside0.mk ((by rw [hg]; exact Nat.ne_of_gt (blk_lt (g := gb350) (o := .cells #[.int .i64 a0_0, .int .i64 a0_1, .int .i64 a0_2, .int .i64 a0_3, .int .i64 a0_4, .string a0_5, .string a0_6] 43 (0, 0)) (kz BK350.out)) : gb351 ≠ gb350)); replace BK350 := Aside0.mk (blk_below (kz BK350.out) hb); clear hb hbox hg; have hnb17 := NB350_351.out; have hnc17 := NB351_350.out; obtain ⟨hcz18_0, hcz18_1, hcz18_2, hcz18_3, hcz18_4, hcz18_5, hcz18_6⟩ := cz7 BK350.out; obtain ⟨hfz18_0, hfz18_1, hfz18_2, hfz18_3, hfz18_4, hfz18_5, hfz18_6⟩ := fz7 BK350.out; obtain ⟨hcz19_0, hcz19_1, hcz19_2, hcz19_3, hcz19_4, hcz19_5, hcz19_6⟩ := cz7 BK351.out; obtain ⟨hfz19_0, hfz19_1, hfz19_2, hfz19_3, hfz19_4, hfz19_5, hfz19_6⟩ := fz7 BK351.out))
        go_ret
        exact ⟨gz, (bz2 HB.out GE350.out GE351.out)⟩
      ·rw [if_neg c8] at H
       have c8b0 : (a0_5.toList == a1_5.toList) = false := beq_eq_false_iff_ne.mpr c8
       have c8b1 : (a0_5.toList != a1_5.toList) = true := bne_iff_ne.mpr c8
       obtain rfl := Option.some.inj H
       go_enter Tryd.func38, Tryd.ntmps38
       go_wp2_with (first | ((with_reducible refine gate_dst (N := 2) rfl ?_); refine box_event ?hg (N := 2) ?hd (cs := #[.int .i64 a0_0, .int .i64 a0_1, .int .i64 a0_2, .int .i64 a0_3, .int .i64 a0_4, .string a0_5, .string a0_6]) (t := 43) ?hr ?_; (case hd => rfl); (case hg => rfl); (case hr => exact vz); intro gb350 hg w20 hbox hb; have BK350 := Aside0.mk (hbox); have GW350 := Aside0.mk ((by rw [hg]; exact (below_size (bz0 HB.out)) : w.heap.size <= gb350)); have GE350 := Aside0.mk ((by rw [hg]; exact (below_size (bz0 HB.out)) : w.heap.size <= gb350)); replace HB := Aside0.mk (below_step (bz0 HB.out) hb); clear hb hbox hg) | ((with_reducible refine gate_dst (N := 3) rfl ?_); refine box_event ?hg (N := 3) ?hd (cs := #[.int .i64 a1_0, .int .i64 a1_1, .int .i64 a1_2, .int .i64 a1_3, .int .i64 a1_4, .string a1_5, .string a1_6]) (t := 43) ?hr ?_; (case hd => rfl); (case hg => rfl); (case hr => exact vz); intro gb351 hg w21 hbox hb; have BK351 := Aside0.mk (hbox); have GW351 := Aside0.mk ((by rw [hg]; exact (below_size (bz1 HB.out GE350.out)) : w.heap.size <= gb351)); have GE351 := Aside0.mk ((by rw [hg]; exact (below_size (bz1 HB.out GE350.out)) : w.heap.size <= gb351)); replace HB := Aside0.mk (below_step (bz1 HB.out GE350.out) hb); have NB350_351 := Aside0.mk ((by rw [hg]; exact Nat.ne_of_lt (blk_lt (g := gb350) (o := .cells #[.int .i64 a0_0, .int .i64 a0_1, .int .i64 a0_2, .int .i64 a0_3, .int .i64 a0_4, .string a0_5, .string a0_6] 43 (0, 0)) (kz BK350.out)) : gb350 ≠ gb351)); have NB351_350 := Aside0.mk ((by rw [hg]; exact Nat.ne_of_gt (blk_lt (g := gb350) (o := .cells #[.int .i64 a0_0, .int .i64 a0_1, .int .i64 a0_2, .int .i64 a0_3, .int .i64 a0_4, .string a0_5, .string a0_6] 43 (0, 0)) (kz BK350.out)) : gb351 ≠ gb350)); replace BK350 := Aside0.mk (blk_below (kz BK350.out) hb); clear hb hbox hg; have hnb22 := NB350_351.out; have hnc22 := NB351_350.out; obtain ⟨hcz23_0, hcz23_1, hcz23_2, hcz23_3, hcz23_4, hcz23_5, hcz23_6⟩ := cz7 BK350.out; obtain ⟨hfz23_0, hfz23_1, hfz23_2, hfz23_3, hfz23_4, hfz23_5, hfz23_6⟩ := fz7 BK350.out; obtain ⟨hcz24_0, hcz24_1, hcz24_2, hcz24_3, hcz24_4, hcz24_5, hcz24_6⟩ := cz7 BK351.out; obtain ⟨hfz24_0, hfz24_1, hfz24_2, hfz24_3, hfz24_4, hfz24_5, hfz24_6⟩ := fz7 BK351.out))
       go_ret
       exact ⟨gz, (bz2 HB.out GE350.out GE351.out)⟩
     ·rw [if_neg c7] at H
      have c7b0 : (a0_4 == a1_4) = false := beq_eq_false_iff_ne.mpr c7
      have c7b1 : (a0_4 != a1_4) = true := bne_iff_ne.mpr c7
      obtain rfl := Option.some.inj H
      go_enter Tryd.func38, Tryd.ntmps38
      go_wp2_with (first | ((with_reducible refine gate_dst (N := 2) rfl ?_); refine box_event ?hg (N := 2) ?hd (cs := #[.int .i64 a0_0, .int .i64 a0_1, .int .i64 a0_2, .int .i64 a0_3, .int .i64 a0_4, .string a0_5, .string a0_6]) (t := 43) ?hr ?_; (case hd => rfl); (case hg => rfl); (case hr => exact vz); intro gb350 hg w25 hbox hb; have BK350 := Aside0.mk (hbox); have GW350 := Aside0.mk ((by rw [hg]; exact (below_size (bz0 HB.out)) : w.heap.size <= gb350)); have GE350 := Aside0.mk ((by rw [hg]; exact (below_size (bz0 HB.out)) : w.heap.size <= gb350)); replace HB := Aside0.mk (below_step (bz0 HB.out) hb); clear hb hbox hg) | ((with_reducible refine gate_dst (N := 3) rfl ?_); refine box_event ?hg (N := 3) ?hd (cs := #[.int .i64 a1_0, .int .i64 a1_1, .int .i64 a1_2, .int .i64 a1_3, .int .i64 a1_4, .string a1_5, .string a1_6]) (t := 43) ?hr ?_; (case hd => rfl); (case hg => rfl); (case hr => exact vz); intro gb351 hg w26 hbox hb; have BK351 := Aside0.mk (hbox); have GW351 := Aside0.mk ((by rw [hg]; exact (below_size (bz1 HB.out GE350.out)) : w.heap.size <= gb351)); have GE351 := Aside0.mk ((by rw [hg]; exact (below_size (bz1 HB.out GE350.out)) : w.heap.size <= gb351)); replace HB := Aside0.mk (below_step (bz1 HB.out GE350.out) hb); have NB350_351 := Aside0.mk ((by rw [hg]; exact Nat.ne_of_lt (blk_lt (g := gb350) (o := .cells #[.int .i64 a0_0, .int .i64 a0_1, .int .i64 a0_2, .int .i64 a0_3, .int .i64 a0_4, .string a0_5, .string a0_6] 43 (0, 0)) (kz BK350.out)) : gb350 ≠ gb351)); have NB351_350 := Aside0.mk ((by rw [hg]; exact Nat.ne_of_gt (blk_lt (g := gb350) (o := .cells #[.int .i64 a0_0, .int .i64 a0_1, .int .i64 a0_2, .int .i64 a0_3, .int .i64 a0_4, .string a0_5, .string a0_6] 43 (0, 0)) (kz BK350.out)) : gb351 ≠ gb350)); replace BK350 := Aside0.mk (blk_below (kz BK350.out) hb); clear hb hbox hg; have hnb27 := NB350_351.out; have hnc27 := NB351_350.out; obtain ⟨hcz28_0, hcz28_1, hcz28_2, hcz28_3, hcz28_4, hcz28_5, hcz28_6⟩ := cz7 BK350.out; obtain ⟨hfz28_0, hfz28_1, hfz28_2, hfz28_3, hfz28_4, hfz28_5, hfz28_6⟩ := fz7 BK350.out; obtain ⟨hcz29_0, hcz29_1, hcz29_2, hcz29_3, hcz29_4, hcz29_5, hcz29_6⟩ := cz7 BK351.out; obtain ⟨hfz29_0, hfz29_1, hfz29_2, hfz29_3, hfz29_4, hfz29_5, hfz29_6⟩ := fz7 BK351.out))
      go_ret
      exact ⟨gz, (bz2 HB.out GE350.out GE351.out)⟩
    ·rw [if_neg c6] at H
     have c6b0 : (a0_3 == a1_3) = false := beq_eq_false_iff_ne.mpr c6
     have c6b1 : (a0_3 != a1_3) = true := bne_iff_ne.mpr c6
     obtain rfl := Option.some.inj H
     go_enter Tryd.func38, Tryd.ntmps38
     go_wp2_with (first | ((with_reducible refine gate_dst (N := 2) rfl ?_); refine box_event ?hg (N := 2) ?hd (cs := #[.int .i64 a0_0, .int .i64 a0_1, .int .i64 a0_2, .int .i64 a0_3, .int .i64 a0_4, .string a0_5, .string a0_6]) (t := 43) ?hr ?_; (case hd => rfl); (case hg => rfl); (case hr => exact vz); intro gb350 hg w30 hbox hb; have BK350 := Aside0.mk (hbox); have GW350 := Aside0.mk ((by rw [hg]; exact (below_size (bz0 HB.out)) : w.heap.size <= gb350)); have GE350 := Aside0.mk ((by rw [hg]; exact (below_size (bz0 HB.out)) : w.heap.size <= gb350)); replace HB := Aside0.mk (below_step (bz0 HB.out) hb); clear hb hbox hg) | ((with_reducible refine gate_dst (N := 3) rfl ?_); refine box_event ?hg (N := 3) ?hd (cs := #[.int .i64 a1_0, .int .i64 a1_1, .int .i64 a1_2, .int .i64 a1_3, .int .i64 a1_4, .string a1_5, .string a1_6]) (t := 43) ?hr ?_; (case hd => rfl); (case hg => rfl); (case hr => exact vz); intro gb351 hg w31 hbox hb; have BK351 := Aside0.mk (hbox); have GW351 := Aside0.mk ((by rw [hg]; exact (below_size (bz1 HB.out GE350.out)) : w.heap.size <= gb351)); have GE351 := Aside0.mk ((by rw [hg]; exact (below_size (bz1 HB.out GE350.out)) : w.heap.size <= gb351)); replace HB := Aside0.mk (below_step (bz1 HB.out GE350.out) hb); have NB350_351 := Aside0.mk ((by rw [hg]; exact Nat.ne_of_lt (blk_lt (g := gb350) (o := .cells #[.int .i64 a0_0, .int .i64 a0_1, .int .i64 a0_2, .int .i64 a0_3, .int .i64 a0_4, .string a0_5, .string a0_6] 43 (0, 0)) (kz BK350.out)) : gb350 ≠ gb351)); have NB351_350 := Aside0.mk ((by rw [hg]; exact Nat.ne_of_gt (blk_lt (g := gb350) (o := .cells #[.int .i64 a0_0, .int .i64 a0_1, .int .i64 a0_2, .int .i64 a0_3, .int .i64 a0_4, .string a0_5, .string a0_6] 43 (0, 0)) (kz BK350.out)) : gb351 ≠ gb350)); replace BK350 := Aside0.mk (blk_below (kz BK350.out) hb); clear hb hbox hg; have hnb32 := NB350_351.out; have hnc32 := NB351_350.out; obtain ⟨hcz33_0, hcz33_1, hcz33_2, hcz33_3, hcz33_4, hcz33_5, hcz33_6⟩ := cz7 BK350.out; obtain ⟨hfz33_0, hfz33_1, hfz33_2, hfz33_3, hfz33_4, hfz33_5, hfz33_6⟩ := fz7 BK350.out; obtain ⟨hcz34_0, hcz34_1, hcz34_2, hcz34_3, hcz34_4, hcz34_5, hcz34_6⟩ := cz7 BK351.out; obtain ⟨hfz34_0, hfz34_1, hfz34_2, hfz34_3, hfz34_4, hfz34_5, hfz34_6⟩ := fz7 BK351.out))
     go_ret
     exact ⟨gz, (bz2 HB.out GE350.out GE351.out)⟩
   ·rw [if_neg c5] at H
    have c5b0 : (a0_2 == a1_2) = false := beq_eq_false_iff_ne.mpr c5
    have c5b1 : (a0_2 != a1_2) = true := bne_iff_ne.mpr c5
    obtain rfl := Option.some.inj H
    go_enter Tryd.func38, Tryd.ntmps38
    go_wp2_with (first | ((with_reducible refine gate_dst (N := 2) rfl ?_); refine box_event ?hg (N := 2) ?hd (cs := #[.int .i64 a0_0, .int .i64 a0_1, .int .i64 a0_2, .int .i64 a0_3, .int .i64 a0_4, .string a0_5, .string a0_6]) (t := 43) ?hr ?_; (case hd => rfl); (case hg => rfl); (case hr => exact vz); intro gb350 hg w35 hbox hb; have BK350 := Aside0.mk (hbox); have GW350 := Aside0.mk ((by rw [hg]; exact (below_size (bz0 HB.out)) : w.heap.size <= gb350)); have GE350 := Aside0.mk ((by rw [hg]; exact (below_size (bz0 HB.out)) : w.heap.size <= gb350)); replace HB := Aside0.mk (below_step (bz0 HB.out) hb); clear hb hbox hg) | ((with_reducible refine gate_dst (N := 3) rfl ?_); refine box_event ?hg (N := 3) ?hd (cs := #[.int .i64 a1_0, .int .i64 a1_1, .int .i64 a1_2, .int .i64 a1_3, .int .i64 a1_4, .string a1_5, .string a1_6]) (t := 43) ?hr ?_; (case hd => rfl); (case hg => rfl); (case hr => exact vz); intro gb351 hg w36 hbox hb; have BK351 := Aside0.mk (hbox); have GW351 := Aside0.mk ((by rw [hg]; exact (below_size (bz1 HB.out GE350.out)) : w.heap.size <= gb351)); have GE351 := Aside0.mk ((by rw [hg]; exact (below_size (bz1 HB.out GE350.out)) : w.heap.size <= gb351)); replace HB := Aside0.mk (below_step (bz1 HB.out GE350.out) hb); have NB350_351 := Aside0.mk ((by rw [hg]; exact Nat.ne_of_lt (blk_lt (g := gb350) (o := .cells #[.int .i64 a0_0, .int .i64 a0_1, .int .i64 a0_2, .int .i64 a0_3, .int .i64 a0_4, .string a0_5, .string a0_6] 43 (0, 0)) (kz BK350.out)) : gb350 ≠ gb351)); have NB351_350 := Aside0.mk ((by rw [hg]; exact Nat.ne_of_gt (blk_lt (g := gb350) (o := .cells #[.int .i64 a0_0, .int .i64 a0_1, .int .i64 a0_2, .int .i64 a0_3, .int .i64 a0_4, .string a0_5, .string a0_6] 43 (0, 0)) (kz BK350.out)) : gb351 ≠ gb350)); replace BK350 := Aside0.mk (blk_below (kz BK350.out) hb); clear hb hbox hg; have hnb37 := NB350_351.out; have hnc37 := NB351_350.out; obtain ⟨hcz38_0, hcz38_1, hcz38_2, hcz38_3, hcz38_4, hcz38_5, hcz38_6⟩ := cz7 BK350.out; obtain ⟨hfz38_0, hfz38_1, hfz38_2, hfz38_3, hfz38_4, hfz38_5, hfz38_6⟩ := fz7 BK350.out; obtain ⟨hcz39_0, hcz39_1, hcz39_2, hcz39_3, hcz39_4, hcz39_5, hcz39_6⟩ := cz7 BK351.out; obtain ⟨hfz39_0, hfz39_1, hfz39_2, hfz39_3, hfz39_4, hfz39_5, hfz39_6⟩ := fz7 BK351.out))
    go_ret
    exact ⟨gz, (bz2 HB.out GE350.out GE351.out)⟩
  ·rw [if_neg c4] at H
   have c4b0 : (a0_1 == a1_1) = false := beq_eq_false_iff_ne.mpr c4
   have c4b1 : (a0_1 != a1_1) = true := bne_iff_ne.mpr c4
   obtain rfl := Option.some.inj H
   go_enter Tryd.func38, Tryd.ntmps38
   go_wp2_with (first | ((with_reducible refine gate_dst (N := 2) rfl ?_); refine box_event ?hg (N := 2) ?hd (cs := #[.int .i64 a0_0, .int .i64 a0_1, .int .i64 a0_2, .int .i64 a0_3, .int .i64 a0_4, .string a0_5, .string a0_6]) (t := 43) ?hr ?_; (case hd => rfl); (case hg => rfl); (case hr => exact vz); intro gb350 hg w40 hbox hb; have BK350 := Aside0.mk (hbox); have GW350 := Aside0.mk ((by rw [hg]; exact (below_size (bz0 HB.out)) : w.heap.size <= gb350)); have GE350 := Aside0.mk ((by rw [hg]; exact (below_size (bz0 HB.out)) : w.heap.size <= gb350)); replace HB := Aside0.mk (below_step (bz0 HB.out) hb); clear hb hbox hg) | ((with_reducible refine gate_dst (N := 3) rfl ?_); refine box_event ?hg (N := 3) ?hd (cs := #[.int .i64 a1_0, .int .i64 a1_1, .int .i64 a1_2, .int .i64 a1_3, .int .i64 a1_4, .string a1_5, .string a1_6]) (t := 43) ?hr ?_; (case hd => rfl); (case hg => rfl); (case hr => exact vz); intro gb351 hg w41 hbox hb; have BK351 := Aside0.mk (hbox); have GW351 := Aside0.mk ((by rw [hg]; exact (below_size (bz1 HB.out GE350.out)) : w.heap.size <= gb351)); have GE351 := Aside0.mk ((by rw [hg]; exact (below_size (bz1 HB.out GE350.out)) : w.heap.size <= gb351)); replace HB := Aside0.mk (below_step (bz1 HB.out GE350.out) hb); have NB350_351 := Aside0.mk ((by rw [hg]; exact Nat.ne_of_lt (blk_lt (g := gb350) (o := .cells #[.int .i64 a0_0, .int .i64 a0_1, .int .i64 a0_2, .int .i64 a0_3, .int .i64 a0_4, .string a0_5, .string a0_6] 43 (0, 0)) (kz BK350.out)) : gb350 ≠ gb351)); have NB351_350 := Aside0.mk ((by rw [hg]; exact Nat.ne_of_gt (blk_lt (g := gb350) (o := .cells #[.int .i64 a0_0, .int .i64 a0_1, .int .i64 a0_2, .int .i64 a0_3, .int .i64 a0_4, .string a0_5, .string a0_6] 43 (0, 0)) (kz BK350.out)) : gb351 ≠ gb350)); replace BK350 := Aside0.mk (blk_below (kz BK350.out) hb); clear hb hbox hg; have hnb42 := NB350_351.out; have hnc42 := NB351_350.out; obtain ⟨hcz43_0, hcz43_1, hcz43_2, hcz43_3, hcz43_4, hcz43_5, hcz43_6⟩ := cz7 BK350.out; obtain ⟨hfz43_0, hfz43_1, hfz43_2, hfz43_3, hfz43_4, hfz43_5, hfz43_6⟩ := fz7 BK350.out; obtain ⟨hcz44_0, hcz44_1, hcz44_2, hcz44_3, hcz44_4, hcz44_5, hcz44_6⟩ := cz7 BK351.out; obtain ⟨hfz44_0, hfz44_1, hfz44_2, hfz44_3, hfz44_4, hfz44_5, hfz44_6⟩ := fz7 BK351.out))
   go_ret
   exact ⟨gz, (bz2 HB.out GE350.out GE351.out)⟩
 ·rw [if_neg c3] at H
  have c3b0 : (a0_0 == a1_0) = false := beq_eq_false_iff_ne.mpr c3
  have c3b1 : (a0_0 != a1_0) = true := bne_iff_ne.mpr c3
  obtain rfl := Option.some.inj H
  go_enter Tryd.func38, Tryd.ntmps38
  go_wp2_with (first | ((with_reducible refine gate_dst (N := 2) rfl ?_); refine box_event ?hg (N := 2) ?hd (cs := #[.int .i64 a0_0, .int .i64 a0_1, .int .i64 a0_2, .int .i64 a0_3, .int .i64 a0_4, .string a0_5, .string a0_6]) (t := 43) ?hr ?_; (case hd => rfl); (case hg => rfl); (case hr => exact vz); intro gb350 hg w45 hbox hb; have BK350 := Aside0.mk (hbox); have GW350 := Aside0.mk ((by rw [hg]; exact (below_size (bz0 HB.out)) : w.heap.size <= gb350)); have GE350 := Aside0.mk ((by rw [hg]; exact (below_size (bz0 HB.out)) : w.heap.size <= gb350)); replace HB := Aside0.mk (below_step (bz0 HB.out) hb); clear hb hbox hg) | ((with_reducible refine gate_dst (N := 3) rfl ?_); refine box_event ?hg (N := 3) ?hd (cs := #[.int .i64 a1_0, .int .i64 a1_1, .int .i64 a1_2, .int .i64 a1_3, .int .i64 a1_4, .string a1_5, .string a1_6]) (t := 43) ?hr ?_; (case hd => rfl); (case hg => rfl); (case hr => exact vz); intro gb351 hg w46 hbox hb; have BK351 := Aside0.mk (hbox); have GW351 := Aside0.mk ((by rw [hg]; exact (below_size (bz1 HB.out GE350.out)) : w.heap.size <= gb351)); have GE351 := Aside0.mk ((by rw [hg]; exact (below_size (bz1 HB.out GE350.out)) : w.heap.size <= gb351)); replace HB := Aside0.mk (below_step (bz1 HB.out GE350.out) hb); have NB350_351 := Aside0.mk ((by rw [hg]; exact Nat.ne_of_lt (blk_lt (g := gb350) (o := .cells #[.int .i64 a0_0, .int .i64 a0_1, .int .i64 a0_2, .int .i64 a0_3, .int .i64 a0_4, .string a0_5, .string a0_6] 43 (0, 0)) (kz BK350.out)) : gb350 ≠ gb351)); have NB351_350 := Aside0.mk ((by rw [hg]; exact Nat.ne_of_gt (blk_lt (g := gb350) (o := .cells #[.int .i64 a0_0, .int .i64 a0_1, .int .i64 a0_2, .int .i64 a0_3, .int .i64 a0_4, .string a0_5, .string a0_6] 43 (0, 0)) (kz BK350.out)) : gb351 ≠ gb350)); replace BK350 := Aside0.mk (blk_below (kz BK350.out) hb); clear hb hbox hg; have hnb47 := NB350_351.out; have hnc47 := NB351_350.out; obtain ⟨hcz48_0, hcz48_1, hcz48_2, hcz48_3, hcz48_4, hcz48_5, hcz48_6⟩ := cz7 BK350.out; obtain ⟨hfz48_0, hfz48_1, hfz48_2, hfz48_3, hfz48_4, hfz48_5, hfz48_6⟩ := fz7 BK350.out; obtain ⟨hcz49_0, hcz49_1, hcz49_2, hcz49_3, hcz49_4, hcz49_5, hcz49_6⟩ := cz7 BK351.out; obtain ⟨hfz49_0, hfz49_1, hfz49_2, hfz49_3, hfz49_4, hfz49_5, hfz49_6⟩ := fz7 BK351.out))
  go_ret
  exact ⟨gz, (bz2 HB.out GE350.out GE351.out)⟩
end Go.Proofs.YtmilegjmiiccdaaDoor.PFnExactPrint
