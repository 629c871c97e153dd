/- PFnExactShowValx8, of the words and walks that the law FnExactShowVal needs; made by this session's program out of printed texts. -/

import Derived.Test.YtlhofeikcaejpaaDoorVEShowValPx0
import Derived.Test.YtlhofeikcaejpaaDoorVEShowValPx4
import Derived.Test.YtlhofeikcaejpaaDoorVEShowValPx5
import Derived.Test.YtlhofeikcaejpaaDoorVEShowValPx7
namespace Go.Proofs.YtlhofeikcaejpaaDoor.PFnExactShowVal
open Go.RowKit Go.Proofs.YtlhofeikcaejpaaDoorW.PrintWords Go.Proofs.YtlhofeikcaejpaaDoorW.PrintLast Go.Proofs.YtlhofeikcaejpaaDoorW.PrintMore
attribute [local go_sem] max2_int min2_int max_two min_two max_three min_three max_four min_four
set_option linter.unusedVariables false
set_option linter.unusedSimpArgs false
def spec_ShowVal.f (k : Nat) (l0_0 : List (S41)) (l0_1 : List (S86)) (l0_2 : List (S47)) (l0_3 : List (S35)) (a1_0 : Int) (a1_1 : Int) (a2 : Int) : Option (ByteArray) := (spec_HeapOk.f k l0_0 l0_1 l0_2 l0_3).bind fun t175 => (if t175 = true then ((spec_ValOk.f k l0_0 l0_1 l0_2 l0_3 a1_0 a1_1).bind fun t176 => (if t176 = true then ((spec_l1In.f a2 0 8).bind fun t177 => (if t177 = true then ((spec_l10Show.f k l0_0 l0_1 l0_2 l0_3 a1_0 a1_1 a2).bind fun t178 => (some t178)) else (some (⟨#[]⟩ : ByteArray)))) else (some (⟨#[]⟩ : ByteArray)))) else (some (⟨#[]⟩ : ByteArray)))
theorem spec_ShowVal.mono : ∀ a0 a1 a2 a3 a4 a5 a6 k, LeO (spec_ShowVal.f k a0 a1 a2 a3 a4 a5 a6) (spec_ShowVal.f (k + 1) a0 a1 a2 a3 a4 a5 a6) := by
 intro a0 a1 a2 a3 a4 a5 a6 k
 unfold spec_ShowVal.f
 with_reducible repeat' first | exact spec_HeapOk.mono _ _ _ _ _ | exact spec_ValOk.mono _ _ _ _ _ _ _ | exact spec_l10Show.mono _ _ _ _ _ _ _ _ | exact lrz _ | exact lnz _ | refine liz ?_ ?_ | refine lbz ?_ fun _ => ?_
set_option maxHeartbeats 8000000 in
set_option maxRecDepth 100000 in
theorem spec_ShowVal.calls (k : Nat) (A0_0 : Option Addr) (c0_0 : Nat) (l0_0 : List (S41)) (A0_1 : Option Addr) (c0_1 : Nat) (l0_1 : List (S86)) (A0_2 : Option Addr) (c0_2 : Nat) (l0_2 : List (S47)) (A0_3 : Option Addr) (c0_3 : Nat) (l0_3 : List (S35)) (a1_0 : Int) (a1_1 : Int) (a2 : Int) (r : ByteArray) (w : World) (hr0_0 : Kd.C k41 w A0_0 l0_0.length l0_0) (hc0_0 : l0_0.length <= c0_0) (hr0_1 : Kd.C k86 w A0_1 l0_1.length l0_1) (hc0_1 : l0_1.length <= c0_1) (hr0_2 : Kd.C k47 w A0_2 l0_2.length l0_2) (hc0_2 : l0_2.length <= c0_2) (hr0_3 : Kd.C k35 w A0_3 l0_3.length l0_3) (hc0_3 : l0_3.length <= c0_3) (h : spec_ShowVal.f k l0_0 l0_1 l0_2 l0_3 a1_0 a1_1 a2 = some r) :
  Calls Tryd.prog 32 #[.agg #[.slice A0_0 l0_0.length c0_0, .slice A0_1 l0_1.length c0_1, .slice A0_2 l0_2.length c0_2, .slice A0_3 l0_3.length c0_3], .agg #[.int .i64 a1_0, .int .i64 a1_1], .int .i64 a2] w fun e w' => e = .returned (.string r) /\ Below w.heap.size w w' := by
 have hu29 := Tryd.underlying29
 have hu35 := Tryd.underlying35
 have HR0_0 := Aside0.mk hr0_0
 have HC0_0 := Aside0.mk hc0_0
 clear hr0_0 hc0_0
 have HR0_1 := Aside0.mk hr0_1
 have HC0_1 := Aside0.mk hc0_1
 clear hr0_1 hc0_1
 have HR0_2 := Aside0.mk hr0_2
 have HC0_2 := Aside0.mk hc0_2
 clear hr0_2 hc0_2
 have HR0_3 := Aside0.mk hr0_3
 have HC0_3 := Aside0.mk hc0_3
 clear hr0_3 hc0_3
 have HB := Aside0.mk (Below.refl w.heap.size w)
 have H : ((spec_HeapOk.f k l0_0 l0_1 l0_2 l0_3).bind fun t175 => (if t175 = true then ((spec_ValOk.f k l0_0 l0_1 l0_2 l0_3 a1_0 a1_1).bind fun t176 => (if t176 = true then ((spec_l1In.f a2 0 8).bind fun t177 => (if t177 = true then ((spec_l10Show.f k l0_0 l0_1 l0_2 l0_3 a1_0 a1_1 a2).bind fun t178 => (some t178)) else (some (⟨#[]⟩ : ByteArray)))) else (some (⟨#[]⟩ : ByteArray)))) else (some (⟨#[]⟩ : ByteArray)))) = some r := h
 clear h
 replace H := bi H
 obtain ⟨t175, A40, H⟩ := H
 try dsimp only at H
 have A4 := Aside0.mk A40
 clear A40
 by_cases c5 : t175 = true
 ·subst c5
  have H1 := hp H
  clear H
  have H := H1
  clear H1
  replace H := bi H
  obtain ⟨t176, A60, H⟩ := H
  try dsimp only at H
  have A6 := Aside0.mk A60
  clear A60
  by_cases c7 : t176 = true
  ·subst c7
   have H1 := hp H
   clear H
   have H := H1
   clear H1
   replace H := bi H
   obtain ⟨t177, A80, H⟩ := H
   try dsimp only at H
   have A8 := Aside0.mk A80
   clear A80
   by_cases c9 : t177 = true
   ·subst c9
    have H1 := hp H
    clear H
    have H := H1
    clear H1
    replace H := bi H
    obtain ⟨t178, A100, H⟩ := H
    try dsimp only at H
    have A10 := Aside0.mk A100
    clear A100
    obtain rfl := Option.some.inj H
    go_enter Tryd.func32, Tryd.ntmps32
    go_wp2_with (first | ((with_reducible refine gate_dst (N := 3) rfl ?_); refine box_event ?hg (N := 3) ?hd (cs := #[.slice A0_0 l0_0.length c0_0, .slice A0_1 l0_1.length c0_1, .slice A0_2 l0_2.length c0_2, .slice A0_3 l0_3.length c0_3]) (t := 29) ?hr ?_; (case hd => rfl); (case hg => rfl); (case hr => exact vz); intro gb173 hg w11 hbox hb; have BK173 := Aside0.mk (hbox); have GW173 := Aside0.mk ((by rw [hg]; exact (below_size (bz0 HB.out)) : w.heap.size <= gb173)); have GE173 := Aside0.mk ((by rw [hg]; exact (below_size (bz0 HB.out)) : w.heap.size <= gb173)); replace HB := Aside0.mk (below_step (bz0 HB.out) hb); clear hb hbox hg) | ((with_reducible refine gate_dst (N := 4) rfl ?_); refine box_event ?hg (N := 4) ?hd (cs := #[.int .i64 a1_0, .int .i64 a1_1]) (t := 35) ?hr ?_; (case hd => rfl); (case hg => rfl); (case hr => exact vz); intro gb174 hg w12 hbox hb; have BK174 := Aside0.mk (hbox); have GW174 := Aside0.mk ((by rw [hg]; exact (below_size (bz1 HB.out GE173.out)) : w.heap.size <= gb174)); have GE174 := Aside0.mk ((by rw [hg]; exact (below_size (bz1 HB.out GE173.out)) : w.heap.size <= gb174)); replace HB := Aside0.mk (below_step (bz1 HB.out GE173.out) hb); have NB173_174 := Aside0.mk ((by rw [hg]; exact Nat.ne_of_lt (blk_lt (g := gb173) (o := .cells #[.slice A0_0 l0_0.length c0_0, .slice A0_1 l0_1.length c0_1, .slice A0_2 l0_2.length c0_2, .slice A0_3 l0_3.length c0_3] 29 (0, 0)) (kz BK173.out)) : gb173 ≠ gb174)); have NB174_173 := Aside0.mk ((by rw [hg]; exact Nat.ne_of_gt (blk_lt (g := gb173) (o := .cells #[.slice A0_0 l0_0.length c0_0, .slice A0_1 l0_1.length c0_1, .slice A0_2 l0_2.length c0_2, .slice A0_3 l0_3.length c0_3] 29 (0, 0)) (kz BK173.out)) : gb174 ≠ gb173)); replace BK173 := Aside0.mk (blk_below (kz BK173.out) hb); clear hb hbox hg; have hnb13 := NB173_174.out; have hnc13 := NB174_173.out; obtain ⟨hcz14_0, hcz14_1, hcz14_2, hcz14_3⟩ := cz4 BK173.out; obtain ⟨hfz14_0, hfz14_1, hfz14_2, hfz14_3⟩ := fz4 BK173.out) | ((with_reducible refine gate_callee (f := 14) rfl ?_); refine goesL_ (some 8) rfl rfl Tryd.func14 (by kernel_rfl) rfl #[.agg #[.slice A0_0 l0_0.length c0_0, .slice A0_1 l0_1.length c0_1, .slice A0_2 l0_2.length c0_2, .slice A0_3 l0_3.length c0_3]] rfl lz ?_; (with_reducible refine (spec_HeapOk.calls k _ _ l0_0 _ _ l0_1 _ _ l0_2 _ _ l0_3 true _ ?side1 ?side2 ?side3 ?side4 ?side5 ?side6 ?side7 ?side8 A4.out).mono ?_); (case side1 => exact cz (Kd.C_below HR0_0.out HB.out)); (case side2 => exact HC0_0.out); (case side3 => exact cz (Kd.C_below HR0_1.out HB.out)); (case side4 => exact HC0_1.out); (case side5 => exact cz (Kd.C_below HR0_2.out HB.out)); (case side6 => exact HC0_2.out); (case side7 => exact cz (Kd.C_below HR0_3.out HB.out)); (case side8 => exact HC0_3.out); rintro e w15 ⟨rfl, hb⟩; refine ⟨_, rfl, ?_⟩; replace BK173 := Aside0.mk (blk_below (kz BK173.out) hb); replace BK174 := Aside0.mk (blk_below (kz BK174.out) hb); replace HB := Aside0.mk (below_step (bz2 HB.out GE173.out GE174.out) hb); (try clear hb); obtain ⟨hcz16_0, hcz16_1, hcz16_2, hcz16_3⟩ := cz4 BK173.out; obtain ⟨hfz16_0, hfz16_1, hfz16_2, hfz16_3⟩ := fz4 BK173.out; obtain ⟨hcz17_0, hcz17_1⟩ := cz2 BK174.out; obtain ⟨hfz17_0, hfz17_1⟩ := fz2 BK174.out) | (go_at_call 17; (with_reducible refine (spec_ValOk.calls k _ _ l0_0 _ _ l0_1 _ _ l0_2 _ _ l0_3 a1_0 a1_1 true _ ?side1 ?side2 ?side3 ?side4 ?side5 ?side6 ?side7 ?side8 A6.out).mono ?_); (case side1 => exact cz (Kd.C_below HR0_0.out HB.out)); (case side2 => exact HC0_0.out); (case side3 => exact cz (Kd.C_below HR0_1.out HB.out)); (case side4 => exact HC0_1.out); (case side5 => exact cz (Kd.C_below HR0_2.out HB.out)); (case side6 => exact HC0_2.out); (case side7 => exact cz (Kd.C_below HR0_3.out HB.out)); (case side8 => exact HC0_3.out); rintro e w18 ⟨rfl, hb⟩; replace BK173 := Aside0.mk (blk_below (kz BK173.out) hb); replace BK174 := Aside0.mk (blk_below (kz BK174.out) hb); replace HB := Aside0.mk (below_step (bz2 HB.out GE173.out GE174.out) hb); (try clear hb); (try clear hi)) | (go_at_call 44; (with_reducible refine (spec_l1In.calls a2 0 8 true _ A8.out).mono ?_); rintro e w' ⟨rfl, ⟨nd, rfl⟩⟩; obtain ⟨hcz19_0, hcz19_1, hcz19_2, hcz19_3⟩ := cz4 BK173.out; obtain ⟨hfz19_0, hfz19_1, hfz19_2, hfz19_3⟩ := fz4 BK173.out; obtain ⟨hcz20_0, hcz20_1⟩ := cz2 BK174.out; obtain ⟨hfz20_0, hfz20_1⟩ := fz2 BK174.out) | ((with_reducible refine gate_callee (f := 66) rfl ?_); refine goesL_ (some 24) rfl rfl Tryd.func66 (by kernel_rfl) rfl #[.agg #[.slice A0_0 l0_0.length c0_0, .slice A0_1 l0_1.length c0_1, .slice A0_2 l0_2.length c0_2, .slice A0_3 l0_3.length c0_3], .agg #[.int .i64 a1_0, .int .i64 a1_1], .int .i64 a2] rfl lz ?_; (with_reducible refine (spec_l10Show.calls k _ _ l0_0 _ _ l0_1 _ _ l0_2 _ _ l0_3 a1_0 a1_1 a2 t178 _ ?side1 ?side2 ?side3 ?side4 ?side5 ?side6 ?side7 ?side8 A10.out).mono ?_); (case side1 => exact cz (Kd.C_below HR0_0.out (bz2 HB.out GE173.out GE174.out))); (case side2 => exact HC0_0.out); (case side3 => exact cz (Kd.C_below HR0_1.out (bz2 HB.out GE173.out GE174.out))); (case side4 => exact HC0_1.out); (case side5 => exact cz (Kd.C_below HR0_2.out (bz2 HB.out GE173.out GE174.out))); (case side6 => exact HC0_2.out); (case side7 => exact cz (Kd.C_below HR0_3.out (bz2 HB.out GE173.out GE174.out))); (case side8 => exact HC0_3.out); rintro e w21 ⟨rfl, hb⟩; refine ⟨_, rfl, ?_⟩; replace BK173 := Aside0.mk (blk_below (kz BK173.out) hb); replace BK174 := Aside0.mk (blk_below (kz BK174.out) hb); replace HB := Aside0.mk (below_step (bz2 HB.out GE173.out GE174.out) hb); (try clear hb); (try clear hi)))
    go_ret
    exact ⟨gz, (bz2 HB.out GE173.out GE174.out)⟩
   ·replace c9 := Bool.eq_false_iff.mpr c9
    subst c9
    have H1 := hq H
    clear H
    have H := H1
    clear H1
    obtain rfl := Option.some.inj H
    go_enter Tryd.func32, Tryd.ntmps32
    go_wp2_with (first | ((with_reducible refine gate_dst (N := 3) rfl ?_); refine box_event ?hg (N := 3) ?hd (cs := #[.slice A0_0 l0_0.length c0_0, .slice A0_1 l0_1.length c0_1, .slice A0_2 l0_2.length c0_2, .slice A0_3 l0_3.length c0_3]) (t := 29) ?hr ?_; (case hd => rfl); (case hg => rfl); (case hr => exact vz); intro gb173 hg w22 hbox hb; have BK173 := Aside0.mk (hbox); have GW173 := Aside0.mk ((by rw [hg]; exact (below_size (bz0 HB.out)) : w.heap.size <= gb173)); have GE173 := Aside0.mk ((by rw [hg]; exact (below_size (bz0 HB.out)) : w.heap.size <= gb173)); replace HB := Aside0.mk (below_step (bz0 HB.out) hb); clear hb hbox hg) | ((with_reducible refine gate_dst (N := 4) rfl ?_); refine box_event ?hg (N := 4) ?hd (cs := #[.int .i64 a1_0, .int .i64 a1_1]) (t := 35) ?hr ?_; (case hd => rfl); (case hg => rfl); (case hr => exact vz); intro gb174 hg w23 hbox hb; have BK174 := Aside0.mk (hbox); have GW174 := Aside0.mk ((by rw [hg]; exact (below_size (bz1 HB.out GE173.out)) : w.heap.size <= gb174)); have GE174 := Aside0.mk ((by rw [hg]; exact (below_size (bz1 HB.out GE173.out)) : w.heap.size <= gb174)); replace HB := Aside0.mk (below_step (bz1 HB.out GE173.out) hb); have NB173_174 := Aside0.mk ((by rw [hg]; exact Nat.ne_of_lt (blk_lt (g := gb173) (o := .cells #[.slice A0_0 l0_0.length c0_0, .slice A0_1 l0_1.length c0_1, .slice A0_2 l0_2.length c0_2, .slice A0_3 l0_3.length c0_3] 29 (0, 0)) (kz BK173.out)) : gb173 ≠ gb174)); have NB174_173 := Aside0.mk ((by rw [hg]; exact Nat.ne_of_gt (blk_lt (g := gb173) (o := .cells #[.slice A0_0 l0_0.length c0_0, .slice A0_1 l0_1.length c0_1, .slice A0_2 l0_2.length c0_2, .slice A0_3 l0_3.length c0_3] 29 (0, 0)) (kz BK173.out)) : gb174 ≠ gb173)); replace BK173 := Aside0.mk (blk_below (kz BK173.out) hb); clear hb hbox hg; have hnb24 := NB173_174.out; have hnc24 := NB174_173.out; obtain ⟨hcz25_0, hcz25_1, hcz25_2, hcz25_3⟩ := cz4 BK173.out; obtain ⟨hfz25_0, hfz25_1, hfz25_2, hfz25_3⟩ := fz4 BK173.out) | ((with_reducible refine gate_callee (f := 14) rfl ?_); refine goesL_ (some 8) rfl rfl Tryd.func14 (by kernel_rfl) rfl #[.agg #[.slice A0_0 l0_0.length c0_0, .slice A0_1 l0_1.length c0_1, .slice A0_2 l0_2.length c0_2, .slice A0_3 l0_3.length c0_3]] rfl lz ?_; (with_reducible refine (spec_HeapOk.calls k _ _ l0_0 _ _ l0_1 _ _ l0_2 _ _ l0_3 true _ ?side1 ?side2 ?side3 ?side4 ?side5 ?side6 ?side7 ?side8 A4.out).mono ?_); (case side1 => exact cz (Kd.C_below HR0_0.out HB.out)); (case side2 => exact HC0_0.out); (case side3 => exact cz (Kd.C_below HR0_1.out HB.out)); (case side4 => exact HC0_1.out); (case side5 => exact cz (Kd.C_below HR0_2.out HB.out)); (case side6 => exact HC0_2.out); (case side7 => exact cz (Kd.C_below HR0_3.out HB.out)); (case side8 => exact HC0_3.out); rintro e w26 ⟨rfl, hb⟩; refine ⟨_, rfl, ?_⟩; replace BK173 := Aside0.mk (blk_below (kz BK173.out) hb); replace BK174 := Aside0.mk (blk_below (kz BK174.out) hb); replace HB := Aside0.mk (below_step (bz2 HB.out GE173.out GE174.out) hb); (try clear hb); obtain ⟨hcz27_0, hcz27_1, hcz27_2, hcz27_3⟩ := cz4 BK173.out; obtain ⟨hfz27_0, hfz27_1, hfz27_2, hfz27_3⟩ := fz4 BK173.out; obtain ⟨hcz28_0, hcz28_1⟩ := cz2 BK174.out; obtain ⟨hfz28_0, hfz28_1⟩ := fz2 BK174.out) | (go_at_call 17; (with_reducible refine (spec_ValOk.calls k _ _ l0_0 _ _ l0_1 _ _ l0_2 _ _ l0_3 a1_0 a1_1 true _ ?side1 ?side2 ?side3 ?side4 ?side5 ?side6 ?side7 ?side8 A6.out).mono ?_); (case side1 => exact cz (Kd.C_below HR0_0.out HB.out)); (case side2 => exact HC0_0.out); (case side3 => exact cz (Kd.C_below HR0_1.out HB.out)); (case side4 => exact HC0_1.out); (case side5 => exact cz (Kd.C_below HR0_2.out HB.out)); (case side6 => exact HC0_2.out); (case side7 => exact cz (Kd.C_below HR0_3.out HB.out)); (case side8 => exact HC0_3.out); rintro e w29 ⟨rfl, hb⟩; replace BK173 := Aside0.mk (blk_below (kz BK173.out) hb); replace BK174 := Aside0.mk (blk_below (kz BK174.out) hb); replace HB := Aside0.mk (below_step (bz2 HB.out GE173.out GE174.out) hb); (try clear hb); (try clear hi)) | (go_at_call 44; (with_reducible refine (spec_l1In.calls a2 0 8 false _ A8.out).mono ?_); rintro e w' ⟨rfl, ⟨nd, rfl⟩⟩))
    go_ret
    exact ⟨gz, (bz2 HB.out GE173.out GE174.out)⟩
  ·replace c7 := Bool.eq_false_iff.mpr c7
   subst c7
   have H1 := hq H
   clear H
   have H := H1
   clear H1
   obtain rfl := Option.some.inj H
   go_enter Tryd.func32, Tryd.ntmps32
   go_wp2_with (first | ((with_reducible refine gate_dst (N := 3) rfl ?_); refine box_event ?hg (N := 3) ?hd (cs := #[.slice A0_0 l0_0.length c0_0, .slice A0_1 l0_1.length c0_1, .slice A0_2 l0_2.length c0_2, .slice A0_3 l0_3.length c0_3]) (t := 29) ?hr ?_; (case hd => rfl); (case hg => rfl); (case hr => exact vz); intro gb173 hg w30 hbox hb; have BK173 := Aside0.mk (hbox); have GW173 := Aside0.mk ((by rw [hg]; exact (below_size (bz0 HB.out)) : w.heap.size <= gb173)); have GE173 := Aside0.mk ((by rw [hg]; exact (below_size (bz0 HB.out)) : w.heap.size <= gb173)); replace HB := Aside0.mk (below_step (bz0 HB.out) hb); clear hb hbox hg) | ((with_reducible refine gate_dst (N := 4) rfl ?_); refine box_event ?hg (N := 4) ?hd (cs := #[.int .i64 a1_0, .int .i64 a1_1]) (t := 35) ?hr ?_; (case hd => rfl); (case hg => rfl); (case hr => exact vz); intro gb174 hg w31 hbox hb; have BK174 := Aside0.mk (hbox); have GW174 := Aside0.mk ((by rw [hg]; exact (below_size (bz1 HB.out GE173.out)) : w.heap.size <= gb174)); have GE174 := Aside0.mk ((by rw [hg]; exact (below_size (bz1 HB.out GE173.out)) : w.heap.size <= gb174)); replace HB := Aside0.mk (below_step (bz1 HB.out GE173.out) hb); have NB173_174 := Aside0.mk ((by rw [hg]; exact Nat.ne_of_lt (blk_lt (g := gb173) (o := .cells #[.slice A0_0 l0_0.length c0_0, .slice A0_1 l0_1.length c0_1, .slice A0_2 l0_2.length c0_2, .slice A0_3 l0_3.length c0_3] 29 (0, 0)) (kz BK173.out)) : gb173 ≠ gb174)); have NB174_173 := Aside0.mk ((by rw [hg]; exact Nat.ne_of_gt (blk_lt (g := gb173) (o := .cells #[.slice A0_0 l0_0.length c0_0, .slice A0_1 l0_1.length c0_1, .slice A0_2 l0_2.length c0_2, .slice A0_3 l0_3.length c0_3] 29 (0, 0)) (kz BK173.out)) : gb174 ≠ gb173)); replace BK173 := Aside0.mk (blk_below (kz BK173.out) hb); clear hb hbox hg; have hnb32 := NB173_174.out; have hnc32 := NB174_173.out; obtain ⟨hcz33_0, hcz33_1, hcz33_2, hcz33_3⟩ := cz4 BK173.out; obtain ⟨hfz33_0, hfz33_1, hfz33_2, hfz33_3⟩ := fz4 BK173.out) | ((with_reducible refine gate_callee (f := 14) rfl ?_); refine goesL_ (some 8) rfl rfl Tryd.func14 (by kernel_rfl) rfl #[.agg #[.slice A0_0 l0_0.length c0_0, .slice A0_1 l0_1.length c0_1, .slice A0_2 l0_2.length c0_2, .slice A0_3 l0_3.length c0_3]] rfl lz ?_; (with_reducible refine (spec_HeapOk.calls k _ _ l0_0 _ _ l0_1 _ _ l0_2 _ _ l0_3 true _ ?side1 ?side2 ?side3 ?side4 ?side5 ?side6 ?side7 ?side8 A4.out).mono ?_); (case side1 => exact cz (Kd.C_below HR0_0.out HB.out)); (case side2 => exact HC0_0.out); (case side3 => exact cz (Kd.C_below HR0_1.out HB.out)); (case side4 => exact HC0_1.out); (case side5 => exact cz (Kd.C_below HR0_2.out HB.out)); (case side6 => exact HC0_2.out); (case side7 => exact cz (Kd.C_below HR0_3.out HB.out)); (case side8 => exact HC0_3.out); rintro e w34 ⟨rfl, hb⟩; refine ⟨_, rfl, ?_⟩; replace BK173 := Aside0.mk (blk_below (kz BK173.out) hb); replace BK174 := Aside0.mk (blk_below (kz BK174.out) hb); replace HB := Aside0.mk (below_step (bz2 HB.out GE173.out GE174.out) hb); (try clear hb); obtain ⟨hcz35_0, hcz35_1, hcz35_2, hcz35_3⟩ := cz4 BK173.out; obtain ⟨hfz35_0, hfz35_1, hfz35_2, hfz35_3⟩ := fz4 BK173.out; obtain ⟨hcz36_0, hcz36_1⟩ := cz2 BK174.out; obtain ⟨hfz36_0, hfz36_1⟩ := fz2 BK174.out) | (go_at_call 17; (with_reducible refine (spec_ValOk.calls k _ _ l0_0 _ _ l0_1 _ _ l0_2 _ _ l0_3 a1_0 a1_1 false _ ?side1 ?side2 ?side3 ?side4 ?side5 ?side6 ?side7 ?side8 A6.out).mono ?_); (case side1 => exact cz (Kd.C_below HR0_0.out HB.out)); (case side2 => exact HC0_0.out); (case side3 => exact cz (Kd.C_below HR0_1.out HB.out)); (case side4 => exact HC0_1.out); (case side5 => exact cz (Kd.C_below HR0_2.out HB.out)); (case side6 => exact HC0_2.out); (case side7 => exact cz (Kd.C_below HR0_3.out HB.out)); (case side8 => exact HC0_3.out); rintro e w37 ⟨rfl, hb⟩; replace BK173 := Aside0.mk (blk_below (kz BK173.out) hb); replace BK174 := Aside0.mk (blk_below (kz BK174.out) hb); replace HB := Aside0.mk (below_step (bz2 HB.out GE173.out GE174.out) hb); (try clear hb); (try clear hi)))
   go_ret
   exact ⟨gz, (bz2 HB.out GE173.out GE174.out)⟩
 ·replace c5 := Bool.eq_false_iff.mpr c5
  subst c5
  have H1 := hq H
  clear H
  have H := H1
  clear H1
  obtain rfl := Option.some.inj H
  go_enter Tryd.func32, Tryd.ntmps32
  go_wp2_with (first | ((with_reducible refine gate_dst (N := 3) rfl ?_); refine box_event ?hg (N := 3) ?hd (cs := #[.slice A0_0 l0_0.length c0_0, .slice A0_1 l0_1.length c0_1, .slice A0_2 l0_2.length c0_2, .slice A0_3 l0_3.length c0_3]) (t := 29) ?hr ?_; (case hd => rfl); (case hg => rfl); (case hr => exact vz); intro gb173 hg w38 hbox hb; have BK173 := Aside0.mk (hbox); have GW173 := Aside0.mk ((by rw [hg]; exact (below_size (bz0 HB.out)) : w.heap.size <= gb173)); have GE173 := Aside0.mk ((by rw [hg]; exact (below_size (bz0 HB.out)) : w.heap.size <= gb173)); replace HB := Aside0.mk (below_step (bz0 HB.out) hb); clear hb hbox hg) | ((with_reducible refine gate_dst (N := 4) rfl ?_); refine box_event ?hg (N := 4) ?hd (cs := #[.int .i64 a1_0, .int .i64 a1_1]) (t := 35) ?hr ?_; (case hd => rfl); (case hg => rfl); (case hr => exact vz); intro gb174 hg w39 hbox hb; have BK174 := Aside0.mk (hbox); have GW174 := Aside0.mk ((by rw [hg]; exact (below_size (bz1 HB.out GE173.out)) : w.heap.size <= gb174)); have GE174 := Aside0.mk ((by rw [hg]; exact (below_size (bz1 HB.out GE173.out)) : w.heap.size <= gb174)); replace HB := Aside0.mk (below_step (bz1 HB.out GE173.out) hb); have NB173_174 := Aside0.mk ((by rw [hg]; exact Nat.ne_of_lt (blk_lt (g := gb173) (o := .cells #[.slice A0_0 l0_0.length c0_0, .slice A0_1 l0_1.length c0_1, .slice A0_2 l0_2.length c0_2, .slice A0_3 l0_3.length c0_3] 29 (0, 0)) (kz BK173.out)) : gb173 ≠ gb174)); have NB174_173 := Aside0.mk ((by rw [hg]; exact Nat.ne_of_gt (blk_lt (g := gb173) (o := .cells #[.slice A0_0 l0_0.length c0_0, .slice A0_1 l0_1.length c0_1, .slice A0_2 l0_2.length c0_2, .slice A0_3 l0_3.length c0_3] 29 (0, 0)) (kz BK173.out)) : gb174 ≠ gb173)); replace BK173 := Aside0.mk (blk_below (kz BK173.out) hb); clear hb hbox hg; have hnb40 := NB173_174.out; have hnc40 := NB174_173.out; obtain ⟨hcz41_0, hcz41_1, hcz41_2, hcz41_3⟩ := cz4 BK173.out; obtain ⟨hfz41_0, hfz41_1, hfz41_2, hfz41_3⟩ := fz4 BK173.out) | ((with_reducible refine gate_callee (f := 14) rfl ?_); refine goesL_ (some 8) rfl rfl Tryd.func14 (by kernel_rfl) rfl #[.agg #[.slice A0_0 l0_0.length c0_0, .slice A0_1 l0_1.length c0_1, .slice A0_2 l0_2.length c0_2, .slice A0_3 l0_3.length c0_3]] rfl lz ?_; (with_reducible refine (spec_HeapOk.calls k _ _ l0_0 _ _ l0_1 _ _ l0_2 _ _ l0_3 false _ ?side1 ?side2 ?side3 ?side4 ?side5 ?side6 ?side7 ?side8 A4.out).mono ?_); (case side1 => exact cz (Kd.C_below HR0_0.out HB.out)); (case side2 => exact HC0_0.out); (case side3 => exact cz (Kd.C_below HR0_1.out HB.out)); (case side4 => exact HC0_1.out); (case side5 => exact cz (Kd.C_below HR0_2.out HB.out)); (case side6 => exact HC0_2.out); (case side7 => exact cz (Kd.C_below HR0_3.out HB.out)); (case side8 => exact HC0_3.out); rintro e w42 ⟨rfl, hb⟩; refine ⟨_, rfl, ?_⟩; replace BK173 := Aside0.mk (blk_below (kz BK173.out) hb); replace BK174 := Aside0.mk (blk_below (kz BK174.out) hb); replace HB := Aside0.mk (below_step (bz2 HB.out GE173.out GE174.out) hb); (try clear hb); (try clear hi)))
  go_ret
  exact ⟨gz, (bz2 HB.out GE173.out GE174.out)⟩
def laws_toVal.f (a0_0 : Int) (a0_1 : Int) : Option (Int × Int) := some (a0_0, a0_1)
set_option maxHeartbeats 8000000 in
set_option maxRecDepth 100000 in
theorem laws_toVal.calls (a0_0 : Int) (a0_1 : Int) (r1 : Int) (r2 : Int) (w : World) (h : laws_toVal.f a0_0 a0_1 = some (r1, r2)) :
  Calls Tryd.prog 34 #[.agg #[.int .i64 a0_0, .int .i64 a0_1]] w fun e w' => e = .returned (.agg #[.int .i64 r1, .int .i64 r2]) /\ Below w.heap.size w w' := by
 have hu71 := Tryd.underlying71
 have hu35 := Tryd.underlying35
 have HB := Aside0.mk (Below.refl w.heap.size w)
 have H : (some (a0_0, a0_1)) = some (r1, r2) := h
 clear h
 simp only [Option.some.injEq, Prod.mk.injEq] at H
 obtain ⟨rfl, rfl⟩ := H
 go_enter Tryd.func34, Tryd.ntmps34
 go_wp2_with (first | ((with_reducible refine gate_dst (N := 1) rfl ?_); refine box_event ?hg (N := 1) ?hd (cs := #[.int .i64 a0_0, .int .i64 a0_1]) (t := 71) ?hr ?_; (case hd => rfl); (case hg => rfl); (case hr => exact vz); intro gb179 hg w2 hbox hb; have BK179 := Aside0.mk (hbox); have GW179 := Aside0.mk ((by rw [hg]; exact (below_size (bz0 HB.out)) : w.heap.size <= gb179)); have GE179 := Aside0.mk ((by rw [hg]; exact (below_size (bz0 HB.out)) : w.heap.size <= gb179)); replace HB := Aside0.mk (below_step (bz0 HB.out) hb); clear hb hbox hg) | ((with_reducible refine gate_dst (N := 2) rfl ?_); refine box_event ?hg (N := 2) ?hd (cs := #[.int .i64 0, .int .i64 0]) (t := 35) ?hr ?_; (case hd => rfl); (case hg => rfl); (case hr => exact vz); intro gb180 hg w3 hbox hb; have BK180 := Aside0.mk (hbox); have GW180 := Aside0.mk ((by rw [hg]; exact (below_size (bz1 HB.out GE179.out)) : w.heap.size <= gb180)); have GE180 := Aside0.mk ((by rw [hg]; exact (below_size (bz1 HB.out GE179.out)) : w.heap.size <= gb180)); replace HB := Aside0.mk (below_step (bz1 HB.out GE179.out) hb); have NB179_180 := Aside0.mk ((by rw [hg]; exact Nat.ne_of_lt (blk_lt (g := gb179) (o := .cells #[.int .i64 a0_0, .int .i64 a0_1] 71 (0, 0)) (kz BK179.out)) : gb179 ≠ gb180)); have NB180_179 := Aside0.mk ((by rw [hg]; exact Nat.ne_of_gt (blk_lt (g := gb179) (o := .cells #[.int .i64 a0_0, .int .i64 a0_1] 71 (0, 0)) (kz BK179.out)) : gb180 ≠ gb179)); replace BK179 := Aside0.mk (blk_below (kz BK179.out) hb); clear hb hbox hg) | ((with_reducible refine gate_dst (N := 3) rfl ?_); refine box_event ?hg (N := 3) ?hd (cs := #[.int .i64 0, .int .i64 0]) (t := 35) ?hr ?_; (case hd => rfl); (case hg => rfl); (case hr => exact vz); intro gb181 hg w4 hbox hb; have BK181 := Aside0.mk (hbox); have GW181 := Aside0.mk ((by rw [hg]; exact (below_size (bz2 HB.out GE179.out GE180.out)) : w.heap.size <= gb181)); have GE181 := Aside0.mk ((by rw [hg]; exact (below_size (bz2 HB.out GE179.out GE180.out)) : w.heap.size <= gb181)); replace HB := Aside0.mk (below_step (bz2 HB.out GE179.out GE180.out) hb); have NB179_181 := Aside0.mk ((by rw [hg]; exact Nat.ne_of_lt (blk_lt (g := gb179) (o := .cells #[.int .i64 a0_0, .int .i64 a0_1] 71 (0, 0)) (kz BK179.out)) : gb179 ≠ gb181)); have NB181_179 := Aside0.mk ((by rw [hg]; exact Nat.ne_of_gt (blk_lt (g := gb179) (o := .cells #[.int .i64 a0_0, .int .i64 a0_1] 71 (0, 0)) (kz BK179.out)) : gb181 ≠ gb179)); replace BK179 := Aside0.mk (blk_below (kz BK179.out) hb); have NB180_181 := Aside0.mk ((by rw [hg]; exact Nat.ne_of_lt (blk_lt (g := gb180) (o := .cells #[.int .i64 0, .int .i64 0] 35 (0, 0)) (kz BK180.out)) : gb180 ≠ gb181)); have NB181_180 := Aside0.mk ((by rw [hg]; exact Nat.ne_of_gt (blk_lt (g := gb180) (o := .cells #[.int .i64 0, .int .i64 0] 35 (0, 0)) (kz BK180.out)) : gb181 ≠ gb180)); replace BK180 := Aside0.mk (blk_below (kz BK180.out) hb); clear hb hbox hg; have hnb5 := NB179_180.out; have hnc5 := NB180_179.out; have hnb6 := NB179_181.out; have hnc6 := NB181_179.out; obtain ⟨hcz7_0, hcz7_1⟩ := cz2 BK179.out; obtain ⟨hfz7_0, hfz7_1⟩ := fz2 BK179.out; have hnb8 := NB181_180.out; have hnc8 := NB180_181.out; obtain ⟨hcz9_0, hcz9_1⟩ := cz2 BK181.out; obtain ⟨hfz9_0, hfz9_1⟩ := fz2 BK181.out; obtain ⟨hcz10_0, hcz10_1⟩ := cz2 BK180.out; obtain ⟨hfz10_0, hfz10_1⟩ := fz2 BK180.out))
 refine bodyPost_ret (results_cell_row rfl _ _ gb180 35 #[.int .i64 a0_0, .int .i64 a0_1] (0, 0) _ rfl (by refine kq ?_; refine blk_put (cs := #[.int .i64 a0_0, .int .i64 0]) ?_ 1 _ rfl; refine kq ?_; refine blk_put (cs := #[.int .i64 0, .int .i64 0]) ?_ 0 _ rfl; refine kq ?_; refine blk_far ?_ NB180_181.out _; refine kq ?_; refine blk_far ?_ NB180_181.out _; refine kq ?_; exact BK180.out) Tryd.underlying35 rfl (by kernel_rfl)) rfl ?_
 exact ⟨gz, (bz3 HB.out GE179.out GE180.out GE181.out)⟩
def laws_toEnvCell.f (a0_0 : Int) (a0_1 : Int) (a0_2 : Int) (a0_3 : Int) (a0_4 : Int) : Option (Int × Int × Int × Int × Int) := (laws_toVal.f a0_2 a0_3).bind fun bt185 => (some (a0_0, a0_1, bt185.1, bt185.2, a0_4))
set_option maxHeartbeats 8000000 in
set_option maxRecDepth 100000 in
theorem laws_toEnvCell.calls (a0_0 : Int) (a0_1 : Int) (a0_2 : Int) (a0_3 : Int) (a0_4 : Int) (r1 : Int) (r2 : Int) (r3 : Int) (r4 : Int) (r5 : Int) (w : World) (h : laws_toEnvCell.f a0_0 a0_1 a0_2 a0_3 a0_4 = some (r1, r2, r3, r4, r5)) :
  Calls Tryd.prog 86 #[.agg #[.int .i64 a0_0, .int .i64 a0_1, .int .i64 a0_2, .int .i64 a0_3, .int .i64 a0_4]] w fun e w' => e = .returned (.agg #[.int .i64 r1, .int .i64 r2, .int .i64 r3, .int .i64 r4, .int .i64 r5]) /\ Below w.heap.size w w' := by
 have hu130 := Tryd.underlying130
 have hu41 := Tryd.underlying41
 have hu71 := Tryd.underlying71
 have hu35 := Tryd.underlying35
 have HB := Aside0.mk (Below.refl w.heap.size w)
 have H : ((laws_toVal.f a0_2 a0_3).bind fun bt185 => (some (a0_0, a0_1, bt185.1, bt185.2, a0_4))) = some (r1, r2, r3, r4, r5) := h
 clear h
 replace H := bi H
 obtain ⟨⟨t185, t186⟩, A20, H⟩ := H
 try dsimp only at H
 have A2 := Aside0.mk A20
 clear A20
 simp only [Option.some.injEq, Prod.mk.injEq] at H
 obtain ⟨rfl, rfl, rfl, rfl, rfl⟩ := H
 go_enter Tryd.func86, Tryd.ntmps86
 go_wp2_with (first | ((with_reducible refine gate_dst (N := 1) rfl ?_); refine box_event ?hg (N := 1) ?hd (cs := #[.int .i64 a0_0, .int .i64 a0_1, .int .i64 a0_2, .int .i64 a0_3, .int .i64 a0_4]) (t := 130) ?hr ?_; (case hd => rfl); (case hg => rfl); (case hr => exact vz); intro gb182 hg w3 hbox hb; have BK182 := Aside0.mk (hbox); have GW182 := Aside0.mk ((by rw [hg]; exact (below_size (bz0 HB.out)) : w.heap.size <= gb182)); have GE182 := Aside0.mk ((by rw [hg]; exact (below_size (bz0 HB.out)) : w.heap.size <= gb182)); replace HB := Aside0.mk (below_step (bz0 HB.out) hb); clear hb hbox hg) | ((with_reducible refine gate_dst (N := 2) rfl ?_); refine box_event ?hg (N := 2) ?hd (cs := #[.int .i64 0, .int .i64 0, .int .i64 0, .int .i64 0, .int .i64 0]) (t := 41) ?hr ?_; (case hd => rfl); (case hg => rfl); (case hr => exact vz); intro gb183 hg w4 hbox hb; have BK183 := Aside0.mk (hbox); have GW183 := Aside0.mk ((by rw [hg]; exact (below_size (bz1 HB.out GE182.out)) : w.heap.size <= gb183)); have GE183 := Aside0.mk ((by rw [hg]; exact (below_size (bz1 HB.out GE182.out)) : w.heap.size <= gb183)); replace HB := Aside0.mk (below_step (bz1 HB.out GE182.out) hb); have NB182_183 := Aside0.mk ((by rw [hg]; exact Nat.ne_of_lt (blk_lt (g := gb182) (o := .cells #[.int .i64 a0_0, .int .i64 a0_1, .int .i64 a0_2, .int .i64 a0_3, .int .i64 a0_4] 130 (0, 0)) (kz BK182.out)) : gb182 ≠ gb183)); have NB183_182 := Aside0.mk ((by rw [hg]; exact Nat.ne_of_gt (blk_lt (g := gb182) (o := .cells #[.int .i64 a0_0, .int .i64 a0_1, .int .i64 a0_2, .int .i64 a0_3, .int .i64 a0_4] 130 (0, 0)) (kz BK182.out)) : gb183 ≠ gb182)); replace BK182 := Aside0.mk (blk_below (kz BK182.out) hb); clear hb hbox hg) | ((with_reducible refine gate_dst (N := 3) rfl ?_); refine box_event ?hg (N := 3) ?hd (cs := #[.int .i64 0, .int .i64 0, .int .i64 0, .int .i64 0, .int .i64 0]) (t := 41) ?hr ?_; (case hd => rfl); (case hg => rfl); (case hr => exact vz); intro gb184 hg w5 hbox hb; have BK184 := Aside0.mk (hbox); have GW184 := Aside0.mk ((by rw [hg]; exact (below_size (bz2 HB.out GE182.out GE183.out)) : w.heap.size <= gb184)); have GE184 := Aside0.mk ((by rw [hg]; exact (below_size (bz2 HB.out GE182.out GE183.out)) : w.heap.size <= gb184)); replace HB := Aside0.mk (below_step (bz2 HB.out GE182.out GE183.out) hb); have NB182_184 := Aside0.mk ((by rw [hg]; exact Nat.ne_of_lt (blk_lt (g := gb182) (o := .cells #[.int .i64 a0_0, .int .i64 a0_1, .int .i64 a0_2, .int .i64 a0_3, .int .i64 a0_4] 130 (0, 0)) (kz BK182.out)) : gb182 ≠ gb184)); have NB184_182 := Aside0.mk ((by rw [hg]; exact Nat.ne_of_gt (blk_lt (g := gb182) (o := .cells #[.int .i64 a0_0, .int .i64 a0_1, .int .i64 a0_2, .int .i64 a0_3, .int .i64 a0_4] 130 (0, 0)) (kz BK182.out)) : gb184 ≠ gb182)); replace BK182 := Aside0.mk (blk_below (kz BK182.out) hb); have NB183_184 := Aside0.mk ((by rw [hg]; exact Nat.ne_of_lt (blk_lt (g := gb183) (o := .cells #[.int .i64 0, .int .i64 0, .int .i64 0, .int .i64 0, .int .i64 0] 41 (0, 0)) (kz BK183.out)) : gb183 ≠ gb184)); have NB184_183 := Aside0.mk ((by rw [hg]; exact Nat.ne_of_gt (blk_lt (g := gb183) (o := .cells #[.int .i64 0, .int .i64 0, .int .i64 0, .int .i64 0, .int .i64 0] 41 (0, 0)) (kz BK183.out)) : gb184 ≠ gb183)); replace BK183 := Aside0.mk (blk_below (kz BK183.out) hb); clear hb hbox hg; have hnb6 := NB182_183.out; have hnc6 := NB183_182.out; have hnb7 := NB182_184.out; have hnc7 := NB184_182.out; obtain ⟨hcz8_0, hcz8_1, hcz8_2, hcz8_3, hcz8_4⟩ := cz5 BK182.out; obtain ⟨hfz8_0, hfz8_1, hfz8_2, hfz8_3, hfz8_4⟩ := fz5 BK182.out; have hnb9 := NB184_183.out; have hnc9 := NB183_184.out; obtain ⟨hcz10_0, hcz10_1, hcz10_2, hcz10_3, hcz10_4⟩ := cz5 BK184.out; obtain ⟨hfz10_0, hfz10_1, hfz10_2, hfz10_3, hfz10_4⟩ := fz5 BK184.out) | ((with_reducible refine gate_callee (f := 34) rfl ?_); refine goesL_ (some 12) rfl rfl Tryd.func34 (by kernel_rfl) rfl #[.agg #[.int .i64 a0_2, .int .i64 a0_3]] rfl lz ?_; (with_reducible refine (laws_toVal.calls a0_2 a0_3 t185 t186 _ A2.out).mono ?_); rintro e w11 ⟨rfl, hb⟩; refine ⟨_, rfl, ?_⟩; replace BK182 := Aside0.mk (blk_below (g := gb182) (o := .cells #[.int .i64 a0_0, .int .i64 a0_1, .int .i64 a0_2, .int .i64 a0_3, .int .i64 a0_4] 130 (0, 0)) (by refine kq ?_; refine blk_far ?_ NB182_184.out _; refine kq ?_; refine blk_far ?_ NB182_184.out _; refine kq ?_; exact BK182.out) hb); replace BK183 := Aside0.mk (blk_below (g := gb183) (o := .cells #[.int .i64 0, .int .i64 0, .int .i64 0, .int .i64 0, .int .i64 0] 41 (0, 0)) (by refine kq ?_; refine blk_far ?_ NB183_184.out _; refine kq ?_; refine blk_far ?_ NB183_184.out _; refine kq ?_; exact BK183.out) hb); replace BK184 := Aside0.mk (blk_below (g := gb184) (o := .cells #[.int .i64 a0_0, .int .i64 a0_1, .int .i64 0, .int .i64 0, .int .i64 0] 41 (0, 0)) (by refine kq ?_; refine blk_put (cs := #[.int .i64 a0_0, .int .i64 0, .int .i64 0, .int .i64 0, .int .i64 0]) ?_ 1 _ rfl; refine kq ?_; refine blk_put (cs := #[.int .i64 0, .int .i64 0, .int .i64 0, .int .i64 0, .int .i64 0]) ?_ 0 _ rfl; refine kq ?_; exact BK184.out) hb); replace HB := Aside0.mk (below_step (bz3 HB.out GE182.out GE183.out GE184.out) hb); (try clear hb); obtain ⟨hcz12_0, hcz12_1, hcz12_2, hcz12_3, hcz12_4⟩ := cz5 BK184.out; obtain ⟨hfz12_0, hfz12_1, hfz12_2, hfz12_3, hfz12_4⟩ := fz5 BK184.out; obtain ⟨hcz13_0, hcz13_1, hcz13_2, hcz13_3, hcz13_4⟩ := cz5 BK182.out; obtain ⟨hfz13_0, hfz13_1, hfz13_2, hfz13_3, hfz13_4⟩ := fz5 BK182.out; obtain ⟨hcz14_0, hcz14_1, hcz14_2, hcz14_3, hcz14_4⟩ := cz5 BK183.out; obtain ⟨hfz14_0, hfz14_1, hfz14_2, hfz14_3, hfz14_4⟩ := fz5 BK183.out))
 refine bodyPost_ret (results_cell_row rfl _ _ gb183 41 #[.int .i64 a0_0, .int .i64 a0_1, .int .i64 t185, .int .i64 t186, .int .i64 a0_4] (0, 0) _ rfl (by refine kq ?_; refine blk_put (cs := #[.int .i64 a0_0, .int .i64 a0_1, .int .i64 t185, .int .i64 t186, .int .i64 0]) ?_ 4 _ rfl; refine kq ?_; refine blk_put (cs := #[.int .i64 a0_0, .int .i64 a0_1, .int .i64 t185, .int .i64 0, .int .i64 0]) ?_ 3 _ rfl; refine kq ?_; refine blk_put (cs := #[.int .i64 a0_0, .int .i64 a0_1, .int .i64 0, .int .i64 0, .int .i64 0]) ?_ 2 _ rfl; refine kq ?_; refine blk_put (cs := #[.int .i64 a0_0, .int .i64 0, .int .i64 0, .int .i64 0, .int .i64 0]) ?_ 1 _ rfl; refine kq ?_; refine blk_put (cs := #[.int .i64 0, .int .i64 0, .int .i64 0, .int .i64 0, .int .i64 0]) ?_ 0 _ rfl; refine kq ?_; refine blk_far ?_ NB183_184.out _; refine kq ?_; refine blk_far ?_ NB183_184.out _; refine kq ?_; refine blk_far ?_ NB183_184.out _; refine kq ?_; exact BK183.out) Tryd.underlying41 rfl (by kernel_rfl)) rfl ?_
 exact ⟨gz, (bz3 HB.out GE182.out GE183.out GE184.out)⟩
def laws_toEnvCellS.l0 : Nat -> List (S130) -> List (S41) -> Int -> Option ((List (S41)))
 | 0, _, _, _ => none
 | k + 1, x0, x3, x4 => if x4 < (x0.length : Int) then (if 0 <= x4 then ((laws_toEnvCell.f ((rd_T130 x0 x4).f0) ((rd_T130 x0 x4).f1) ((rd_T130 x0 x4).f2.f0) ((rd_T130 x0 x4).f2.f1) ((rd_T130 x0 x4).f3)).bind fun bt191 => (if x4 < (x3.length : Int) then (laws_toEnvCellS.l0 k x0 (x3.set (x4 : Int).toNat (⟨bt191.1, bt191.2.1, (⟨bt191.2.2.1, bt191.2.2.2.1⟩ : S35), bt191.2.2.2.2⟩ : S41)) (wrap64 (x4 + 1))) else (none))) else (none)) else (some x3)
def laws_toEnvCellS.f (k : Nat) (l0 : List (S130)) : Option ((List (S41))) := if 0 <= (l0.length : Int) then (if ((l0.length : Int) : Int).toNat <= 7036874417766 then (laws_toEnvCellS.l0 k l0 (List.replicate ((l0.length : Int) : Int).toNat z41) 0) else (none)) else (none)
theorem laws_toEnvCellS.mono_l : ∀ k, (∀ y0 y1 y2, LeO (laws_toEnvCellS.l0 k y0 y1 y2) (laws_toEnvCellS.l0 (k + 1) y0 y1 y2))
 | 0 => fun _ _ _ r h => by simp [laws_toEnvCellS.l0] at h
 | k + 1 => by
  have ih0 := laws_toEnvCellS.mono_l k
  ·intro y0 y1 y2
   unfold laws_toEnvCellS.l0
   with_reducible repeat' first | exact ih0 _ _ _ | exact lrz _ | exact lnz _ | refine liz ?_ ?_ | refine lbz ?_ fun _ => ?_
theorem laws_toEnvCellS.mono : ∀ a0 k, LeO (laws_toEnvCellS.f k a0) (laws_toEnvCellS.f (k + 1) a0) := by
 intro a0 k
 have ih0 := laws_toEnvCellS.mono_l k
 unfold laws_toEnvCellS.f
 with_reducible repeat' first | exact ih0 _ _ _ | exact lrz _ | exact lnz _ | refine liz ?_ ?_ | refine lbz ?_ fun _ => ?_
set_option maxHeartbeats 8000000 in
set_option maxRecDepth 100000 in
theorem laws_toEnvCellS.calls (k : Nat) (A0 : Option Addr) (c0 : Nat) (l0 : List (S130)) (r : List (S41)) (w : World) (hr0 : Kd.C k130 w A0 l0.length l0) (hc0 : l0.length <= c0) (h : laws_toEnvCellS.f k l0 = some r) :
  Calls Tryd.prog 67 #[.slice A0 l0.length c0] w fun e w' => ∃ v0_ : Value, e = .returned (v0_) /\ Kd.R k41 41 w' w.heap.size (fun _ => True) v0_ r /\ Below w.heap.size w w' := by
 have hu130 := Tryd.underlying130
 have hu41 := Tryd.underlying41
 have HR0 := Aside0.mk hr0
 have HC0 := Aside0.mk hc0
 clear hr0 hc0
 have HB := Aside0.mk (Below.refl w.heap.size w)
 have H : (if 0 <= (l0.length : Int) then (if ((l0.length : Int) : Int).toNat <= 7036874417766 then (laws_toEnvCellS.l0 k l0 (List.replicate ((l0.length : Int) : Int).toNat z41) 0) else (none)) else (none)) = some r := h
 clear h
 replace H := iz H
 obtain ⟨c2, H⟩ := H
 have c2b0 := eq_true c2
 have c2b1 : decide (0 <= (l0.length : Int)) = true := decide_eq_true c2
 clear c2
 replace H := iz H
 obtain ⟨c3, H⟩ := H
 have c3b0 := eq_true c3
 have c3b1 : decide (((l0.length : Int) : Int).toNat <= 7036874417766) = true := decide_eq_true c3
 clear c3
 obtain ⟨y187, hy187⟩ : ∃ y_ : List (S41), y_ = (List.replicate ((l0.length : Int) : Int).toNat z41) := ⟨_, rfl⟩
 replace H : (laws_toEnvCellS.l0 k l0 y187 0) = some r := yz hy187 H
 have Ny187 := Aside0.mk hy187
 clear hy187
 have H' := Aside0.mk H
 clear H
 go_enter Tryd.func67, Tryd.ntmps67
 go_wp2_with (first | ((with_reducible refine gate_dst (N := 7) rfl ?_); refine Kd.R_make k41 _ 41 rfl (N := 7) rfl 24 _ _ rfl (l0.length : Int) rfl rfl Tryd.underlying24 (.agg #[(.int .i64 0), (.int .i64 0), (.int .i64 0), (.int .i64 0), (.int .i64 0)]) 40 info41 rfl (by decide) (by omega) z41 (ok := fun _ => True) (okp := fun _ => True) (k41_mkM _ _ _ z41 ) (fun _ hk => hk) trivial (of_decide_eq_true az) (Nat.le_trans (Nat.mul_le_mul_right _ (of_decide_eq_true az : (l0.length : Int).toNat <= 7036874417766)) (by omega)) (Below.refl _ _) (Nat.le_refl _) ?_; intro v188 w4 ho5 hb hg_ hnew_; clear hg_ hnew_; (first | rw [<- Ny187.out] at ho5 | (simp only [Int.reduceToNat] at ho5; rw [<- Ny187.out] at ho5)); have HO189 := Aside0.mk (Kd.R_lower ho5 (below_size (bz0 HB.out))); replace HB := Aside0.mk (below_step (bz0 HB.out) hb); clear hb ho5))
 (try simp only [Act.put, sz1, sz2, sz3])
 go_loopg [4] k (fun kq v4 w' => ∃ (x3_1 : List (S41)) (x4_1 : Int), v4 = .int .i64 x4_1 /\ Aside0 (laws_toEnvCellS.l0 kq l0 x3_1 x4_1 = some r) /\ Aside0 (kq <= k) /\ Aside0 (Kd.R k41 41 w' w.heap.size (fun _ => True) v188 x3_1) /\ Aside0 (Below w.heap.size w w'))
 case atStart => exact ⟨(y187), (0), ez, H', ⟨Nat.le_refl _⟩, ⟨by refine rq ?_; exact HO189.out⟩, ⟨(bz0 HB.out)⟩⟩
 case round =>
  clear H'
  try clear c2
  try clear c2b0
  try clear c2b1
  try clear p2
  try clear c3
  try clear c3b0
  try clear c3b1
  obtain ⟨x3_1, x4_1, rfl, HA, HK1, HO_3, HB⟩ := hrel
  cases gk with
  | zero => exact absurd HA.out (by simp [laws_toEnvCellS.l0])
  | succ k1 =>
   have H := HA.out
   clear HA
   simp only [laws_toEnvCellS.l0] at H
   by_cases c6 : x4_1 < (l0.length : Int)
   ·rw [if_pos c6] at H
    have c6b0 := decide_eq_true c6
    clear c6
    replace H := iz H
    obtain ⟨c7, H⟩ := H
    have c7b0 := decide_eq_true c7
    clear c7
    replace H := bi H
    obtain ⟨⟨t191, t192, t193, t194, t195⟩, A80, H⟩ := H
    try dsimp only at H
    have A8 := Aside0.mk A80
    clear A80
    replace H := iz H
    obtain ⟨c9, H⟩ := H
    have c9b0 := decide_eq_true c9
    clear c9
    obtain ⟨y196, hy196⟩ : ∃ y_ : List (S41), y_ = (x3_1.set (x4_1 : Int).toNat (⟨t191, t192, (⟨t193, t194⟩ : S35), t195⟩ : S41)) := ⟨_, rfl⟩
    replace H : (laws_toEnvCellS.l0 k1 l0 y196 (wrap64 (x4_1 + 1))) = some r := yz hy196 H
    have Ny196 := Aside0.mk hy196
    clear hy196
    have H' := Aside0.mk H
    clear H
    have p190 : 0 <= (x4_1 : Int) := oz
    have q190 : x4_1 < (l0.length : Int) := oz
    obtain ⟨ad190, e190, hx190_0, hx190_1, hx190_2, hx190_3, hx190_4⟩ := at_T130 (Kd.C_below HR0.out HB.out) x4_1 p190 q190
    cases e190
    replace p190 := eq_true p190
    replace q190 := eq_true q190
    go_wp2_with (first | ((with_reducible refine gate_callee (f := 86) rfl ?_); refine goesL_ (some 20) rfl rfl Tryd.func86 (by kernel_rfl) rfl #[.agg #[.int .i64 ((rd_T130 l0 x4_1).f0), .int .i64 ((rd_T130 l0 x4_1).f1), .int .i64 ((rd_T130 l0 x4_1).f2.f0), .int .i64 ((rd_T130 l0 x4_1).f2.f1), .int .i64 ((rd_T130 l0 x4_1).f3)]] rfl lz ?_; (with_reducible refine (laws_toEnvCell.calls ((rd_T130 l0 x4_1).f0) ((rd_T130 l0 x4_1).f1) ((rd_T130 l0 x4_1).f2.f0) ((rd_T130 l0 x4_1).f2.f1) ((rd_T130 l0 x4_1).f3) t191 t192 t193 t194 t195 _ A8.out).mono ?_); rintro e w11 ⟨rfl, hb⟩; refine ⟨_, rfl, ?_⟩; replace HO_3 := qz HO_3 hb; replace HB := Aside0.mk (below_step (bz0 HB.out) hb); (try clear hb); (try clear hk); have p10 : 0 <= (x4_1 : Int) := oz; have q10 : (x4_1 : Int) < ((x3_1.length : Int) : Int) := oz; obtain ⟨go10, co10, eo10, gb10, gl10, cl10, HG10⟩ := Kd.R_form HO_3.out (by omega); (first | cases eo10 | (injection eo10 with ea_ en_ ec_; (first | subst ea_ | (injection ea_ with ea_; subst ea_)); subst ec_; clear en_)); have GB10 := Aside0.mk gb10; have GG10 := Aside0.mk HG10; clear gb10 gl10 HG10; obtain ⟨ce10, hcl10, hM10, hcc10, hfr10⟩ := Kd.R_elem HO_3.out z41 (x4_1 : Int) p10 q10; obtain rfl := k41_openM hM10; have hx10_0 : w11.cell? ⟨go10, (x4_1 : Int).toNat * 5, none⟩ = some (.int .i64 ((rd_T41 x3_1 x4_1).f0)) := hcc10 0 _ rfl; have hx10_1 : w11.cell? ⟨go10, (x4_1 : Int).toNat * 5 + 1, none⟩ = some (.int .i64 ((rd_T41 x3_1 x4_1).f1)) := hcc10 1 _ rfl; have hx10_2 : w11.cell? ⟨go10, (x4_1 : Int).toNat * 5 + 2, none⟩ = some (.int .i64 ((rd_T41 x3_1 x4_1).f2.f0)) := hcc10 2 _ rfl; have hx10_3 : w11.cell? ⟨go10, (x4_1 : Int).toNat * 5 + 3, none⟩ = some (.int .i64 ((rd_T41 x3_1 x4_1).f2.f1)) := hcc10 3 _ rfl; have hx10_4 : w11.cell? ⟨go10, (x4_1 : Int).toNat * 5 + 4, none⟩ = some (.int .i64 ((rd_T41 x3_1 x4_1).f3)) := hcc10 4 _ rfl; have hf10_0 : w11.frozen? ⟨go10, (x4_1 : Int).toNat * 5, none⟩ = false := hfr10 0; have hf10_1 : w11.frozen? ⟨go10, (x4_1 : Int).toNat * 5 + 1, none⟩ = false := hfr10 1; have hf10_2 : w11.frozen? ⟨go10, (x4_1 : Int).toNat * 5 + 2, none⟩ = false := hfr10 2; have hf10_3 : w11.frozen? ⟨go10, (x4_1 : Int).toNat * 5 + 3, none⟩ = false := hfr10 3; have hf10_4 : w11.frozen? ⟨go10, (x4_1 : Int).toNat * 5 + 4, none⟩ = false := hfr10 4; clear hcl10 hcc10 hfr10 hM10; replace p10 := eq_true p10; replace q10 := eq_true q10; have HX12 := Aside0.mk (show Kd.R k41 41 w11 w.heap.size (fun _ => True) (.slice (some ⟨go10, 0, none⟩) x3_1.length co10) x3_1 from (rz HO_3.out)); obtain ⟨ce12, hcl12, hM12, hcc12, hfr12⟩ := Kd.R_elem HX12.out z41 (x4_1 : Int) (of_decide_eq_true az) (by have h_ : (x4_1 : Int) < ((x3_1.length : Int) : Int) := oz; first | exact h_ | (have e_ := (Kd.R_reads' HO_3.out).1; omega) | simpa using h_); obtain rfl := k41_openM hM12; have HP12 := Kd.R_seg HX12.out (x4_1 : Int) (of_decide_eq_true az) (by have h_ : (x4_1 : Int) < ((x3_1.length : Int) : Int) := oz; first | exact h_ | (have e_ := (Kd.R_reads' HO_3.out).1; omega) | simpa using h_) (seg := [.int .i64 t191, .int .i64 t192, .int .i64 t193, .int .i64 t194, .int .i64 t195]) (j := 0) hcl12 hcc12 (show 5 <= 5 from by decide) (x' := (⟨t191, t192, (⟨t193, t194⟩ : S35), t195⟩ : S41)) (k41_mkM _ _ _ (⟨t191, t192, (⟨t193, t194⟩ : S35), t195⟩ : S41) ) (fun _ hk => hk); have hx12_0 := hcc12 0 _ rfl; (try simp only [show (k41).sz = 5 from rfl, Nat.mul_one, Nat.add_zero] at hx12_0); have hf12_0 := hfr12 0; (try simp only [show (k41).sz = 5 from rfl, Nat.mul_one, Nat.add_zero] at hf12_0); have hx12_1 := hcc12 1 _ rfl; (try simp only [show (k41).sz = 5 from rfl, Nat.mul_one, Nat.add_zero] at hx12_1); have hf12_1 := hfr12 1; (try simp only [show (k41).sz = 5 from rfl, Nat.mul_one, Nat.add_zero] at hf12_1); have hx12_2 := hcc12 2 _ rfl; (try simp only [show (k41).sz = 5 from rfl, Nat.mul_one, Nat.add_zero] at hx12_2); have hf12_2 := hfr12 2; (try simp only [show (k41).sz = 5 from rfl, Nat.mul_one, Nat.add_zero] at hf12_2); have hx12_3 := hcc12 3 _ rfl; (try simp only [show (k41).sz = 5 from rfl, Nat.mul_one, Nat.add_zero] at hx12_3); have hf12_3 := hfr12 3; (try simp only [show (k41).sz = 5 from rfl, Nat.mul_one, Nat.add_zero] at hf12_3); have hx12_4 := hcc12 4 _ rfl; (try simp only [show (k41).sz = 5 from rfl, Nat.mul_one, Nat.add_zero] at hx12_4); have hf12_4 := hfr12 4; (try simp only [show (k41).sz = 5 from rfl, Nat.mul_one, Nat.add_zero] at hf12_4); clear hcl12 hcc12 hfr12 hM12) | ((with_reducible refine gate_store (t := 41) (p := 21) rfl ?_); refine store_event (t := 41) (p := 21) (v := ?vo_w13) (w1 := (((((w11.setCell ⟨go10, (x4_1 : Int).toNat * 5, none⟩ (.int .i64 t191)).setCell ⟨go10, (x4_1 : Int).toNat * 5 + 1, none⟩ (.int .i64 t192)).setCell ⟨go10, (x4_1 : Int).toNat * 5 + 2, none⟩ (.int .i64 t193)).setCell ⟨go10, (x4_1 : Int).toNat * 5 + 3, none⟩ (.int .i64 t194)).setCell ⟨go10, (x4_1 : Int).toNat * 5 + 4, none⟩ (.int .i64 t195))) ?hg ?ho ?hn ?hr ?_; (case ho => rfl); (case hg => rfl); (case hn => rfl); (case hr => exact vz); intro w13 hw; have hg : w11.grownBy w13 (some go10) := (by rw [hw]; exact HP12.2); have hp_ : Kd.R k41 41 w13 w.heap.size (fun _ => True) (.slice (some ⟨go10, 0, none⟩) x3_1.length co10) y196 := (by rw [hw, Ny196.out]; exact HP12.1); clear HP12; replace HO_3 := Aside0.mk (hp_); replace HB := Aside0.mk ((by rw [hw]; exact below_set (below_set (below_set (below_set (below_set (HB.out) GB10.out) GB10.out) GB10.out) GB10.out) GB10.out : Below w.heap.size w w13)); clear hg hw hp_))
    go_roundg k1
    case measure => have := HK1.out; omega
    case rel => exact ⟨(y196), (wrap64 (x4_1 + 1)), ez, H', ⟨by have := HK1.out; omega⟩, ⟨by refine rq ?_; exact HO_3.out⟩, ⟨(bz0 HB.out)⟩⟩
   ·rw [if_neg c6] at H
    have c6b0 := decide_eq_false c6
    clear c6
    obtain rfl := Option.some.inj H
    go_wp2
    go_ret
    exact ⟨_, gz, by refine rq ?_; exact HO_3.out, (bz0 HB.out)⟩
def laws_toClo.f (a0_0 : Int) (a0_1 : Int) : Option (Int × Int) := some (a0_0, a0_1)
set_option maxHeartbeats 8000000 in
set_option maxRecDepth 100000 in
theorem laws_toClo.calls (a0_0 : Int) (a0_1 : Int) (r1 : Int) (r2 : Int) (w : World) (h : laws_toClo.f a0_0 a0_1 = some (r1, r2)) :
  Calls Tryd.prog 87 #[.agg #[.int .i64 a0_0, .int .i64 a0_1]] w fun e w' => e = .returned (.agg #[.int .i64 r1, .int .i64 r2]) /\ Below w.heap.size w w' := by
 have hu132 := Tryd.underlying132
 have hu86 := Tryd.underlying86
 have HB := Aside0.mk (Below.refl w.heap.size w)
 have H : (some (a0_0, a0_1)) = some (r1, r2) := h
 clear h
 simp only [Option.some.injEq, Prod.mk.injEq] at H
 obtain ⟨rfl, rfl⟩ := H
 go_enter Tryd.func87, Tryd.ntmps87
 go_wp2_with (first | ((with_reducible refine gate_dst (N := 1) rfl ?_); refine box_event ?hg (N := 1) ?hd (cs := #[.int .i64 a0_0, .int .i64 a0_1]) (t := 132) ?hr ?_; (case hd => rfl); (case hg => rfl); (case hr => exact vz); intro gb197 hg w2 hbox hb; have BK197 := Aside0.mk (hbox); have GW197 := Aside0.mk ((by rw [hg]; exact (below_size (bz0 HB.out)) : w.heap.size <= gb197)); have GE197 := Aside0.mk ((by rw [hg]; exact (below_size (bz0 HB.out)) : w.heap.size <= gb197)); replace HB := Aside0.mk (below_step (bz0 HB.out) hb); clear hb hbox hg) | ((with_reducible refine gate_dst (N := 2) rfl ?_); refine box_event ?hg (N := 2) ?hd (cs := #[.int .i64 0, .int .i64 0]) (t := 86) ?hr ?_; (case hd => rfl); (case hg => rfl); (case hr => exact vz); intro gb198 hg w3 hbox hb; have BK198 := Aside0.mk (hbox); have GW198 := Aside0.mk ((by rw [hg]; exact (below_size (bz1 HB.out GE197.out)) : w.heap.size <= gb198)); have GE198 := Aside0.mk ((by rw [hg]; exact (below_size (bz1 HB.out GE197.out)) : w.heap.size <= gb198)); replace HB := Aside0.mk (below_step (bz1 HB.out GE197.out) hb); have NB197_198 := Aside0.mk ((by rw [hg]; exact Nat.ne_of_lt (blk_lt (g := gb197) (o := .cells #[.int .i64 a0_0, .int .i64 a0_1] 132 (0, 0)) (kz BK197.out)) : gb197 ≠ gb198)); have NB198_197 := Aside0.mk ((by rw [hg]; exact Nat.ne_of_gt (blk_lt (g := gb197) (o := .cells #[.int .i64 a0_0, .int .i64 a0_1] 132 (0, 0)) (kz BK197.out)) : gb198 ≠ gb197)); replace BK197 := Aside0.mk (blk_below (kz BK197.out) hb); clear hb hbox hg) | ((with_reducible refine gate_dst (N := 3) rfl ?_); refine box_event ?hg (N := 3) ?hd (cs := #[.int .i64 0, .int .i64 0]) (t := 86) ?hr ?_; (case hd => rfl); (case hg => rfl); (case hr => exact vz); intro gb199 hg w4 hbox hb; have BK199 := Aside0.mk (hbox); have GW199 := Aside0.mk ((by rw [hg]; exact (below_size (bz2 HB.out GE197.out GE198.out)) : w.heap.size <= gb199)); have GE199 := Aside0.mk ((by rw [hg]; exact (below_size (bz2 HB.out GE197.out GE198.out)) : w.heap.size <= gb199)); replace HB := Aside0.mk (below_step (bz2 HB.out GE197.out GE198.out) hb); have NB197_199 := Aside0.mk ((by rw [hg]; exact Nat.ne_of_lt (blk_lt (g := gb197) (o := .cells #[.int .i64 a0_0, .int .i64 a0_1] 132 (0, 0)) (kz BK197.out)) : gb197 ≠ gb199)); have NB199_197 := Aside0.mk ((by rw [hg]; exact Nat.ne_of_gt (blk_lt (g := gb197) (o := .cells #[.int .i64 a0_0, .int .i64 a0_1] 132 (0, 0)) (kz BK197.out)) : gb199 ≠ gb197)); replace BK197 := Aside0.mk (blk_below (kz BK197.out) hb); have NB198_199 := Aside0.mk ((by rw [hg]; exact Nat.ne_of_lt (blk_lt (g := gb198) (o := .cells #[.int .i64 0, .int .i64 0] 86 (0, 0)) (kz BK198.out)) : gb198 ≠ gb199)); have NB199_198 := Aside0.mk ((by rw [hg]; exact Nat.ne_of_gt (blk_lt (g := gb198) (o := .cells #[.int .i64 0, .int .i64 0] 86 (0, 0)) (kz BK198.out)) : gb199 ≠ gb198)); replace BK198 := Aside0.mk (blk_below (kz BK198.out) hb); clear hb hbox hg; have hnb5 := NB197_198.out; have hnc5 := NB198_197.out; have hnb6 := NB197_199.out; have hnc6 := NB199_197.out; obtain ⟨hcz7_0, hcz7_1⟩ := cz2 BK197.out; obtain ⟨hfz7_0, hfz7_1⟩ := fz2 BK197.out; have hnb8 := NB199_198.out; have hnc8 := NB198_199.out; obtain ⟨hcz9_0, hcz9_1⟩ := cz2 BK199.out; obtain ⟨hfz9_0, hfz9_1⟩ := fz2 BK199.out; obtain ⟨hcz10_0, hcz10_1⟩ := cz2 BK198.out; obtain ⟨hfz10_0, hfz10_1⟩ := fz2 BK198.out))
 refine bodyPost_ret (results_cell_row rfl _ _ gb198 86 #[.int .i64 a0_0, .int .i64 a0_1] (0, 0) _ rfl (by refine kq ?_; refine blk_put (cs := #[.int .i64 a0_0, .int .i64 0]) ?_ 1 _ rfl; refine kq ?_; refine blk_put (cs := #[.int .i64 0, .int .i64 0]) ?_ 0 _ rfl; refine kq ?_; refine blk_far ?_ NB198_199.out _; refine kq ?_; refine blk_far ?_ NB198_199.out _; refine kq ?_; exact BK198.out) Tryd.underlying86 rfl (by kernel_rfl)) rfl ?_
 exact ⟨gz, (bz3 HB.out GE197.out GE198.out GE199.out)⟩
def laws_toCloS.l0 : Nat -> List (S132) -> List (S86) -> Int -> Option ((List (S86)))
 | 0, _, _, _ => none
 | k + 1, x0, x3, x4 => if x4 < (x0.length : Int) then (if 0 <= x4 then ((laws_toClo.f ((rd_T132 x0 x4).f0) ((rd_T132 x0 x4).f1)).bind fun bt204 => (if x4 < (x3.length : Int) then (laws_toCloS.l0 k x0 (x3.set (x4 : Int).toNat (⟨bt204.1, bt204.2⟩ : S86)) (wrap64 (x4 + 1))) else (none))) else (none)) else (some x3)
def laws_toCloS.f (k : Nat) (l0 : List (S132)) : Option ((List (S86))) := if 0 <= (l0.length : Int) then (if ((l0.length : Int) : Int).toNat <= 17592186044416 then (laws_toCloS.l0 k l0 (List.replicate ((l0.length : Int) : Int).toNat z86) 0) else (none)) else (none)
theorem laws_toCloS.mono_l : ∀ k, (∀ y0 y1 y2, LeO (laws_toCloS.l0 k y0 y1 y2) (laws_toCloS.l0 (k + 1) y0 y1 y2))
 | 0 => fun _ _ _ r h => by simp [laws_toCloS.l0] at h
 | k + 1 => by
  have ih0 := laws_toCloS.mono_l k
  ·intro y0 y1 y2
   unfold laws_toCloS.l0
   with_reducible repeat' first | exact ih0 _ _ _ | exact lrz _ | exact lnz _ | refine liz ?_ ?_ | refine lbz ?_ fun _ => ?_
theorem laws_toCloS.mono : ∀ a0 k, LeO (laws_toCloS.f k a0) (laws_toCloS.f (k + 1) a0) := by
 intro a0 k
 have ih0 := laws_toCloS.mono_l k
 unfold laws_toCloS.f
 with_reducible repeat' first | exact ih0 _ _ _ | exact lrz _ | exact lnz _ | refine liz ?_ ?_ | refine lbz ?_ fun _ => ?_
set_option maxHeartbeats 8000000 in
set_option maxRecDepth 100000 in
theorem laws_toCloS.calls (k : Nat) (A0 : Option Addr) (c0 : Nat) (l0 : List (S132)) (r : List (S86)) (w : World) (hr0 : Kd.C k132 w A0 l0.length l0) (hc0 : l0.length <= c0) (h : laws_toCloS.f k l0 = some r) :
  Calls Tryd.prog 68 #[.slice A0 l0.length c0] w fun e w' => ∃ v0_ : Value, e = .returned (v0_) /\ Kd.R k86 86 w' w.heap.size (fun _ => True) v0_ r /\ Below w.heap.size w w' := by
 have hu132 := Tryd.underlying132
 have hu86 := Tryd.underlying86
 have HR0 := Aside0.mk hr0
 have HC0 := Aside0.mk hc0
 clear hr0 hc0
 have HB := Aside0.mk (Below.refl w.heap.size w)
 have H : (if 0 <= (l0.length : Int) then (if ((l0.length : Int) : Int).toNat <= 17592186044416 then (laws_toCloS.l0 k l0 (List.replicate ((l0.length : Int) : Int).toNat z86) 0) else (none)) else (none)) = some r := h
 clear h
 replace H := iz H
 obtain ⟨c2, H⟩ := H
 have c2b0 := eq_true c2
 have c2b1 : decide (0 <= (l0.length : Int)) = true := decide_eq_true c2
 clear c2
 replace H := iz H
 obtain ⟨c3, H⟩ := H
 have c3b0 := eq_true c3
 have c3b1 : decide (((l0.length : Int) : Int).toNat <= 17592186044416) = true := decide_eq_true c3
 clear c3
 obtain ⟨y200, hy200⟩ : ∃ y_ : List (S86), y_ = (List.replicate ((l0.length : Int) : Int).toNat z86) := ⟨_, rfl⟩
 replace H : (laws_toCloS.l0 k l0 y200 0) = some r := yz hy200 H
 have Ny200 := Aside0.mk hy200
 clear hy200
 have H' := Aside0.mk H
 clear H
 go_enter Tryd.func68, Tryd.ntmps68
 go_wp2_with (first | ((with_reducible refine gate_dst (N := 7) rfl ?_); refine Kd.R_make k86 _ 86 rfl (N := 7) rfl 25 _ _ rfl (l0.length : Int) rfl rfl Tryd.underlying25 (.agg #[(.int .i64 0), (.int .i64 0)]) 16 info86 rfl (by decide) (by omega) z86 (ok := fun _ => True) (okp := fun _ => True) (k86_mkM _ _ _ z86 ) (fun _ hk => hk) trivial (of_decide_eq_true az) (Nat.le_trans (Nat.mul_le_mul_right _ (of_decide_eq_true az : (l0.length : Int).toNat <= 17592186044416)) (by omega)) (Below.refl _ _) (Nat.le_refl _) ?_; intro v201 w4 ho5 hb hg_ hnew_; clear hg_ hnew_; (first | rw [<- Ny200.out] at ho5 | (simp only [Int.reduceToNat] at ho5; rw [<- Ny200.out] at ho5)); have HO202 := Aside0.mk (Kd.R_lower ho5 (below_size (bz0 HB.out))); replace HB := Aside0.mk (below_step (bz0 HB.out) hb); clear hb ho5))
 (try simp only [Act.put, sz1, sz2, sz3])
 go_loopg [4] k (fun kq v4 w' => ∃ (x3_1 : List (S86)) (x4_1 : Int), v4 = .int .i64 x4_1 /\ Aside0 (laws_toCloS.l0 kq l0 x3_1 x4_1 = some r) /\ Aside0 (kq <= k) /\ Aside0 (Kd.R k86 86 w' w.heap.size (fun _ => True) v201 x3_1) /\ Aside0 (Below w.heap.size w w'))
 case atStart => exact ⟨(y200), (0), ez, H', ⟨Nat.le_refl _⟩, ⟨by refine rq ?_; exact HO202.out⟩, ⟨(bz0 HB.out)⟩⟩
 case round =>
  clear H'
  try clear c2
  try clear c2b0
  try clear c2b1
  try clear p2
  try clear c3
  try clear c3b0
  try clear c3b1
  obtain ⟨x3_1, x4_1, rfl, HA, HK1, HO_3, HB⟩ := hrel
  cases gk with
  | zero => exact absurd HA.out (by simp [laws_toCloS.l0])
  | succ k1 =>
   have H := HA.out
   clear HA
   simp only [laws_toCloS.l0] at H
   by_cases c6 : x4_1 < (l0.length : Int)
   ·rw [if_pos c6] at H
    have c6b0 := decide_eq_true c6
    clear c6
    replace H := iz H
    obtain ⟨c7, H⟩ := H
    have c7b0 := decide_eq_true c7
    clear c7
    replace H := bi H
    obtain ⟨⟨t204, t205⟩, A80, H⟩ := H
    try dsimp only at H
    have A8 := Aside0.mk A80
    clear A80
    replace H := iz H
    obtain ⟨c9, H⟩ := H
    have c9b0 := decide_eq_true c9
    clear c9
    obtain ⟨y206, hy206⟩ : ∃ y_ : List (S86), y_ = (x3_1.set (x4_1 : Int).toNat (⟨t204, t205⟩ : S86)) := ⟨_, rfl⟩
    replace H : (laws_toCloS.l0 k1 l0 y206 (wrap64 (x4_1 + 1))) = some r := yz hy206 H
    have Ny206 := Aside0.mk hy206
    clear hy206
    have H' := Aside0.mk H
    clear H
    have p203 : 0 <= (x4_1 : Int) := oz
    have q203 : x4_1 < (l0.length : Int) := oz
    obtain ⟨ad203, e203, hx203_0, hx203_1⟩ := at_T132 (Kd.C_below HR0.out HB.out) x4_1 p203 q203
    cases e203
    replace p203 := eq_true p203
    replace q203 := eq_true q203
    go_wp2_with (first | ((with_reducible refine gate_callee (f := 87) rfl ?_); refine goesL_ (some 20) rfl rfl Tryd.func87 (by kernel_rfl) rfl #[.agg #[.int .i64 ((rd_T132 l0 x4_1).f0), .int .i64 ((rd_T132 l0 x4_1).f1)]] rfl lz ?_; (with_reducible refine (laws_toClo.calls ((rd_T132 l0 x4_1).f0) ((rd_T132 l0 x4_1).f1) t204 t205 _ A8.out).mono ?_); rintro e w11 ⟨rfl, hb⟩; refine ⟨_, rfl, ?_⟩; replace HO_3 := qz HO_3 hb; replace HB := Aside0.mk (below_step (bz0 HB.out) hb); (try clear hb); (try clear hk); have p10 : 0 <= (x4_1 : Int) := oz; have q10 : (x4_1 : Int) < ((x3_1.length : Int) : Int) := oz; obtain ⟨go10, co10, eo10, gb10, gl10, cl10, HG10⟩ := Kd.R_form HO_3.out (by omega); (first | cases eo10 | (injection eo10 with ea_ en_ ec_; (first | subst ea_ | (injection ea_ with ea_; subst ea_)); subst ec_; clear en_)); have GB10 := Aside0.mk gb10; have GG10 := Aside0.mk HG10; clear gb10 gl10 HG10; obtain ⟨ce10, hcl10, hM10, hcc10, hfr10⟩ := Kd.R_elem HO_3.out z86 (x4_1 : Int) p10 q10; obtain rfl := k86_openM hM10; have hx10_0 : w11.cell? ⟨go10, (x4_1 : Int).toNat * 2, none⟩ = some (.int .i64 ((rd_T86 x3_1 x4_1).f0)) := hcc10 0 _ rfl; have hx10_1 : w11.cell? ⟨go10, (x4_1 : Int).toNat * 2 + 1, none⟩ = some (.int .i64 ((rd_T86 x3_1 x4_1).f1)) := hcc10 1 _ rfl; have hf10_0 : w11.frozen? ⟨go10, (x4_1 : Int).toNat * 2, none⟩ = false := hfr10 0; have hf10_1 : w11.frozen? ⟨go10, (x4_1 : Int).toNat * 2 + 1, none⟩ = false := hfr10 1; clear hcl10 hcc10 hfr10 hM10; replace p10 := eq_true p10; replace q10 := eq_true q10; have HX12 := Aside0.mk (show Kd.R k86 86 w11 w.heap.size (fun _ => True) (.slice (some ⟨go10, 0, none⟩) x3_1.length co10) x3_1 from (rz HO_3.out)); obtain ⟨ce12, hcl12, hM12, hcc12, hfr12⟩ := Kd.R_elem HX12.out z86 (x4_1 : Int) (of_decide_eq_true az) (by have h_ : (x4_1 : Int) < ((x3_1.length : Int) : Int) := oz; first | exact h_ | (have e_ := (Kd.R_reads' HO_3.out).1; omega) | simpa using h_); obtain rfl := k86_openM hM12; have HP12 := Kd.R_seg HX12.out (x4_1 : Int) (of_decide_eq_true az) (by have h_ : (x4_1 : Int) < ((x3_1.length : Int) : Int) := oz; first | exact h_ | (have e_ := (Kd.R_reads' HO_3.out).1; omega) | simpa using h_) (seg := [.int .i64 t204, .int .i64 t205]) (j := 0) hcl12 hcc12 (show 2 <= 2 from by decide) (x' := (⟨t204, t205⟩ : S86)) (k86_mkM _ _ _ (⟨t204, t205⟩ : S86) ) (fun _ hk => hk); have hx12_0 := hcc12 0 _ rfl; (try simp only [show (k86).sz = 2 from rfl, Nat.mul_one, Nat.add_zero] at hx12_0); have hf12_0 := hfr12 0; (try simp only [show (k86).sz = 2 from rfl, Nat.mul_one, Nat.add_zero] at hf12_0); have hx12_1 := hcc12 1 _ rfl; (try simp only [show (k86).sz = 2 from rfl, Nat.mul_one, Nat.add_zero] at hx12_1); have hf12_1 := hfr12 1; (try simp only [show (k86).sz = 2 from rfl, Nat.mul_one, Nat.add_zero] at hf12_1); clear hcl12 hcc12 hfr12 hM12) | ((with_reducible refine gate_store (t := 86) (p := 21) rfl ?_); refine store_event (t := 86) (p := 21) (v := ?vo_w13) (w1 := ((w11.setCell ⟨go10, (x4_1 : Int).toNat * 2, none⟩ (.int .i64 t204)).setCell ⟨go10, (x4_1 : Int).toNat * 2 + 1, none⟩ (.int .i64 t205))) ?hg ?ho ?hn ?hr ?_; (case ho => rfl); (case hg => rfl); (case hn => rfl); (case hr => exact vz); intro w13 hw; have hg : w11.grownBy w13 (some go10) := (by rw [hw]; exact HP12.2); have hp_ : Kd.R k86 86 w13 w.heap.size (fun _ => True) (.slice (some ⟨go10, 0, none⟩) x3_1.length co10) y206 := (by rw [hw, Ny206.out]; exact HP12.1); clear HP12; replace HO_3 := Aside0.mk (hp_); replace HB := Aside0.mk ((by rw [hw]; exact below_set (below_set (HB.out) GB10.out) GB10.out : Below w.heap.size w w13)); clear hg hw hp_))
    go_roundg k1
    case measure => have := HK1.out; omega
    case rel => exact ⟨(y206), (wrap64 (x4_1 + 1)), ez, H', ⟨by have := HK1.out; omega⟩, ⟨by refine rq ?_; exact HO_3.out⟩, ⟨(bz0 HB.out)⟩⟩
   ·rw [if_neg c6] at H
    have c6b0 := decide_eq_false c6
    clear c6
    obtain rfl := Option.some.inj H
    go_wp2
    go_ret
    exact ⟨_, gz, by refine rq ?_; exact HO_3.out, (bz0 HB.out)⟩
def laws_toTwo.f (a0_0 : Int) (a0_1 : Int) (a0_2 : Int) (a0_3 : Int) : Option (Int × Int × Int × Int) := (laws_toVal.f a0_0 a0_1).bind fun bt210 => ((laws_toVal.f a0_2 a0_3).bind fun bt212 => (some (bt210.1, bt210.2, bt212.1, bt212.2)))
set_option maxHeartbeats 8000000 in
set_option maxRecDepth 100000 in
theorem laws_toTwo.calls (a0_0 : Int) (a0_1 : Int) (a0_2 : Int) (a0_3 : Int) (r1 : Int) (r2 : Int) (r3 : Int) (r4 : Int) (w : World) (h : laws_toTwo.f a0_0 a0_1 a0_2 a0_3 = some (r1, r2, r3, r4)) :
  Calls Tryd.prog 88 #[.agg #[.int .i64 a0_0, .int .i64 a0_1, .int .i64 a0_2, .int .i64 a0_3]] w fun e w' => e = .returned (.agg #[.int .i64 r1, .int .i64 r2, .int .i64 r3, .int .i64 r4]) /\ Below w.heap.size w w' := by
 have hu135 := Tryd.underlying135
 have hu47 := Tryd.underlying47
 have hu71 := Tryd.underlying71
 have hu35 := Tryd.underlying35
 have HB := Aside0.mk (Below.refl w.heap.size w)
 have H : ((laws_toVal.f a0_0 a0_1).bind fun bt210 => ((laws_toVal.f a0_2 a0_3).bind fun bt212 => (some (bt210.1, bt210.2, bt212.1, bt212.2)))) = some (r1, r2, r3, r4) := h
 clear h
 replace H := bi H
 obtain ⟨⟨t210, t211⟩, A20, H⟩ := H
 try dsimp only at H
 have A2 := Aside0.mk A20
 clear A20
 replace H := bi H
 obtain ⟨⟨t212, t213⟩, A30, H⟩ := H
 try dsimp only at H
 have A3 := Aside0.mk A30
 clear A30
 simp only [Option.some.injEq, Prod.mk.injEq] at H
 obtain ⟨rfl, rfl, rfl, rfl⟩ := H
 go_enter Tryd.func88, Tryd.ntmps88
 go_wp2_with (first | ((with_reducible refine gate_dst (N := 1) rfl ?_); refine box_event ?hg (N := 1) ?hd (cs := #[.int .i64 a0_0, .int .i64 a0_1, .int .i64 a0_2, .int .i64 a0_3]) (t := 135) ?hr ?_; (case hd => rfl); (case hg => rfl); (case hr => exact vz); intro gb207 hg w4 hbox hb; have BK207 := Aside0.mk (hbox); have GW207 := Aside0.mk ((by rw [hg]; exact (below_size (bz0 HB.out)) : w.heap.size <= gb207)); have GE207 := Aside0.mk ((by rw [hg]; exact (below_size (bz0 HB.out)) : w.heap.size <= gb207)); replace HB := Aside0.mk (below_step (bz0 HB.out) hb); clear hb hbox hg) | ((with_reducible refine gate_dst (N := 2) rfl ?_); refine box_event ?hg (N := 2) ?hd (cs := #[.int .i64 0, .int .i64 0, .int .i64 0, .int .i64 0]) (t := 47) ?hr ?_; (case hd => rfl); (case hg => rfl); (case hr => exact vz); intro gb208 hg w5 hbox hb; have BK208 := Aside0.mk (hbox); have GW208 := Aside0.mk ((by rw [hg]; exact (below_size (bz1 HB.out GE207.out)) : w.heap.size <= gb208)); have GE208 := Aside0.mk ((by rw [hg]; exact (below_size (bz1 HB.out GE207.out)) : w.heap.size <= gb208)); replace HB := Aside0.mk (below_step (bz1 HB.out GE207.out) hb); have NB207_208 := Aside0.mk ((by rw [hg]; exact Nat.ne_of_lt (blk_lt (g := gb207) (o := .cells #[.int .i64 a0_0, .int .i64 a0_1, .int .i64 a0_2, .int .i64 a0_3] 135 (0, 0)) (kz BK207.out)) : gb207 ≠ gb208)); have NB208_207 := Aside0.mk ((by rw [hg]; exact Nat.ne_of_gt (blk_lt (g := gb207) (o := .cells #[.int .i64 a0_0, .int .i64 a0_1, .int .i64 a0_2, .int .i64 a0_3] 135 (0, 0)) (kz BK207.out)) : gb208 ≠ gb207)); replace BK207 := Aside0.mk (blk_below (kz BK207.out) hb); clear hb hbox hg) | ((with_reducible refine gate_dst (N := 3) rfl ?_); refine box_event ?hg (N := 3) ?hd (cs := #[.int .i64 0, .int .i64 0, .int .i64 0, .int .i64 0]) (t := 47) ?hr ?_; (case hd => rfl); (case hg => rfl); (case hr => exact vz); intro gb209 hg w6 hbox hb; have BK209 := Aside0.mk (hbox); have GW209 := Aside0.mk ((by rw [hg]; exact (below_size (bz2 HB.out GE207.out GE208.out)) : w.heap.size <= gb209)); have GE209 := Aside0.mk ((by rw [hg]; exact (below_size (bz2 HB.out GE207.out GE208.out)) : w.heap.size <= gb209)); replace HB := Aside0.mk (below_step (bz2 HB.out GE207.out GE208.out) hb); have NB207_209 := Aside0.mk ((by rw [hg]; exact Nat.ne_of_lt (blk_lt (g := gb207) (o := .cells #[.int .i64 a0_0, .int .i64 a0_1, .int .i64 a0_2, .int .i64 a0_3] 135 (0, 0)) (kz BK207.out)) : gb207 ≠ gb209)); have NB209_207 := Aside0.mk ((by rw [hg]; exact Nat.ne_of_gt (blk_lt (g := gb207) (o := .cells #[.int .i64 a0_0, .int .i64 a0_1, .int .i64 a0_2, .int .i64 a0_3] 135 (0, 0)) (kz BK207.out)) : gb209 ≠ gb207)); replace BK207 := Aside0.mk (blk_below (kz BK207.out) hb); have NB208_209 := Aside0.mk ((by rw [hg]; exact Nat.ne_of_lt (blk_lt (g := gb208) (o := .cells #[.int .i64 0, .int .i64 0, .int .i64 0, .int .i64 0] 47 (0, 0)) (kz BK208.out)) : gb208 ≠ gb209)); have NB209_208 := Aside0.mk ((by rw [hg]; exact Nat.ne_of_gt (blk_lt (g := gb208) (o := .cells #[.int .i64 0, .int .i64 0, .int .i64 0, .int .i64 0] 47 (0, 0)) (kz BK208.out)) : gb209 ≠ gb208)); replace BK208 := Aside0.mk (blk_below (kz BK208.out) hb); clear hb hbox hg; have hnb7 := NB207_208.out; have hnc7 := NB208_207.out; have hnb8 := NB207_209.out; have hnc8 := NB209_207.out; obtain ⟨hcz9_0, hcz9_1, hcz9_2, hcz9_3⟩ := cz4 BK207.out; obtain ⟨hfz9_0, hfz9_1, hfz9_2, hfz9_3⟩ := fz4 BK207.out) | ((with_reducible refine gate_callee (f := 34) rfl ?_); refine goesL_ (some 6) rfl rfl Tryd.func34 (by kernel_rfl) rfl #[.agg #[.int .i64 a0_0, .int .i64 a0_1]] rfl lz ?_; (with_reducible refine (laws_toVal.calls a0_0 a0_1 t210 t211 _ A2.out).mono ?_); rintro e w10 ⟨rfl, hb⟩; refine ⟨_, rfl, ?_⟩; replace BK207 := Aside0.mk (blk_below (kz BK207.out) hb); replace BK208 := Aside0.mk (blk_below (kz BK208.out) hb); replace BK209 := Aside0.mk (blk_below (kz BK209.out) hb); replace HB := Aside0.mk (below_step (bz3 HB.out GE207.out GE208.out GE209.out) hb); (try clear hb); have hnb11 := NB209_208.out; have hnc11 := NB208_209.out; obtain ⟨hcz12_0, hcz12_1, hcz12_2, hcz12_3⟩ := cz4 BK209.out; obtain ⟨hfz12_0, hfz12_1, hfz12_2, hfz12_3⟩ := fz4 BK209.out; obtain ⟨hcz13_0, hcz13_1, hcz13_2, hcz13_3⟩ := cz4 BK207.out; obtain ⟨hfz13_0, hfz13_1, hfz13_2, hfz13_3⟩ := fz4 BK207.out) | ((with_reducible refine gate_callee (f := 34) rfl ?_); refine goesL_ (some 10) rfl rfl Tryd.func34 (by kernel_rfl) rfl #[.agg #[.int .i64 a0_2, .int .i64 a0_3]] rfl lz ?_; (with_reducible refine (laws_toVal.calls a0_2 a0_3 t212 t213 _ A3.out).mono ?_); rintro e w14 ⟨rfl, hb⟩; refine ⟨_, rfl, ?_⟩; replace BK207 := Aside0.mk (blk_below (g := gb207) (o := .cells #[.int .i64 a0_0, .int .i64 a0_1, .int .i64 a0_2, .int .i64 a0_3] 135 (0, 0)) (by refine kq ?_; refine blk_far ?_ NB207_209.out _; refine kq ?_; refine blk_far ?_ NB207_209.out _; refine kq ?_; exact BK207.out) hb); replace BK208 := Aside0.mk (blk_below (g := gb208) (o := .cells #[.int .i64 0, .int .i64 0, .int .i64 0, .int .i64 0] 47 (0, 0)) (by refine kq ?_; refine blk_far ?_ NB208_209.out _; refine kq ?_; refine blk_far ?_ NB208_209.out _; refine kq ?_; exact BK208.out) hb); replace BK209 := Aside0.mk (blk_below (g := gb209) (o := .cells #[.int .i64 t210, .int .i64 t211, .int .i64 0, .int .i64 0] 47 (0, 0)) (by refine kq ?_; refine blk_put (cs := #[.int .i64 t210, .int .i64 0, .int .i64 0, .int .i64 0]) ?_ 1 _ rfl; refine kq ?_; refine blk_put (cs := #[.int .i64 0, .int .i64 0, .int .i64 0, .int .i64 0]) ?_ 0 _ rfl; refine kq ?_; exact BK209.out) hb); replace HB := Aside0.mk (below_step (bz3 HB.out GE207.out GE208.out GE209.out) hb); (try clear hb); obtain ⟨hcz15_0, hcz15_1, hcz15_2, hcz15_3⟩ := cz4 BK209.out; obtain ⟨hfz15_0, hfz15_1, hfz15_2, hfz15_3⟩ := fz4 BK209.out; obtain ⟨hcz16_0, hcz16_1, hcz16_2, hcz16_3⟩ := cz4 BK208.out; obtain ⟨hfz16_0, hfz16_1, hfz16_2, hfz16_3⟩ := fz4 BK208.out))
 refine bodyPost_ret (results_cell_row rfl _ _ gb208 47 #[.int .i64 t210, .int .i64 t211, .int .i64 t212, .int .i64 t213] (0, 0) _ rfl (by refine kq ?_; refine blk_put (cs := #[.int .i64 t210, .int .i64 t211, .int .i64 t212, .int .i64 0]) ?_ 3 _ rfl; refine kq ?_; refine blk_put (cs := #[.int .i64 t210, .int .i64 t211, .int .i64 0, .int .i64 0]) ?_ 2 _ rfl; refine kq ?_; refine blk_put (cs := #[.int .i64 t210, .int .i64 0, .int .i64 0, .int .i64 0]) ?_ 1 _ rfl; refine kq ?_; refine blk_put (cs := #[.int .i64 0, .int .i64 0, .int .i64 0, .int .i64 0]) ?_ 0 _ rfl; refine kq ?_; refine blk_far ?_ NB208_209.out _; refine kq ?_; refine blk_far ?_ NB208_209.out _; refine kq ?_; exact BK208.out) Tryd.underlying47 rfl (by kernel_rfl)) rfl ?_
 exact ⟨gz, (bz3 HB.out GE207.out GE208.out GE209.out)⟩
def laws_toTwoS.l0 : Nat -> List (S135) -> List (S47) -> Int -> Option ((List (S47)))
 | 0, _, _, _ => none
 | k + 1, x0, x3, x4 => if x4 < (x0.length : Int) then (if 0 <= x4 then ((laws_toTwo.f ((rd_T135 x0 x4).f0.f0) ((rd_T135 x0 x4).f0.f1) ((rd_T135 x0 x4).f1.f0) ((rd_T135 x0 x4).f1.f1)).bind fun bt218 => (if x4 < (x3.length : Int) then (laws_toTwoS.l0 k x0 (x3.set (x4 : Int).toNat (⟨(⟨bt218.1, bt218.2.1⟩ : S35), (⟨bt218.2.2.1, bt218.2.2.2⟩ : S35)⟩ : S47)) (wrap64 (x4 + 1))) else (none))) else (none)) else (some x3)
def laws_toTwoS.f (k : Nat) (l0 : List (S135)) : Option ((List (S47))) := if 0 <= (l0.length : Int) then (if ((l0.length : Int) : Int).toNat <= 8796093022208 then (laws_toTwoS.l0 k l0 (List.replicate ((l0.length : Int) : Int).toNat z47) 0) else (none)) else (none)
theorem laws_toTwoS.mono_l : ∀ k, (∀ y0 y1 y2, LeO (laws_toTwoS.l0 k y0 y1 y2) (laws_toTwoS.l0 (k + 1) y0 y1 y2))
 | 0 => fun _ _ _ r h => by simp [laws_toTwoS.l0] at h
 | k + 1 => by
  have ih0 := laws_toTwoS.mono_l k
  ·intro y0 y1 y2
   unfold laws_toTwoS.l0
   with_reducible repeat' first | exact ih0 _ _ _ | exact lrz _ | exact lnz _ | refine liz ?_ ?_ | refine lbz ?_ fun _ => ?_
theorem laws_toTwoS.mono : ∀ a0 k, LeO (laws_toTwoS.f k a0) (laws_toTwoS.f (k + 1) a0) := by
 intro a0 k
 have ih0 := laws_toTwoS.mono_l k
 unfold laws_toTwoS.f
 with_reducible repeat' first | exact ih0 _ _ _ | exact lrz _ | exact lnz _ | refine liz ?_ ?_ | refine lbz ?_ fun _ => ?_
set_option maxHeartbeats 8000000 in
set_option maxRecDepth 100000 in
theorem laws_toTwoS.calls (k : Nat) (A0 : Option Addr) (c0 : Nat) (l0 : List (S135)) (r : List (S47)) (w : World) (hr0 : Kd.C k135 w A0 l0.length l0) (hc0 : l0.length <= c0) (h : laws_toTwoS.f k l0 = some r) :
  Calls Tryd.prog 69 #[.slice A0 l0.length c0] w fun e w' => ∃ v0_ : Value, e = .returned (v0_) /\ Kd.R k47 47 w' w.heap.size (fun _ => True) v0_ r /\ Below w.heap.size w w' := by
 have hu135 := Tryd.underlying135
 have hu47 := Tryd.underlying47
 have HR0 := Aside0.mk hr0
 have HC0 := Aside0.mk hc0
 clear hr0 hc0
 have HB := Aside0.mk (Below.refl w.heap.size w)
 have H : (if 0 <= (l0.length : Int) then (if ((l0.length : Int) : Int).toNat <= 8796093022208 then (laws_toTwoS.l0 k l0 (List.replicate ((l0.length : Int) : Int).toNat z47) 0) else (none)) else (none)) = some r := h
 clear h
 replace H := iz H
 obtain ⟨c2, H⟩ := H
 have c2b0 := eq_true c2
 have c2b1 : decide (0 <= (l0.length : Int)) = true := decide_eq_true c2
 clear c2
 replace H := iz H
 obtain ⟨c3, H⟩ := H
 have c3b0 := eq_true c3
 have c3b1 : decide (((l0.length : Int) : Int).toNat <= 8796093022208) = true := decide_eq_true c3
 clear c3
 obtain ⟨y214, hy214⟩ : ∃ y_ : List (S47), y_ = (List.replicate ((l0.length : Int) : Int).toNat z47) := ⟨_, rfl⟩
 replace H : (laws_toTwoS.l0 k l0 y214 0) = some r := yz hy214 H
 have Ny214 := Aside0.mk hy214
 clear hy214
 have H' := Aside0.mk H
 clear H
 go_enter Tryd.func69, Tryd.ntmps69
 go_wp2_with (first | ((with_reducible refine gate_dst (N := 7) rfl ?_); refine Kd.R_make k47 _ 47 rfl (N := 7) rfl 26 _ _ rfl (l0.length : Int) rfl rfl Tryd.underlying26 (.agg #[(.int .i64 0), (.int .i64 0), (.int .i64 0), (.int .i64 0)]) 32 info47 rfl (by decide) (by omega) z47 (ok := fun _ => True) (okp := fun _ => True) (k47_mkM _ _ _ z47 ) (fun _ hk => hk) trivial (of_decide_eq_true az) (Nat.le_trans (Nat.mul_le_mul_right _ (of_decide_eq_true az : (l0.length : Int).toNat <= 8796093022208)) (by omega)) (Below.refl _ _) (Nat.le_refl _) ?_; intro v215 w4 ho5 hb hg_ hnew_; clear hg_ hnew_; (first | rw [<- Ny214.out] at ho5 | (simp only [Int.reduceToNat] at ho5; rw [<- Ny214.out] at ho5)); have HO216 := Aside0.mk (Kd.R_lower ho5 (below_size (bz0 HB.out))); replace HB := Aside0.mk (below_step (bz0 HB.out) hb); clear hb ho5))
 (try simp only [Act.put, sz1, sz2, sz3])
 go_loopg [4] k (fun kq v4 w' => ∃ (x3_1 : List (S47)) (x4_1 : Int), v4 = .int .i64 x4_1 /\ Aside0 (laws_toTwoS.l0 kq l0 x3_1 x4_1 = some r) /\ Aside0 (kq <= k) /\ Aside0 (Kd.R k47 47 w' w.heap.size (fun _ => True) v215 x3_1) /\ Aside0 (Below w.heap.size w w'))
 case atStart => exact ⟨(y214), (0), ez, H', ⟨Nat.le_refl _⟩, ⟨by refine rq ?_; exact HO216.out⟩, ⟨(bz0 HB.out)⟩⟩
 case round =>
  clear H'
  try clear c2
  try clear c2b0
  try clear c2b1
  try clear p2
  try clear c3
  try clear c3b0
  try clear c3b1
  obtain ⟨x3_1, x4_1, rfl, HA, HK1, HO_3, HB⟩ := hrel
  cases gk with
  | zero => exact absurd HA.out (by simp [laws_toTwoS.l0])
  | succ k1 =>
   have H := HA.out
   clear HA
   simp only [laws_toTwoS.l0] at H
   by_cases c6 : x4_1 < (l0.length : Int)
   ·rw [if_pos c6] at H
    have c6b0 := decide_eq_true c6
    clear c6
    replace H := iz H
    obtain ⟨c7, H⟩ := H
    have c7b0 := decide_eq_true c7
    clear c7
    replace H := bi H
    obtain ⟨⟨t218, t219, t220, t221⟩, A80, H⟩ := H
    try dsimp only at H
    have A8 := Aside0.mk A80
    clear A80
    replace H := iz H
    obtain ⟨c9, H⟩ := H
    have c9b0 := decide_eq_true c9
    clear c9
    obtain ⟨y222, hy222⟩ : ∃ y_ : List (S47), y_ = (x3_1.set (x4_1 : Int).toNat (⟨(⟨t218, t219⟩ : S35), (⟨t220, t221⟩ : S35)⟩ : S47)) := ⟨_, rfl⟩
    replace H : (laws_toTwoS.l0 k1 l0 y222 (wrap64 (x4_1 + 1))) = some r := yz hy222 H
    have Ny222 := Aside0.mk hy222
    clear hy222
    have H' := Aside0.mk H
    clear H
    have p217 : 0 <= (x4_1 : Int) := oz
    have q217 : x4_1 < (l0.length : Int) := oz
    obtain ⟨ad217, e217, hx217_0, hx217_1, hx217_2, hx217_3⟩ := at_T135 (Kd.C_below HR0.out HB.out) x4_1 p217 q217
    cases e217
    replace p217 := eq_true p217
    replace q217 := eq_true q217
    go_wp2_with (first | ((with_reducible refine gate_callee (f := 88) rfl ?_); refine goesL_ (some 20) rfl rfl Tryd.func88 (by kernel_rfl) rfl #[.agg #[.int .i64 ((rd_T135 l0 x4_1).f0.f0), .int .i64 ((rd_T135 l0 x4_1).f0.f1), .int .i64 ((rd_T135 l0 x4_1).f1.f0), .int .i64 ((rd_T135 l0 x4_1).f1.f1)]] rfl lz ?_; (with_reducible refine (laws_toTwo.calls ((rd_T135 l0 x4_1).f0.f0) ((rd_T135 l0 x4_1).f0.f1) ((rd_T135 l0 x4_1).f1.f0) ((rd_T135 l0 x4_1).f1.f1) t218 t219 t220 t221 _ A8.out).mono ?_); rintro e w11 ⟨rfl, hb⟩; refine ⟨_, rfl, ?_⟩; replace HO_3 := qz HO_3 hb; replace HB := Aside0.mk (below_step (bz0 HB.out) hb); (try clear hb); (try clear hk); have p10 : 0 <= (x4_1 : Int) := oz; have q10 : (x4_1 : Int) < ((x3_1.length : Int) : Int) := oz; obtain ⟨go10, co10, eo10, gb10, gl10, cl10, HG10⟩ := Kd.R_form HO_3.out (by omega); (first | cases eo10 | (injection eo10 with ea_ en_ ec_; (first | subst ea_ | (injection ea_ with ea_; subst ea_)); subst ec_; clear en_)); have GB10 := Aside0.mk gb10; have GG10 := Aside0.mk HG10; clear gb10 gl10 HG10; obtain ⟨ce10, hcl10, hM10, hcc10, hfr10⟩ := Kd.R_elem HO_3.out z47 (x4_1 : Int) p10 q10; obtain rfl := k47_openM hM10; have hx10_0 : w11.cell? ⟨go10, (x4_1 : Int).toNat * 4, none⟩ = some (.int .i64 ((rd_T47 x3_1 x4_1).f0.f0)) := hcc10 0 _ rfl; have hx10_1 : w11.cell? ⟨go10, (x4_1 : Int).toNat * 4 + 1, none⟩ = some (.int .i64 ((rd_T47 x3_1 x4_1).f0.f1)) := hcc10 1 _ rfl; have hx10_2 : w11.cell? ⟨go10, (x4_1 : Int).toNat * 4 + 2, none⟩ = some (.int .i64 ((rd_T47 x3_1 x4_1).f1.f0)) := hcc10 2 _ rfl; have hx10_3 : w11.cell? ⟨go10, (x4_1 : Int).toNat * 4 + 3, none⟩ = some (.int .i64 ((rd_T47 x3_1 x4_1).f1.f1)) := hcc10 3 _ rfl; have hf10_0 : w11.frozen? ⟨go10, (x4_1 : Int).toNat * 4, none⟩ = false := hfr10 0; have hf10_1 : w11.frozen? ⟨go10, (x4_1 : Int).toNat * 4 + 1, none⟩ = false := hfr10 1; have hf10_2 : w11.frozen? ⟨go10, (x4_1 : Int).toNat * 4 + 2, none⟩ = false := hfr10 2; have hf10_3 : w11.frozen? ⟨go10, (x4_1 : Int).toNat * 4 + 3, none⟩ = false := hfr10 3; clear hcl10 hcc10 hfr10 hM10; replace p10 := eq_true p10; replace q10 := eq_true q10; have HX12 := Aside0.mk (show Kd.R k47 47 w11 w.heap.size (fun _ => True) (.slice (some ⟨go10, 0, none⟩) x3_1.length co10) x3_1 from (rz HO_3.out)); obtain ⟨ce12, hcl12, hM12, hcc12, hfr12⟩ := Kd.R_elem HX12.out z47 (x4_1 : Int) (of_decide_eq_true az) (by have h_ : (x4_1 : Int) < ((x3_1.length : Int) : Int) := oz; first | exact h_ | (have e_ := (Kd.R_reads' HO_3.out).1; omega) | simpa using h_); obtain rfl := k47_openM hM12; have HP12 := Kd.R_seg HX12.out (x4_1 : Int) (of_decide_eq_true az) (by have h_ : (x4_1 : Int) < ((x3_1.length : Int) : Int) := oz; first | exact h_ | (have e_ := (Kd.R_reads' HO_3.out).1; omega) | simpa using h_) (seg := [.int .i64 t218, .int .i64 t219, .int .i64 t220, .int .i64 t221]) (j := 0) hcl12 hcc12 (show 4 <= 4 from by decide) (x' := (⟨(⟨t218, t219⟩ : S35), (⟨t220, t221⟩ : S35)⟩ : S47)) (k47_mkM _ _ _ (⟨(⟨t218, t219⟩ : S35), (⟨t220, t221⟩ : S35)⟩ : S47) ) (fun _ hk => hk); have hx12_0 := hcc12 0 _ rfl; (try simp only [show (k47).sz = 4 from rfl, Nat.mul_one, Nat.add_zero] at hx12_0); have hf12_0 := hfr12 0; (try simp only [show (k47).sz = 4 from rfl, Nat.mul_one, Nat.add_zero] at hf12_0); have hx12_1 := hcc12 1 _ rfl; (try simp only [show (k47).sz = 4 from rfl, Nat.mul_one, Nat.add_zero] at hx12_1); have hf12_1 := hfr12 1; (try simp only [show (k47).sz = 4 from rfl, Nat.mul_one, Nat.add_zero] at hf12_1); have hx12_2 := hcc12 2 _ rfl; (try simp only [show (k47).sz = 4 from rfl, Nat.mul_one, Nat.add_zero] at hx12_2); have hf12_2 := hfr12 2; (try simp only [show (k47).sz = 4 from rfl, Nat.mul_one, Nat.add_zero] at hf12_2); have hx12_3 := hcc12 3 _ rfl; (try simp only [show (k47).sz = 4 from rfl, Nat.mul_one, Nat.add_zero] at hx12_3); have hf12_3 := hfr12 3; (try simp only [show (k47).sz = 4 from rfl, Nat.mul_one, Nat.add_zero] at hf12_3); clear hcl12 hcc12 hfr12 hM12) | ((with_reducible refine gate_store (t := 47) (p := 21) rfl ?_); refine store_event (t := 47) (p := 21) (v := ?vo_w13) (w1 := ((((w11.setCell ⟨go10, (x4_1 : Int).toNat * 4, none⟩ (.int .i64 t218)).setCell ⟨go10, (x4_1 : Int).toNat * 4 + 1, none⟩ (.int .i64 t219)).setCell ⟨go10, (x4_1 : Int).toNat * 4 + 2, none⟩ (.int .i64 t220)).setCell ⟨go10, (x4_1 : Int).toNat * 4 + 3, none⟩ (.int .i64 t221))) ?hg ?ho ?hn ?hr ?_; (case ho => rfl); (case hg => rfl); (case hn => rfl); (case hr => exact vz); intro w13 hw; have hg : w11.grownBy w13 (some go10) := (by rw [hw]; exact HP12.2); have hp_ : Kd.R k47 47 w13 w.heap.size (fun _ => True) (.slice (some ⟨go10, 0, none⟩) x3_1.length co10) y222 := (by rw [hw, Ny222.out]; exact HP12.1); clear HP12; replace HO_3 := Aside0.mk (hp_); replace HB := Aside0.mk ((by rw [hw]; exact below_set (below_set (below_set (below_set (HB.out) GB10.out) GB10.out) GB10.out) GB10.out : Below w.heap.size w w13)); clear hg hw hp_))
    go_roundg k1
    case measure => have := HK1.out; omega
    case rel => exact ⟨(y222), (wrap64 (x4_1 + 1)), ez, H', ⟨by have := HK1.out; omega⟩, ⟨by refine rq ?_; exact HO_3.out⟩, ⟨(bz0 HB.out)⟩⟩
   ·rw [if_neg c6] at H
    have c6b0 := decide_eq_false c6
    clear c6
    obtain rfl := Option.some.inj H
    go_wp2
    go_ret
    exact ⟨_, gz, by refine rq ?_; exact HO_3.out, (bz0 HB.out)⟩
def laws_toValS.l0 : Nat -> List (S71) -> List (S35) -> Int -> Option ((List (S35)))
 | 0, _, _, _ => none
 | k + 1, x0, x3, x4 => if x4 < (x0.length : Int) then (if 0 <= x4 then ((laws_toVal.f ((rd_T71 x0 x4).f0) ((rd_T71 x0 x4).f1)).bind fun bt227 => (if x4 < (x3.length : Int) then (laws_toValS.l0 k x0 (x3.set (x4 : Int).toNat (⟨bt227.1, bt227.2⟩ : S35)) (wrap64 (x4 + 1))) else (none))) else (none)) else (some x3)
def laws_toValS.f (k : Nat) (l0 : List (S71)) : Option ((List (S35))) := if 0 <= (l0.length : Int) then (if ((l0.length : Int) : Int).toNat <= 17592186044416 then (laws_toValS.l0 k l0 (List.replicate ((l0.length : Int) : Int).toNat z35) 0) else (none)) else (none)
theorem laws_toValS.mono_l : ∀ k, (∀ y0 y1 y2, LeO (laws_toValS.l0 k y0 y1 y2) (laws_toValS.l0 (k + 1) y0 y1 y2))
 | 0 => fun _ _ _ r h => by simp [laws_toValS.l0] at h
 | k + 1 => by
  have ih0 := laws_toValS.mono_l k
  ·intro y0 y1 y2
   unfold laws_toValS.l0
   with_reducible repeat' first | exact ih0 _ _ _ | exact lrz _ | exact lnz _ | refine liz ?_ ?_ | refine lbz ?_ fun _ => ?_
theorem laws_toValS.mono : ∀ a0 k, LeO (laws_toValS.f k a0) (laws_toValS.f (k + 1) a0) := by
 intro a0 k
 have ih0 := laws_toValS.mono_l k
 unfold laws_toValS.f
 with_reducible repeat' first | exact ih0 _ _ _ | exact lrz _ | exact lnz _ | refine liz ?_ ?_ | refine lbz ?_ fun _ => ?_
set_option maxHeartbeats 8000000 in
set_option maxRecDepth 100000 in
theorem laws_toValS.calls (k : Nat) (A0 : Option Addr) (c0 : Nat) (l0 : List (S71)) (r : List (S35)) (w : World) (hr0 : Kd.C k71 w A0 l0.length l0) (hc0 : l0.length <= c0) (h : laws_toValS.f k l0 = some r) :
  Calls Tryd.prog 70 #[.slice A0 l0.length c0] w fun e w' => ∃ v0_ : Value, e = .returned (v0_) /\ Kd.R k35 35 w' w.heap.size (fun _ => True) v0_ r /\ Below w.heap.size w w' := by
 have hu71 := Tryd.underlying71
 have hu35 := Tryd.underlying35
 have HR0 := Aside0.mk hr0
 have HC0 := Aside0.mk hc0
 clear hr0 hc0
 have HB := Aside0.mk (Below.refl w.heap.size w)
 have H : (if 0 <= (l0.length : Int) then (if ((l0.length : Int) : Int).toNat <= 17592186044416 then (laws_toValS.l0 k l0 (List.replicate ((l0.length : Int) : Int).toNat z35) 0) else (none)) else (none)) = some r := h
 clear h
 replace H := iz H
 obtain ⟨c2, H⟩ := H
 have c2b0 := eq_true c2
 have c2b1 : decide (0 <= (l0.length : Int)) = true := decide_eq_true c2
 clear c2
 replace H := iz H
 obtain ⟨c3, H⟩ := H
 have c3b0 := eq_true c3
 have c3b1 : decide (((l0.length : Int) : Int).toNat <= 17592186044416) = true := decide_eq_true c3
 clear c3
 obtain ⟨y223, hy223⟩ : ∃ y_ : List (S35), y_ = (List.replicate ((l0.length : Int) : Int).toNat z35) := ⟨_, rfl⟩
 replace H : (laws_toValS.l0 k l0 y223 0) = some r := yz hy223 H
 have Ny223 := Aside0.mk hy223
 clear hy223
 have H' := Aside0.mk H
 clear H
 go_enter Tryd.func70, Tryd.ntmps70
 go_wp2_with (first | ((with_reducible refine gate_dst (N := 7) rfl ?_); refine Kd.R_make k35 _ 35 rfl (N := 7) rfl 27 _ _ rfl (l0.length : Int) rfl rfl Tryd.underlying27 (.agg #[(.int .i64 0), (.int .i64 0)]) 16 info35 rfl (by decide) (by omega) z35 (ok := fun _ => True) (okp := fun _ => True) (k35_mkM _ _ _ z35 ) (fun _ hk => hk) trivial (of_decide_eq_true az) (Nat.le_trans (Nat.mul_le_mul_right _ (of_decide_eq_true az : (l0.length : Int).toNat <= 17592186044416)) (by omega)) (Below.refl _ _) (Nat.le_refl _) ?_; intro v224 w4 ho5 hb hg_ hnew_; clear hg_ hnew_; (first | rw [<- Ny223.out] at ho5 | (simp only [Int.reduceToNat] at ho5; rw [<- Ny223.out] at ho5)); have HO225 := Aside0.mk (Kd.R_lower ho5 (below_size (bz0 HB.out))); replace HB := Aside0.mk (below_step (bz0 HB.out) hb); clear hb ho5))
 (try simp only [Act.put, sz1, sz2, sz3])
 go_loopg [4] k (fun kq v4 w' => ∃ (x3_1 : List (S35)) (x4_1 : Int), v4 = .int .i64 x4_1 /\ Aside0 (laws_toValS.l0 kq l0 x3_1 x4_1 = some r) /\ Aside0 (kq <= k) /\ Aside0 (Kd.R k35 35 w' w.heap.size (fun _ => True) v224 x3_1) /\ Aside0 (Below w.heap.size w w'))
 case atStart => exact ⟨(y223), (0), ez, H', ⟨Nat.le_refl _⟩, ⟨by refine rq ?_; exact HO225.out⟩, ⟨(bz0 HB.out)⟩⟩
 case round =>
  clear H'
  try clear c2
  try clear c2b0
  try clear c2b1
  try clear p2
  try clear c3
  try clear c3b0
  try clear c3b1
  obtain ⟨x3_1, x4_1, rfl, HA, HK1, HO_3, HB⟩ := hrel
  cases gk with
  | zero => exact absurd HA.out (by simp [laws_toValS.l0])
  | succ k1 =>
   have H := HA.out
   clear HA
   simp only [laws_toValS.l0] at H
   by_cases c6 : x4_1 < (l0.length : Int)
   ·rw [if_pos c6] at H
    have c6b0 := decide_eq_true c6
    clear c6
    replace H := iz H
    obtain ⟨c7, H⟩ := H
    have c7b0 := decide_eq_true c7
    clear c7
    replace H := bi H
    obtain ⟨⟨t227, t228⟩, A80, H⟩ := H
    try dsimp only at H
    have A8 := Aside0.mk A80
    clear A80
    replace H := iz H
    obtain ⟨c9, H⟩ := H
    have c9b0 := decide_eq_true c9
    clear c9
    obtain ⟨y229, hy229⟩ : ∃ y_ : List (S35), y_ = (x3_1.set (x4_1 : Int).toNat (⟨t227, t228⟩ : S35)) := ⟨_, rfl⟩
    replace H : (laws_toValS.l0 k1 l0 y229 (wrap64 (x4_1 + 1))) = some r := yz hy229 H
    have Ny229 := Aside0.mk hy229
    clear hy229
    have H' := Aside0.mk H
    clear H
    have p226 : 0 <= (x4_1 : Int) := oz
    have q226 : x4_1 < (l0.length : Int) := oz
    obtain ⟨ad226, e226, hx226_0, hx226_1⟩ := at_T71 (Kd.C_below HR0.out HB.out) x4_1 p226 q226
    cases e226
    replace p226 := eq_true p226
    replace q226 := eq_true q226
    go_wp2_with (first | ((with_reducible refine gate_callee (f := 34) rfl ?_); refine goesL_ (some 20) rfl rfl Tryd.func34 (by kernel_rfl) rfl #[.agg #[.int .i64 ((rd_T71 l0 x4_1).f0), .int .i64 ((rd_T71 l0 x4_1).f1)]] rfl lz ?_; (with_reducible refine (laws_toVal.calls ((rd_T71 l0 x4_1).f0) ((rd_T71 l0 x4_1).f1) t227 t228 _ A8.out).mono ?_); rintro e w11 ⟨rfl, hb⟩; refine ⟨_, rfl, ?_⟩; replace HO_3 := qz HO_3 hb; replace HB := Aside0.mk (below_step (bz0 HB.out) hb); (try clear hb); (try clear hk); have p10 : 0 <= (x4_1 : Int) := oz; have q10 : (x4_1 : Int) < ((x3_1.length : Int) : Int) := oz; obtain ⟨go10, co10, eo10, gb10, gl10, cl10, HG10⟩ := Kd.R_form HO_3.out (by omega); (first | cases eo10 | (injection eo10 with ea_ en_ ec_; (first | subst ea_ | (injection ea_ with ea_; subst ea_)); subst ec_; clear en_)); have GB10 := Aside0.mk gb10; have GG10 := Aside0.mk HG10; clear gb10 gl10 HG10; obtain ⟨ce10, hcl10, hM10, hcc10, hfr10⟩ := Kd.R_elem HO_3.out z35 (x4_1 : Int) p10 q10; obtain rfl := k35_openM hM10; have hx10_0 : w11.cell? ⟨go10, (x4_1 : Int).toNat * 2, none⟩ = some (.int .i64 ((rd_T35 x3_1 x4_1).f0)) := hcc10 0 _ rfl; have hx10_1 : w11.cell? ⟨go10, (x4_1 : Int).toNat * 2 + 1, none⟩ = some (.int .i64 ((rd_T35 x3_1 x4_1).f1)) := hcc10 1 _ rfl; have hf10_0 : w11.frozen? ⟨go10, (x4_1 : Int).toNat * 2, none⟩ = false := hfr10 0; have hf10_1 : w11.frozen? ⟨go10, (x4_1 : Int).toNat * 2 + 1, none⟩ = false := hfr10 1; clear hcl10 hcc10 hfr10 hM10; replace p10 := eq_true p10; replace q10 := eq_true q10; have HX12 := Aside0.mk (show Kd.R k35 35 w11 w.heap.size (fun _ => True) (.slice (some ⟨go10, 0, none⟩) x3_1.length co10) x3_1 from (rz HO_3.out)); obtain ⟨ce12, hcl12, hM12, hcc12, hfr12⟩ := Kd.R_elem HX12.out z35 (x4_1 : Int) (of_decide_eq_true az) (by have h_ : (x4_1 : Int) < ((x3_1.length : Int) : Int) := oz; first | exact h_ | (have e_ := (Kd.R_reads' HO_3.out).1; omega) | simpa using h_); obtain rfl := k35_openM hM12; have HP12 := Kd.R_seg HX12.out (x4_1 : Int) (of_decide_eq_true az) (by have h_ : (x4_1 : Int) < ((x3_1.length : Int) : Int) := oz; first | exact h_ | (have e_ := (Kd.R_reads' HO_3.out).1; omega) | simpa using h_) (seg := [.int .i64 t227, .int .i64 t228]) (j := 0) hcl12 hcc12 (show 2 <= 2 from by decide) (x' := (⟨t227, t228⟩ : S35)) (k35_mkM _ _ _ (⟨t227, t228⟩ : S35) ) (fun _ hk => hk); have hx12_0 := hcc12 0 _ rfl; (try simp only [show (k35).sz = 2 from rfl, Nat.mul_one, Nat.add_zero] at hx12_0); have hf12_0 := hfr12 0; (try simp only [show (k35).sz = 2 from rfl, Nat.mul_one, Nat.add_zero] at hf12_0); have hx12_1 := hcc12 1 _ rfl; (try simp only [show (k35).sz = 2 from rfl, Nat.mul_one, Nat.add_zero] at hx12_1); have hf12_1 := hfr12 1; (try simp only [show (k35).sz = 2 from rfl, Nat.mul_one, Nat.add_zero] at hf12_1); clear hcl12 hcc12 hfr12 hM12) | ((with_reducible refine gate_store (t := 35) (p := 21) rfl ?_); refine store_event (t := 35) (p := 21) (v := ?vo_w13) (w1 := ((w11.setCell ⟨go10, (x4_1 : Int).toNat * 2, none⟩ (.int .i64 t227)).setCell ⟨go10, (x4_1 : Int).toNat * 2 + 1, none⟩ (.int .i64 t228))) ?hg ?ho ?hn ?hr ?_; (case ho => rfl); (case hg => rfl); (case hn => rfl); (case hr => exact vz); intro w13 hw; have hg : w11.grownBy w13 (some go10) := (by rw [hw]; exact HP12.2); have hp_ : Kd.R k35 35 w13 w.heap.size (fun _ => True) (.slice (some ⟨go10, 0, none⟩) x3_1.length co10) y229 := (by rw [hw, Ny229.out]; exact HP12.1); clear HP12; replace HO_3 := Aside0.mk (hp_); replace HB := Aside0.mk ((by rw [hw]; exact below_set (below_set (HB.out) GB10.out) GB10.out : Below w.heap.size w w13)); clear hg hw hp_))
    go_roundg k1
    case measure => have := HK1.out; omega
    case rel => exact ⟨(y229), (wrap64 (x4_1 + 1)), ez, H', ⟨by have := HK1.out; omega⟩, ⟨by refine rq ?_; exact HO_3.out⟩, ⟨(bz0 HB.out)⟩⟩
   ·rw [if_neg c6] at H
    have c6b0 := decide_eq_false c6
    clear c6
    obtain rfl := Option.some.inj H
    go_wp2
    go_ret
    exact ⟨_, gz, by refine rq ?_; exact HO_3.out, (bz0 HB.out)⟩
def laws_toHeap.f (k : Nat) (l0_0 : List (S130)) (l0_1 : List (S132)) (l0_2 : List (S135)) (l0_3 : List (S71)) : Option ((List (S41)) × (List (S86)) × (List (S47)) × (List (S35))) := (laws_toEnvCellS.f k l0_0).bind fun t233 => ((laws_toCloS.f k l0_1).bind fun t236 => ((laws_toTwoS.f k l0_2).bind fun t239 => ((laws_toValS.f k l0_3).bind fun t242 => (some (t233, t236, t239, t242)))))
theorem laws_toHeap.mono : ∀ a0 a1 a2 a3 k, LeO (laws_toHeap.f k a0 a1 a2 a3) (laws_toHeap.f (k + 1) a0 a1 a2 a3) := by
 intro a0 a1 a2 a3 k
 unfold laws_toHeap.f
 with_reducible repeat' first | exact laws_toCloS.mono _ _ | exact laws_toEnvCellS.mono _ _ | exact laws_toTwoS.mono _ _ | exact laws_toValS.mono _ _ | exact lrz _ | exact lnz _ | refine liz ?_ ?_ | refine lbz ?_ fun _ => ?_
set_option maxHeartbeats 8000000 in
set_option maxRecDepth 100000 in
theorem laws_toHeap.calls (k : Nat) (A0_0 : Option Addr) (c0_0 : Nat) (l0_0 : List (S130)) (A0_1 : Option Addr) (c0_1 : Nat) (l0_1 : List (S132)) (A0_2 : Option Addr) (c0_2 : Nat) (l0_2 : List (S135)) (A0_3 : Option Addr) (c0_3 : Nat) (l0_3 : List (S71)) (r1 : List (S41)) (r2 : List (S86)) (r3 : List (S47)) (r4 : List (S35)) (w : World) (hr0_0 : Kd.C k130 w A0_0 l0_0.length l0_0) (hc0_0 : l0_0.length <= c0_0) (hr0_1 : Kd.C k132 w A0_1 l0_1.length l0_1) (hc0_1 : l0_1.length <= c0_1) (hr0_2 : Kd.C k135 w A0_2 l0_2.length l0_2) (hc0_2 : l0_2.length <= c0_2) (hr0_3 : Kd.C k71 w A0_3 l0_3.length l0_3) (hc0_3 : l0_3.length <= c0_3) (h : laws_toHeap.f k l0_0 l0_1 l0_2 l0_3 = some (r1, r2, r3, r4)) :
  Calls Tryd.prog 33 #[.agg #[.slice A0_0 l0_0.length c0_0, .slice A0_1 l0_1.length c0_1, .slice A0_2 l0_2.length c0_2, .slice A0_3 l0_3.length c0_3]] w fun e w' => ∃ v0_ v1_ v2_ v3_ : Value, e = .returned (.agg #[v0_, v1_, v2_, v3_]) /\ Kd.R k41 41 w' w.heap.size (fun _ => True) v0_ r1 /\ Kd.R k86 86 w' w.heap.size (fun _ => True) v1_ r2 /\ Kd.R k47 47 w' w.heap.size (fun _ => True) v2_ r3 /\ Kd.R k35 35 w' w.heap.size (fun _ => True) v3_ r4 /\ Below w.heap.size w w' := by
 have hu70 := Tryd.underlying70
 have hu29 := Tryd.underlying29
 have HR0_0 := Aside0.mk hr0_0
 have HC0_0 := Aside0.mk hc0_0
 clear hr0_0 hc0_0
 have HR0_1 := Aside0.mk hr0_1
 have HC0_1 := Aside0.mk hc0_1
 clear hr0_1 hc0_1
 have HR0_2 := Aside0.mk hr0_2
 have HC0_2 := Aside0.mk hc0_2
 clear hr0_2 hc0_2
 have HR0_3 := Aside0.mk hr0_3
 have HC0_3 := Aside0.mk hc0_3
 clear hr0_3 hc0_3
 have HB := Aside0.mk (Below.refl w.heap.size w)
 have H : ((laws_toEnvCellS.f k l0_0).bind fun t233 => ((laws_toCloS.f k l0_1).bind fun t236 => ((laws_toTwoS.f k l0_2).bind fun t239 => ((laws_toValS.f k l0_3).bind fun t242 => (some (t233, t236, t239, t242)))))) = some (r1, r2, r3, r4) := h
 clear h
 replace H := bi H
 obtain ⟨t233, A20, H⟩ := H
 try dsimp only at H
 have A2 := Aside0.mk A20
 clear A20
 replace H := bi H
 obtain ⟨t236, A30, H⟩ := H
 try dsimp only at H
 have A3 := Aside0.mk A30
 clear A30
 replace H := bi H
 obtain ⟨t239, A40, H⟩ := H
 try dsimp only at H
 have A4 := Aside0.mk A40
 clear A40
 replace H := bi H
 obtain ⟨t242, A50, H⟩ := H
 try dsimp only at H
 have A5 := Aside0.mk A50
 clear A50
 simp only [Option.some.injEq, Prod.mk.injEq] at H
 obtain ⟨rfl, rfl, rfl, rfl⟩ := H
 go_enter Tryd.func33, Tryd.ntmps33
 go_wp2_with (first | ((with_reducible refine gate_dst (N := 1) rfl ?_); refine box_event ?hg (N := 1) ?hd (cs := #[.slice A0_0 l0_0.length c0_0, .slice A0_1 l0_1.length c0_1, .slice A0_2 l0_2.length c0_2, .slice A0_3 l0_3.length c0_3]) (t := 70) ?hr ?_; (case hd => rfl); (case hg => rfl); (case hr => exact vz); intro gb230 hg w6 hbox hb; have BK230 := Aside0.mk (hbox); have GW230 := Aside0.mk ((by rw [hg]; exact (below_size (bz0 HB.out)) : w.heap.size <= gb230)); have GE230 := Aside0.mk ((by rw [hg]; exact (below_size (bz0 HB.out)) : w.heap.size <= gb230)); replace HB := Aside0.mk (below_step (bz0 HB.out) hb); clear hb hbox hg) | ((with_reducible refine gate_dst (N := 2) rfl ?_); refine box_event ?hg (N := 2) ?hd (cs := #[.slice none 0 0, .slice none 0 0, .slice none 0 0, .slice none 0 0]) (t := 29) ?hr ?_; (case hd => rfl); (case hg => rfl); (case hr => exact vz); intro gb231 hg w7 hbox hb; have BK231 := Aside0.mk (hbox); have GW231 := Aside0.mk ((by rw [hg]; exact (below_size (bz1 HB.out GE230.out)) : w.heap.size <= gb231)); have GE231 := Aside0.mk ((by rw [hg]; exact (below_size (bz1 HB.out GE230.out)) : w.heap.size <= gb231)); replace HB := Aside0.mk (below_step (bz1 HB.out GE230.out) hb); have NB230_231 := Aside0.mk ((by rw [hg]; exact Nat.ne_of_lt (blk_lt (g := gb230) (o := .cells #[.slice A0_0 l0_0.length c0_0, .slice A0_1 l0_1.length c0_1, .slice A0_2 l0_2.length c0_2, .slice A0_3 l0_3.length c0_3] 70 (0, 0)) (kz BK230.out)) : gb230 ≠ gb231)); have NB231_230 := Aside0.mk ((by rw [hg]; exact Nat.ne_of_gt (blk_lt (g := gb230) (o := .cells #[.slice A0_0 l0_0.length c0_0, .slice A0_1 l0_1.length c0_1, .slice A0_2 l0_2.length c0_2, .slice A0_3 l0_3.length c0_3] 70 (0, 0)) (kz BK230.out)) : gb231 ≠ gb230)); replace BK230 := Aside0.mk (blk_below (kz BK230.out) hb); clear hb hbox hg) | ((with_reducible refine gate_dst (N := 3) rfl ?_); refine box_event ?hg (N := 3) ?hd (cs := #[.slice none 0 0, .slice none 0 0, .slice none 0 0, .slice none 0 0]) (t := 29) ?hr ?_; (case hd => rfl); (case hg => rfl); (case hr => exact vz); intro gb232 hg w8 hbox hb; have BK232 := Aside0.mk (hbox); have GW232 := Aside0.mk ((by rw [hg]; exact (below_size (bz2 HB.out GE230.out GE231.out)) : w.heap.size <= gb232)); have GE232 := Aside0.mk ((by rw [hg]; exact (below_size (bz2 HB.out GE230.out GE231.out)) : w.heap.size <= gb232)); replace HB := Aside0.mk (below_step (bz2 HB.out GE230.out GE231.out) hb); have NB230_232 := Aside0.mk ((by rw [hg]; exact Nat.ne_of_lt (blk_lt (g := gb230) (o := .cells #[.slice A0_0 l0_0.length c0_0, .slice A0_1 l0_1.length c0_1, .slice A0_2 l0_2.length c0_2, .slice A0_3 l0_3.length c0_3] 70 (0, 0)) (kz BK230.out)) : gb230 ≠ gb232)); have NB232_230 := Aside0.mk ((by rw [hg]; exact Nat.ne_of_gt (blk_lt (g := gb230) (o := .cells #[.slice A0_0 l0_0.length c0_0, .slice A0_1 l0_1.length c0_1, .slice A0_2 l0_2.length c0_2, .slice A0_3 l0_3.length c0_3] 70 (0, 0)) (kz BK230.out)) : gb232 ≠ gb230)); replace BK230 := Aside0.mk (blk_below (kz BK230.out) hb); have NB231_232 := Aside0.mk ((by rw [hg]; exact Nat.ne_of_lt (blk_lt (g := gb231) (o := .cells #[.slice none 0 0, .slice none 0 0, .slice none 0 0, .slice none 0 0] 29 (0, 0)) (kz BK231.out)) : gb231 ≠ gb232)); have NB232_231 := Aside0.mk ((by rw [hg]; exact Nat.ne_of_gt (blk_lt (g := gb231) (o := .cells #[.slice none 0 0, .slice none 0 0, .slice none 0 0, .slice none 0 0] 29 (0, 0)) (kz BK231.out)) : gb232 ≠ gb231)); replace BK231 := Aside0.mk (blk_below (kz BK231.out) hb); clear hb hbox hg; have hnb9 := NB230_231.out; have hnc9 := NB231_230.out; have hnb10 := NB230_232.out; have hnc10 := NB232_230.out; obtain ⟨hcz11_0, hcz11_1, hcz11_2, hcz11_3⟩ := cz4 BK230.out; obtain ⟨hfz11_0, hfz11_1, hfz11_2, hfz11_3⟩ := fz4 BK230.out) | ((with_reducible refine gate_callee (f := 67) rfl ?_); refine goesL_ (some 6) rfl rfl Tryd.func67 (by kernel_rfl) rfl #[.slice A0_0 l0_0.length c0_0] rfl lz ?_; (with_reducible refine (laws_toEnvCellS.calls k _ _ l0_0 t233 _ ?side1 ?side2 A2.out).mono ?_); (case side1 => exact cz (Kd.C_below HR0_0.out HB.out)); (case side2 => exact HC0_0.out); rintro e w12 ⟨v234, rfl, ho0, hb⟩; refine ⟨_, rfl, ?_⟩; have HO235 := Aside0.mk (Kd.R_lower ho0 (below_size (bz3 HB.out GE230.out GE231.out GE232.out))); replace BK230 := Aside0.mk (blk_below (kz BK230.out) hb); replace BK231 := Aside0.mk (blk_below (kz BK231.out) hb); replace BK232 := Aside0.mk (blk_below (kz BK232.out) hb); replace HB := Aside0.mk (below_step (bz3 HB.out GE230.out GE231.out GE232.out) hb); (try clear hb); (try clear hk); (try clear ho0); obtain ⟨Ao13, co13, eo13⟩ := Kd.R_slice HO235.out; subst eo13; have hnb14 := NB232_231.out; have hnc14 := NB231_232.out; obtain ⟨hcz15_0, hcz15_1, hcz15_2, hcz15_3⟩ := cz4 BK232.out; obtain ⟨hfz15_0, hfz15_1, hfz15_2, hfz15_3⟩ := fz4 BK232.out; obtain ⟨hcz16_0, hcz16_1, hcz16_2, hcz16_3⟩ := cz4 BK230.out; obtain ⟨hfz16_0, hfz16_1, hfz16_2, hfz16_3⟩ := fz4 BK230.out) | ((with_reducible refine gate_callee (f := 68) rfl ?_); refine goesL_ (some 10) rfl rfl Tryd.func68 (by kernel_rfl) rfl #[.slice A0_1 l0_1.length c0_1] rfl lz ?_; (with_reducible refine (laws_toCloS.calls k _ _ l0_1 t236 _ ?side1 ?side2 A3.out).mono ?_); (case side1 => exact Kd.C_below HR0_1.out (bz3 HB.out GE230.out GE231.out GE232.out)); (case side2 => exact HC0_1.out); rintro e w17 ⟨v237, rfl, ho0, hb⟩; refine ⟨_, rfl, ?_⟩; replace HO235 := Aside0.mk (Kd.R_below (by refine rq ?_; exact (Kd.R_mono (Kd.R_far (p := ⟨gb232, 0, none⟩) (Kd.R_types HO235.out BK232.out (by decide)) (fun _ hk => hk.2) (.slice Ao13 t233.length co13)) (fun _ h_ => h_.1))) hb); have HO238 := Aside0.mk (Kd.R_lower ho0 (below_size (bz3 HB.out GE230.out GE231.out GE232.out))); replace BK230 := Aside0.mk (blk_below (g := gb230) (o := .cells #[.slice A0_0 l0_0.length c0_0, .slice A0_1 l0_1.length c0_1, .slice A0_2 l0_2.length c0_2, .slice A0_3 l0_3.length c0_3] 70 (0, 0)) (by refine kq ?_; refine blk_far ?_ NB230_232.out _; refine kq ?_; exact BK230.out) hb); replace BK231 := Aside0.mk (blk_below (g := gb231) (o := .cells #[.slice none 0 0, .slice none 0 0, .slice none 0 0, .slice none 0 0] 29 (0, 0)) (by refine kq ?_; refine blk_far ?_ NB231_232.out _; refine kq ?_; exact BK231.out) hb); replace BK232 := Aside0.mk (blk_below (g := gb232) (o := .cells #[.slice Ao13 t233.length co13, .slice none 0 0, .slice none 0 0, .slice none 0 0] 29 (0, 0)) (by refine kq ?_; refine blk_put (cs := #[.slice none 0 0, .slice none 0 0, .slice none 0 0, .slice none 0 0]) ?_ 0 _ rfl; refine kq ?_; exact BK232.out) hb); replace HB := Aside0.mk (below_step (bz3 HB.out GE230.out GE231.out GE232.out) hb); (try clear hb); (try clear hk); (try clear ho0); obtain ⟨Ao18, co18, eo18⟩ := Kd.R_slice HO238.out; subst eo18; obtain ⟨hcz19_0, hcz19_1, hcz19_2, hcz19_3⟩ := cz4 BK232.out; obtain ⟨hfz19_0, hfz19_1, hfz19_2, hfz19_3⟩ := fz4 BK232.out; obtain ⟨hcz20_0, hcz20_1, hcz20_2, hcz20_3⟩ := cz4 BK230.out; obtain ⟨hfz20_0, hfz20_1, hfz20_2, hfz20_3⟩ := fz4 BK230.out) | ((with_reducible refine gate_callee (f := 69) rfl ?_); refine goesL_ (some 14) rfl rfl Tryd.func69 (by kernel_rfl) rfl #[.slice A0_2 l0_2.length c0_2] rfl lz ?_; (with_reducible refine (laws_toTwoS.calls k _ _ l0_2 t239 _ ?side1 ?side2 A4.out).mono ?_); (case side1 => exact Kd.C_below HR0_2.out (bz3 HB.out GE230.out GE231.out GE232.out)); (case side2 => exact HC0_2.out); rintro e w21 ⟨v240, rfl, ho0, hb⟩; refine ⟨_, rfl, ?_⟩; replace HO235 := Aside0.mk (Kd.R_below (by refine rq ?_; exact (Kd.R_mono (Kd.R_far (p := ⟨gb232, 1, none⟩) (Kd.R_types HO235.out BK232.out (by decide)) (fun _ hk => hk.2) (.slice Ao18 t236.length co18)) (fun _ h_ => h_.1))) hb); replace HO238 := Aside0.mk (Kd.R_below (by refine rq ?_; exact (Kd.R_mono (Kd.R_far (p := ⟨gb232, 1, none⟩) (Kd.R_types HO238.out BK232.out (by decide)) (fun _ hk => hk.2) (.slice Ao18 t236.length co18)) (fun _ h_ => h_.1))) hb); have HO241 := Aside0.mk (Kd.R_lower ho0 (below_size (bz3 HB.out GE230.out GE231.out GE232.out))); replace BK230 := Aside0.mk (blk_below (g := gb230) (o := .cells #[.slice A0_0 l0_0.length c0_0, .slice A0_1 l0_1.length c0_1, .slice A0_2 l0_2.length c0_2, .slice A0_3 l0_3.length c0_3] 70 (0, 0)) (by refine kq ?_; refine blk_far ?_ NB230_232.out _; refine kq ?_; exact BK230.out) hb); replace BK231 := Aside0.mk (blk_below (g := gb231) (o := .cells #[.slice none 0 0, .slice none 0 0, .slice none 0 0, .slice none 0 0] 29 (0, 0)) (by refine kq ?_; refine blk_far ?_ NB231_232.out _; refine kq ?_; exact BK231.out) hb); replace BK232 := Aside0.mk (blk_below (g := gb232) (o := .cells #[.slice Ao13 t233.length co13, .slice Ao18 t236.length co18, .slice none 0 0, .slice none 0 0] 29 (0, 0)) (by refine kq ?_; refine blk_put (cs := #[.slice Ao13 t233.length co13, .slice none 0 0, .slice none 0 0, .slice none 0 0]) ?_ 1 _ rfl; refine kq ?_; exact BK232.out) hb); replace HB := Aside0.mk (below_step (bz3 HB.out GE230.out GE231.out GE232.out) hb); (try clear hb); (try clear hk); (try clear ho0); obtain ⟨Ao22, co22, eo22⟩ := Kd.R_slice HO241.out; subst eo22; obtain ⟨hcz23_0, hcz23_1, hcz23_2, hcz23_3⟩ := cz4 BK232.out; obtain ⟨hfz23_0, hfz23_1, hfz23_2, hfz23_3⟩ := fz4 BK232.out; obtain ⟨hcz24_0, hcz24_1, hcz24_2, hcz24_3⟩ := cz4 BK230.out; obtain ⟨hfz24_0, hfz24_1, hfz24_2, hfz24_3⟩ := fz4 BK230.out) | ((with_reducible refine gate_callee (f := 70) rfl ?_); refine goesL_ (some 18) rfl rfl Tryd.func70 (by kernel_rfl) rfl #[.slice A0_3 l0_3.length c0_3] rfl lz ?_; (with_reducible refine (laws_toValS.calls k _ _ l0_3 t242 _ ?side1 ?side2 A5.out).mono ?_); (case side1 => exact Kd.C_below HR0_3.out (bz3 HB.out GE230.out GE231.out GE232.out)); (case side2 => exact HC0_3.out); rintro e w25 ⟨v243, rfl, ho0, hb⟩; refine ⟨_, rfl, ?_⟩; replace HO235 := Aside0.mk (Kd.R_below (by refine rq ?_; exact (Kd.R_mono (Kd.R_far (p := ⟨gb232, 2, none⟩) (Kd.R_types HO235.out BK232.out (by decide)) (fun _ hk => hk.2) (.slice Ao22 t239.length co22)) (fun _ h_ => h_.1))) hb); replace HO238 := Aside0.mk (Kd.R_below (by refine rq ?_; exact (Kd.R_mono (Kd.R_far (p := ⟨gb232, 2, none⟩) (Kd.R_types HO238.out BK232.out (by decide)) (fun _ hk => hk.2) (.slice Ao22 t239.length co22)) (fun _ h_ => h_.1))) hb); replace HO241 := Aside0.mk (Kd.R_below (by refine rq ?_; exact (Kd.R_mono (Kd.R_far (p := ⟨gb232, 2, none⟩) (Kd.R_types HO241.out BK232.out (by decide)) (fun _ hk => hk.2) (.slice Ao22 t239.length co22)) (fun _ h_ => h_.1))) hb); have HO244 := Aside0.mk (Kd.R_lower ho0 (below_size (bz3 HB.out GE230.out GE231.out GE232.out))); replace BK230 := Aside0.mk (blk_below (g := gb230) (o := .cells #[.slice A0_0 l0_0.length c0_0, .slice A0_1 l0_1.length c0_1, .slice A0_2 l0_2.length c0_2, .slice A0_3 l0_3.length c0_3] 70 (0, 0)) (by refine kq ?_; refine blk_far ?_ NB230_232.out _; refine kq ?_; exact BK230.out) hb); replace BK231 := Aside0.mk (blk_below (g := gb231) (o := .cells #[.slice none 0 0, .slice none 0 0, .slice none 0 0, .slice none 0 0] 29 (0, 0)) (by refine kq ?_; refine blk_far ?_ NB231_232.out _; refine kq ?_; exact BK231.out) hb); replace BK232 := Aside0.mk (blk_below (g := gb232) (o := .cells #[.slice Ao13 t233.length co13, .slice Ao18 t236.length co18, .slice Ao22 t239.length co22, .slice none 0 0] 29 (0, 0)) (by refine kq ?_; refine blk_put (cs := #[.slice Ao13 t233.length co13, .slice Ao18 t236.length co18, .slice none 0 0, .slice none 0 0]) ?_ 2 _ rfl; refine kq ?_; exact BK232.out) hb); replace HB := Aside0.mk (below_step (bz3 HB.out GE230.out GE231.out GE232.out) hb); (try clear hb); (try clear hk); (try clear ho0); obtain ⟨Ao26, co26, eo26⟩ := Kd.R_slice HO244.out; subst eo26; obtain ⟨hcz27_0, hcz27_1, hcz27_2, hcz27_3⟩ := cz4 BK232.out; obtain ⟨hfz27_0, hfz27_1, hfz27_2, hfz27_3⟩ := fz4 BK232.out; obtain ⟨hcz28_0, hcz28_1, hcz28_2, hcz28_3⟩ := cz4 BK231.out; obtain ⟨hfz28_0, hfz28_1, hfz28_2, hfz28_3⟩ := fz4 BK231.out))
 refine bodyPost_ret (results_cell_row rfl _ _ gb231 29 #[.slice Ao13 t233.length co13, .slice Ao18 t236.length co18, .slice Ao22 t239.length co22, .slice Ao26 t242.length co26] (0, 0) _ rfl (by refine kq ?_; refine blk_put (cs := #[.slice Ao13 t233.length co13, .slice Ao18 t236.length co18, .slice Ao22 t239.length co22, .slice none 0 0]) ?_ 3 _ rfl; refine kq ?_; refine blk_put (cs := #[.slice Ao13 t233.length co13, .slice Ao18 t236.length co18, .slice none 0 0, .slice none 0 0]) ?_ 2 _ rfl; refine kq ?_; refine blk_put (cs := #[.slice Ao13 t233.length co13, .slice none 0 0, .slice none 0 0, .slice none 0 0]) ?_ 1 _ rfl; refine kq ?_; refine blk_put (cs := #[.slice none 0 0, .slice none 0 0, .slice none 0 0, .slice none 0 0]) ?_ 0 _ rfl; refine kq ?_; refine blk_far ?_ NB231_232.out _; refine kq ?_; exact BK231.out) Tryd.underlying29 rfl (by kernel_rfl)) rfl ?_
 exact ⟨_, _, _, _, gz, by refine rq ?_; first | (with_reducible exact Kd.R_mono (Kd.R_far (p := ⟨gb231, 3, none⟩) (Kd.R_far (p := ⟨gb231, 2, none⟩) (Kd.R_far (p := ⟨gb231, 1, none⟩) (Kd.R_far (p := ⟨gb231, 0, none⟩) (Kd.R_far (p := ⟨gb232, 3, none⟩) (Kd.R_types (Kd.R_types HO235.out BK232.out (by decide)) BK231.out (by decide)) (fun _ hk => hk.1.2) (.slice Ao26 t242.length co26)) (fun _ hk => hk.2) (.slice Ao13 t233.length co13)) (fun _ hk => hk.2) (.slice Ao18 t236.length co18)) (fun _ hk => hk.2) (.slice Ao22 t239.length co22)) (fun _ hk => hk.2) (.slice Ao26 t242.length co26)) (fun _ hk => trivial)) | (with_reducible exact Kd.R_mono (Kd.R_far (p := ⟨gb231, 3, none⟩) (Kd.R_drewN (Kd.R_far (p := ⟨gb231, 2, none⟩) (Kd.R_far (p := ⟨gb231, 1, none⟩) (Kd.R_far (p := ⟨gb231, 0, none⟩) (Kd.R_far (p := ⟨gb232, 3, none⟩) (Kd.R_types (Kd.R_types HO235.out BK232.out (by decide)) BK231.out (by decide)) (fun _ hk => hk.1.2) (.slice Ao26 t242.length co26)) (fun _ hk => hk.2) (.slice Ao13 t233.length co13)) (fun _ hk => hk.2) (.slice Ao18 t236.length co18)) (fun _ hk => hk.2) (.slice Ao22 t239.length co22)) _) (fun _ hk => hk.2) (.slice Ao26 t242.length co26)) (fun _ hk => trivial)) | exact Kd.R_mono (Kd.R_far (p := ⟨gb231, 3, none⟩) (Kd.R_drewN (Kd.R_far (p := ⟨gb231, 2, none⟩) (Kd.R_far (p := ⟨gb231, 1, none⟩) (Kd.R_far (p := ⟨gb231, 0, none⟩) (Kd.R_far (p := ⟨gb232, 3, none⟩) (Kd.R_types (Kd.R_types HO235.out BK232.out (by decide)) BK231.out (by decide)) (fun _ hk => hk.1.2) (.slice Ao26 t242.length co26)) (fun _ hk => hk.2) (.slice Ao13 t233.length co13)) (fun _ hk => hk.2) (.slice Ao18 t236.length co18)) (fun _ hk => hk.2) (.slice Ao22 t239.length co22)) _) (fun _ hk => hk.2) (.slice Ao26 t242.length co26)) (fun _ hk => trivial), by refine rq ?_; first | (with_reducible exact Kd.R_mono (Kd.R_far (p := ⟨gb231, 3, none⟩) (Kd.R_far (p := ⟨gb231, 2, none⟩) (Kd.R_far (p := ⟨gb231, 1, none⟩) (Kd.R_far (p := ⟨gb231, 0, none⟩) (Kd.R_far (p := ⟨gb232, 3, none⟩) (Kd.R_types (Kd.R_types HO238.out BK232.out (by decide)) BK231.out (by decide)) (fun _ hk => hk.1.2) (.slice Ao26 t242.length co26)) (fun _ hk => hk.2) (.slice Ao13 t233.length co13)) (fun _ hk => hk.2) (.slice Ao18 t236.length co18)) (fun _ hk => hk.2) (.slice Ao22 t239.length co22)) (fun _ hk => hk.2) (.slice Ao26 t242.length co26)) (fun _ hk => trivial)) | (with_reducible exact Kd.R_mono (Kd.R_far (p := ⟨gb231, 3, none⟩) (Kd.R_drewN (Kd.R_far (p := ⟨gb231, 2, none⟩) (Kd.R_far (p := ⟨gb231, 1, none⟩) (Kd.R_far (p := ⟨gb231, 0, none⟩) (Kd.R_far (p := ⟨gb232, 3, none⟩) (Kd.R_types (Kd.R_types HO238.out BK232.out (by decide)) BK231.out (by decide)) (fun _ hk => hk.1.2) (.slice Ao26 t242.length co26)) (fun _ hk => hk.2) (.slice Ao13 t233.length co13)) (fun _ hk => hk.2) (.slice Ao18 t236.length co18)) (fun _ hk => hk.2) (.slice Ao22 t239.length co22)) _) (fun _ hk => hk.2) (.slice Ao26 t242.length co26)) (fun _ hk => trivial)) | exact Kd.R_mono (Kd.R_far (p := ⟨gb231, 3, none⟩) (Kd.R_drewN (Kd.R_far (p := ⟨gb231, 2, none⟩) (Kd.R_far (p := ⟨gb231, 1, none⟩) (Kd.R_far (p := ⟨gb231, 0, none⟩) (Kd.R_far (p := ⟨gb232, 3, none⟩) (Kd.R_types (Kd.R_types HO238.out BK232.out (by decide)) BK231.out (by decide)) (fun _ hk => hk.1.2) (.slice Ao26 t242.length co26)) (fun _ hk => hk.2) (.slice Ao13 t233.length co13)) (fun _ hk => hk.2) (.slice Ao18 t236.length co18)) (fun _ hk => hk.2) (.slice Ao22 t239.length co22)) _) (fun _ hk => hk.2) (.slice Ao26 t242.length co26)) (fun _ hk => trivial), by refine rq ?_; first | (with_reducible exact Kd.R_mono (Kd.R_far (p := ⟨gb231, 3, none⟩) (Kd.R_far (p := ⟨gb231, 2, none⟩) (Kd.R_far (p := ⟨gb231, 1, none⟩) (Kd.R_far (p := ⟨gb231, 0, none⟩) (Kd.R_far (p := ⟨gb232, 3, none⟩) (Kd.R_types (Kd.R_types HO241.out BK232.out (by decide)) BK231.out (by decide)) (fun _ hk => hk.1.2) (.slice Ao26 t242.length co26)) (fun _ hk => hk.2) (.slice Ao13 t233.length co13)) (fun _ hk => hk.2) (.slice Ao18 t236.length co18)) (fun _ hk => hk.2) (.slice Ao22 t239.length co22)) (fun _ hk => hk.2) (.slice Ao26 t242.length co26)) (fun _ hk => trivial)) | (with_reducible exact Kd.R_mono (Kd.R_far (p := ⟨gb231, 3, none⟩) (Kd.R_drewN (Kd.R_far (p := ⟨gb231, 2, none⟩) (Kd.R_far (p := ⟨gb231, 1, none⟩) (Kd.R_far (p := ⟨gb231, 0, none⟩) (Kd.R_far (p := ⟨gb232, 3, none⟩) (Kd.R_types (Kd.R_types HO241.out BK232.out (by decide)) BK231.out (by decide)) (fun _ hk => hk.1.2) (.slice Ao26 t242.length co26)) (fun _ hk => hk.2) (.slice Ao13 t233.length co13)) (fun _ hk => hk.2) (.slice Ao18 t236.length co18)) (fun _ hk => hk.2) (.slice Ao22 t239.length co22)) _) (fun _ hk => hk.2) (.slice Ao26 t242.length co26)) (fun _ hk => trivial)) | exact Kd.R_mono (Kd.R_far (p := ⟨gb231, 3, none⟩) (Kd.R_drewN (Kd.R_far (p := ⟨gb231, 2, none⟩) (Kd.R_far (p := ⟨gb231, 1, none⟩) (Kd.R_far (p := ⟨gb231, 0, none⟩) (Kd.R_far (p := ⟨gb232, 3, none⟩) (Kd.R_types (Kd.R_types HO241.out BK232.out (by decide)) BK231.out (by decide)) (fun _ hk => hk.1.2) (.slice Ao26 t242.length co26)) (fun _ hk => hk.2) (.slice Ao13 t233.length co13)) (fun _ hk => hk.2) (.slice Ao18 t236.length co18)) (fun _ hk => hk.2) (.slice Ao22 t239.length co22)) _) (fun _ hk => hk.2) (.slice Ao26 t242.length co26)) (fun _ hk => trivial), by refine rq ?_; first | (with_reducible exact Kd.R_mono (Kd.R_far (p := ⟨gb231, 3, none⟩) (Kd.R_far (p := ⟨gb231, 2, none⟩) (Kd.R_far (p := ⟨gb231, 1, none⟩) (Kd.R_far (p := ⟨gb231, 0, none⟩) (Kd.R_far (p := ⟨gb232, 3, none⟩) (Kd.R_types (Kd.R_types HO244.out BK232.out (by decide)) BK231.out (by decide)) (fun _ hk => hk.1.2) (.slice Ao26 t242.length co26)) (fun _ hk => hk.2) (.slice Ao13 t233.length co13)) (fun _ hk => hk.2) (.slice Ao18 t236.length co18)) (fun _ hk => hk.2) (.slice Ao22 t239.length co22)) (fun _ hk => hk.2) (.slice Ao26 t242.length co26)) (fun _ hk => trivial)) | (with_reducible exact Kd.R_mono (Kd.R_far (p := ⟨gb231, 3, none⟩) (Kd.R_drewN (Kd.R_far (p := ⟨gb231, 2, none⟩) (Kd.R_far (p := ⟨gb231, 1, none⟩) (Kd.R_far (p := ⟨gb231, 0, none⟩) (Kd.R_far (p := ⟨gb232, 3, none⟩) (Kd.R_types (Kd.R_types HO244.out BK232.out (by decide)) BK231.out (by decide)) (fun _ hk => hk.1.2) (.slice Ao26 t242.length co26)) (fun _ hk => hk.2) (.slice Ao13 t233.length co13)) (fun _ hk => hk.2) (.slice Ao18 t236.length co18)) (fun _ hk => hk.2) (.slice Ao22 t239.length co22)) _) (fun _ hk => hk.2) (.slice Ao26 t242.length co26)) (fun _ hk => trivial)) | exact Kd.R_mono (Kd.R_far (p := ⟨gb231, 3, none⟩) (Kd.R_drewN (Kd.R_far (p := ⟨gb231, 2, none⟩) (Kd.R_far (p := ⟨gb231, 1, none⟩) (Kd.R_far (p := ⟨gb231, 0, none⟩) (Kd.R_far (p := ⟨gb232, 3, none⟩) (Kd.R_types (Kd.R_types HO244.out BK232.out (by decide)) BK231.out (by decide)) (fun _ hk => hk.1.2) (.slice Ao26 t242.length co26)) (fun _ hk => hk.2) (.slice Ao13 t233.length co13)) (fun _ hk => hk.2) (.slice Ao18 t236.length co18)) (fun _ hk => hk.2) (.slice Ao22 t239.length co22)) _) (fun _ hk => hk.2) (.slice Ao26 t242.length co26)) (fun _ hk => trivial), (bz3 HB.out GE230.out GE231.out GE232.out)⟩
def laws_eqVal.f (a0_0 : Int) (a0_1 : Int) (a1_0 : Int) (a1_1 : Int) : Option (Bool) := if a0_0 = a1_0 then (if a0_1 = a1_1 then (some true) else (some false)) else (some false)
set_option maxHeartbeats 8000000 in
set_option maxRecDepth 100000 in
theorem laws_eqVal.calls (a0_0 : Int) (a0_1 : Int) (a1_0 : Int) (a1_1 : Int) (r : Bool) (w : World) (h : laws_eqVal.f a0_0 a0_1 a1_0 a1_1 = some r) :
  Calls Tryd.prog 92 #[.agg #[.int .i64 a0_0, .int .i64 a0_1], .agg #[.int .i64 a1_0, .int .i64 a1_1]] w fun e w' => e = .returned (.bool r) /\ Below w.heap.size w w' := by
 have hu35 := Tryd.underlying35
 have HB := Aside0.mk (Below.refl w.heap.size w)
 have H : (if a0_0 = a1_0 then (if a0_1 = a1_1 then (some true) else (some false)) else (some false)) = some r := h
 clear h
 by_cases c3 : a0_0 = a1_0
 ·rw [if_pos c3] at H
  have c3b0 : (a0_0 == a1_0) = true := beq_iff_eq.mpr c3
  have c3b1 : (a0_0 != a1_0) = false := bne_eq_false_iff_eq.mpr c3
  clear c3
  by_cases c4 : a0_1 = a1_1
  ·rw [if_pos c4] at H
   have c4b0 : (a0_1 == a1_1) = true := beq_iff_eq.mpr c4
   have c4b1 : (a0_1 != a1_1) = false := bne_eq_false_iff_eq.mpr c4
   clear c4
   obtain rfl := Option.some.inj H
   go_enter Tryd.func92, Tryd.ntmps92
   go_wp2_with (first | ((with_reducible refine gate_dst (N := 2) rfl ?_); refine box_event ?hg (N := 2) ?hd (cs := #[.int .i64 a0_0, .int .i64 a0_1]) (t := 35) ?hr ?_; (case hd => rfl); (case hg => rfl); (case hr => exact vz); intro gb245 hg w5 hbox hb; have BK245 := Aside0.mk (hbox); have GW245 := Aside0.mk ((by rw [hg]; exact (below_size (bz0 HB.out)) : w.heap.size <= gb245)); have GE245 := Aside0.mk ((by rw [hg]; exact (below_size (bz0 HB.out)) : w.heap.size <= gb245)); replace HB := Aside0.mk (below_step (bz0 HB.out) hb); clear hb hbox hg) | ((with_reducible refine gate_dst (N := 3) rfl ?_); refine box_event ?hg (N := 3) ?hd (cs := #[.int .i64 a1_0, .int .i64 a1_1]) (t := 35) ?hr ?_; (case hd => rfl); (case hg => rfl); (case hr => exact vz); intro gb246 hg w6 hbox hb; have BK246 := Aside0.mk (hbox); have GW246 := Aside0.mk ((by rw [hg]; exact (below_size (bz1 HB.out GE245.out)) : w.heap.size <= gb246)); have GE246 := Aside0.mk ((by rw [hg]; exact (below_size (bz1 HB.out GE245.out)) : w.heap.size <= gb246)); replace HB := Aside0.mk (below_step (bz1 HB.out GE245.out) hb); have NB245_246 := Aside0.mk ((by rw [hg]; exact Nat.ne_of_lt (blk_lt (g := gb245) (o := .cells #[.int .i64 a0_0, .int .i64 a0_1] 35 (0, 0)) (kz BK245.out)) : gb245 ≠ gb246)); have NB246_245 := Aside0.mk ((by rw [hg]; exact Nat.ne_of_gt (blk_lt (g := gb245) (o := .cells #[.int .i64 a0_0, .int .i64 a0_1] 35 (0, 0)) (kz BK245.out)) : gb246 ≠ gb245)); replace BK245 := Aside0.mk (blk_below (kz BK245.out) hb); clear hb hbox hg; have hnb7 := NB245_246.out; have hnc7 := NB246_245.out; obtain ⟨hcz8_0, hcz8_1⟩ := cz2 BK245.out; obtain ⟨hfz8_0, hfz8_1⟩ := fz2 BK245.out; obtain ⟨hcz9_0, hcz9_1⟩ := cz2 BK246.out; obtain ⟨hfz9_0, hfz9_1⟩ := fz2 BK246.out))
   go_ret
   exact ⟨gz, (bz2 HB.out GE245.out GE246.out)⟩
  ·rw [if_neg c4] at H
   have c4b0 : (a0_1 == a1_1) = false := beq_eq_false_iff_ne.mpr c4
   have c4b1 : (a0_1 != a1_1) = true := bne_iff_ne.mpr c4
   obtain rfl := Option.some.inj H
   go_enter Tryd.func92, Tryd.ntmps92
   go_wp2_with (first | ((with_reducible refine gate_dst (N := 2) rfl ?_); refine box_event ?hg (N := 2) ?hd (cs := #[.int .i64 a0_0, .int .i64 a0_1]) (t := 35) ?hr ?_; (case hd => rfl); (case hg => rfl); (case hr => exact vz); intro gb245 hg w10 hbox hb; have BK245 := Aside0.mk (hbox); have GW245 := Aside0.mk ((by rw [hg]; exact (below_size (bz0 HB.out)) : w.heap.size <= gb245)); have GE245 := Aside0.mk ((by rw [hg]; exact (below_size (bz0 HB.out)) : w.heap.size <= gb245)); replace HB := Aside0.mk (below_step (bz0 HB.out) hb); clear hb hbox hg) | ((with_reducible refine gate_dst (N := 3) rfl ?_); refine box_event ?hg (N := 3) ?hd (cs := #[.int .i64 a1_0, .int .i64 a1_1]) (t := 35) ?hr ?_; (case hd => rfl); (case hg => rfl); (case hr => exact vz); intro gb246 hg w11 hbox hb; have BK246 := Aside0.mk (hbox); have GW246 := Aside0.mk ((by rw [hg]; exact (below_size (bz1 HB.out GE245.out)) : w.heap.size <= gb246)); have GE246 := Aside0.mk ((by rw [hg]; exact (below_size (bz1 HB.out GE245.out)) : w.heap.size <= gb246)); replace HB := Aside0.mk (below_step (bz1 HB.out GE245.out) hb); have NB245_246 := Aside0.mk ((by rw [hg]; exact Nat.ne_of_lt (blk_lt (g := gb245) (o := .cells #[.int .i64 a0_0, .int .i64 a0_1] 35 (0, 0)) (kz BK245.out)) : gb245 ≠ gb246)); have NB246_245 := Aside0.mk ((by rw [hg]; exact Nat.ne_of_gt (blk_lt (g := gb245) (o := .cells #[.int .i64 a0_0, .int .i64 a0_1] 35 (0, 0)) (kz BK245.out)) : gb246 ≠ gb245)); replace BK245 := Aside0.mk (blk_below (kz BK245.out) hb); clear hb hbox hg; have hnb12 := NB245_246.out; have hnc12 := NB246_245.out; obtain ⟨hcz13_0, hcz13_1⟩ := cz2 BK245.out; obtain ⟨hfz13_0, hfz13_1⟩ := fz2 BK245.out; obtain ⟨hcz14_0, hcz14_1⟩ := cz2 BK246.out; obtain ⟨hfz14_0, hfz14_1⟩ := fz2 BK246.out))
   go_ret
   exact ⟨gz, (bz2 HB.out GE245.out GE246.out)⟩
 ·rw [if_neg c3] at H
  have c3b0 : (a0_0 == a1_0) = false := beq_eq_false_iff_ne.mpr c3
  have c3b1 : (a0_0 != a1_0) = true := bne_iff_ne.mpr c3
  obtain rfl := Option.some.inj H
  go_enter Tryd.func92, Tryd.ntmps92
  go_wp2_with (first | ((with_reducible refine gate_dst (N := 2) rfl ?_); refine box_event ?hg (N := 2) ?hd (cs := #[.int .i64 a0_0, .int .i64 a0_1]) (t := 35) ?hr ?_; (case hd => rfl); (case hg => rfl); (case hr => exact vz); intro gb245 hg w15 hbox hb; have BK245 := Aside0.mk (hbox); have GW245 := Aside0.mk ((by rw [hg]; exact (below_size (bz0 HB.out)) : w.heap.size <= gb245)); have GE245 := Aside0.mk ((by rw [hg]; exact (below_size (bz0 HB.out)) : w.heap.size <= gb245)); replace HB := Aside0.mk (below_step (bz0 HB.out) hb); clear hb hbox hg) | ((with_reducible refine gate_dst (N := 3) rfl ?_); refine box_event ?hg (N := 3) ?hd (cs := #[.int .i64 a1_0, .int .i64 a1_1]) (t := 35) ?hr ?_; (case hd => rfl); (case hg => rfl); (case hr => exact vz); intro gb246 hg w16 hbox hb; have BK246 := Aside0.mk (hbox); have GW246 := Aside0.mk ((by rw [hg]; exact (below_size (bz1 HB.out GE245.out)) : w.heap.size <= gb246)); have GE246 := Aside0.mk ((by rw [hg]; exact (below_size (bz1 HB.out GE245.out)) : w.heap.size <= gb246)); replace HB := Aside0.mk (below_step (bz1 HB.out GE245.out) hb); have NB245_246 := Aside0.mk ((by rw [hg]; exact Nat.ne_of_lt (blk_lt (g := gb245) (o := .cells #[.int .i64 a0_0, .int .i64 a0_1] 35 (0, 0)) (kz BK245.out)) : gb245 ≠ gb246)); have NB246_245 := Aside0.mk ((by rw [hg]; exact Nat.ne_of_gt (blk_lt (g := gb245) (o := .cells #[.int .i64 a0_0, .int .i64 a0_1] 35 (0, 0)) (kz BK245.out)) : gb246 ≠ gb245)); replace BK245 := Aside0.mk (blk_below (kz BK245.out) hb); clear hb hbox hg; have hnb17 := NB245_246.out; have hnc17 := NB246_245.out; obtain ⟨hcz18_0, hcz18_1⟩ := cz2 BK245.out; obtain ⟨hfz18_0, hfz18_1⟩ := fz2 BK245.out; obtain ⟨hcz19_0, hcz19_1⟩ := cz2 BK246.out; obtain ⟨hfz19_0, hfz19_1⟩ := fz2 BK246.out))
  go_ret
  exact ⟨gz, (bz2 HB.out GE245.out GE246.out)⟩
end Go.Proofs.YtlhofeikcaejpaaDoor.PFnExactShowVal
