/- PFnExactPrintPartx9, of the words and walks that the law FnExactPrintPart needs; made by this session's program out of printed texts. -/

import Derived.Test.YtmilegjmiiccdaaDoorVEPrintPartPx0
import Derived.Test.YtmilegjmiiccdaaDoorVEPrintPartPx7
import Derived.Test.YtmilegjmiiccdaaDoorVEPrintPartPx8
namespace Go.Proofs.YtmilegjmiiccdaaDoor.PFnExactPrintPart
open Go.RowKit Go.Proofs.YtmilegjmiiccdaaDoorW.PrintWords Go.Proofs.YtmilegjmiiccdaaDoorW.PrintLast Go.Proofs.YtmilegjmiiccdaaDoorW.PrintMore
attribute [local go_sem] max2_int min2_int max_two min_two max_three min_three max_four min_four
set_option linter.unusedVariables false
set_option linter.unusedSimpArgs false
def impl_formOf.f (a0 : ByteArray) : Option (Int × Int × Int × Int × Int × ByteArray × ByteArray × ByteArray) := if a0.toList = ([102, 117, 110] : List UInt8) then (some (3, 0, 0, 0, 0, (⟨#[]⟩ : ByteArray), (⟨#[]⟩ : ByteArray), (⟨#[110, 101]⟩ : ByteArray))) else (if a0.toList = ([97, 112, 112] : List UInt8) then (some (4, 0, 0, 0, 0, (⟨#[]⟩ : ByteArray), (⟨#[]⟩ : ByteArray), (⟨#[101, 101]⟩ : ByteArray))) else (if a0.toList = ([108, 101, 116] : List UInt8) then (some (5, 0, 0, 0, 0, (⟨#[]⟩ : ByteArray), (⟨#[]⟩ : ByteArray), (⟨#[110, 101, 101]⟩ : ByteArray))) else (if a0.toList = ([114, 101, 99] : List UInt8) then (some (6, 0, 0, 0, 0, (⟨#[]⟩ : ByteArray), (⟨#[]⟩ : ByteArray), (⟨#[110, 110, 101, 101]⟩ : ByteArray))) else (if a0.toList = ([105, 102] : List UInt8) then (some (7, 0, 0, 0, 0, (⟨#[]⟩ : ByteArray), (⟨#[]⟩ : ByteArray), (⟨#[101, 101, 101]⟩ : ByteArray))) else (if a0.toList = ([97, 100, 100] : List UInt8) then (some (8, 0, 0, 0, 0, (⟨#[]⟩ : ByteArray), (⟨#[]⟩ : ByteArray), (⟨#[101, 101]⟩ : ByteArray))) else (if a0.toList = ([115, 117, 98] : List UInt8) then (some (8, 0, 0, 0, 1, (⟨#[]⟩ : ByteArray), (⟨#[]⟩ : ByteArray), (⟨#[101, 101]⟩ : ByteArray))) else (if a0.toList = ([108, 101, 115, 115] : List UInt8) then (some (8, 0, 0, 0, 2, (⟨#[]⟩ : ByteArray), (⟨#[]⟩ : ByteArray), (⟨#[101, 101]⟩ : ByteArray))) else (if a0.toList = ([115, 97, 109, 101] : List UInt8) then (some (8, 0, 0, 0, 3, (⟨#[]⟩ : ByteArray), (⟨#[]⟩ : ByteArray), (⟨#[101, 101]⟩ : ByteArray))) else (if a0.toList = ([109, 97, 116, 99, 104] : List UInt8) then (some (14, 0, 0, 0, 0, (⟨#[]⟩ : ByteArray), (⟨#[]⟩ : ByteArray), (⟨#[101, 101, 110, 110, 101]⟩ : ByteArray))) else (if a0.toList = ([116, 114, 121] : List UInt8) then (some (19, 0, 0, 0, 0, (⟨#[]⟩ : ByteArray), (⟨#[]⟩ : ByteArray), (⟨#[101, 110, 101]⟩ : ByteArray))) else ((impl_plainForm.f a0).bind fun bt271 => (some (bt271.1, bt271.2.1, bt271.2.2.1, bt271.2.2.2.1, bt271.2.2.2.2.1, bt271.2.2.2.2.2.1, bt271.2.2.2.2.2.2.1, bt271.2.2.2.2.2.2.2)))))))))))))
set_option maxHeartbeats 8000000 in
set_option maxRecDepth 100000 in
theorem impl_formOf.calls (a0 : ByteArray) (r1 : Int) (r2 : Int) (r3 : Int) (r4 : Int) (r5 : Int) (r6 : ByteArray) (r7 : ByteArray) (r8 : ByteArray) (w : World) (h : impl_formOf.f a0 = some (r1, r2, r3, r4, r5, r6, r7, r8)) :
  Calls Tryd.prog 72 #[.string a0] w fun e w' => e = .returned (.tuple #[.agg #[.int .i64 r1, .int .i64 r2, .int .i64 r3, .int .i64 r4, .int .i64 r5, .string r6, .string r7], .string r8]) /\ Below w.heap.size w w' := by
 have hu43 := Tryd.underlying43
 have HB := Aside0.mk (Below.refl w.heap.size w)
 have H : (if a0.toList = ([102, 117, 110] : List UInt8) then (some (3, 0, 0, 0, 0, (⟨#[]⟩ : ByteArray), (⟨#[]⟩ : ByteArray), (⟨#[110, 101]⟩ : ByteArray))) else (if a0.toList = ([97, 112, 112] : List UInt8) then (some (4, 0, 0, 0, 0, (⟨#[]⟩ : ByteArray), (⟨#[]⟩ : ByteArray), (⟨#[101, 101]⟩ : ByteArray))) else (if a0.toList = ([108, 101, 116] : List UInt8) then (some (5, 0, 0, 0, 0, (⟨#[]⟩ : ByteArray), (⟨#[]⟩ : ByteArray), (⟨#[110, 101, 101]⟩ : ByteArray))) else (if a0.toList = ([114, 101, 99] : List UInt8) then (some (6, 0, 0, 0, 0, (⟨#[]⟩ : ByteArray), (⟨#[]⟩ : ByteArray), (⟨#[110, 110, 101, 101]⟩ : ByteArray))) else (if a0.toList = ([105, 102] : List UInt8) then (some (7, 0, 0, 0, 0, (⟨#[]⟩ : ByteArray), (⟨#[]⟩ : ByteArray), (⟨#[101, 101, 101]⟩ : ByteArray))) else (if a0.toList = ([97, 100, 100] : List UInt8) then (some (8, 0, 0, 0, 0, (⟨#[]⟩ : ByteArray), (⟨#[]⟩ : ByteArray), (⟨#[101, 101]⟩ : ByteArray))) else (if a0.toList = ([115, 117, 98] : List UInt8) then (some (8, 0, 0, 0, 1, (⟨#[]⟩ : ByteArray), (⟨#[]⟩ : ByteArray), (⟨#[101, 101]⟩ : ByteArray))) else (if a0.toList = ([108, 101, 115, 115] : List UInt8) then (some (8, 0, 0, 0, 2, (⟨#[]⟩ : ByteArray), (⟨#[]⟩ : ByteArray), (⟨#[101, 101]⟩ : ByteArray))) else (if a0.toList = ([115, 97, 109, 101] : List UInt8) then (some (8, 0, 0, 0, 3, (⟨#[]⟩ : ByteArray), (⟨#[]⟩ : ByteArray), (⟨#[101, 101]⟩ : ByteArray))) else (if a0.toList = ([109, 97, 116, 99, 104] : List UInt8) then (some (14, 0, 0, 0, 0, (⟨#[]⟩ : ByteArray), (⟨#[]⟩ : ByteArray), (⟨#[101, 101, 110, 110, 101]⟩ : ByteArray))) else (if a0.toList = ([116, 114, 121] : List UInt8) then (some (19, 0, 0, 0, 0, (⟨#[]⟩ : ByteArray), (⟨#[]⟩ : ByteArray), (⟨#[101, 110, 101]⟩ : ByteArray))) else ((impl_plainForm.f a0).bind fun bt271 => (some (bt271.1, bt271.2.1, bt271.2.2.1, bt271.2.2.2.1, bt271.2.2.2.2.1, bt271.2.2.2.2.2.1, bt271.2.2.2.2.2.2.1, bt271.2.2.2.2.2.2.2)))))))))))))) = some (r1, r2, r3, r4, r5, r6, r7, r8) := h
 clear h
 by_cases c2 : a0.toList = ([102, 117, 110] : List UInt8)
 ·rw [if_pos c2] at H
  have c2b0 : (a0.toList == ([102, 117, 110] : List UInt8)) = true := beq_iff_eq.mpr c2
  have c2b1 : (a0.toList != ([102, 117, 110] : List UInt8)) = false := bne_eq_false_iff_eq.mpr c2
  clear c2
  simp only [Option.some.injEq, Prod.mk.injEq] at H
  obtain ⟨rfl, rfl, rfl, rfl, rfl, rfl, rfl, rfl⟩ := H
  go_enter Tryd.func72, Tryd.ntmps72
  go_wp2_with (first | ((with_reducible refine gate_dst (N := 2) rfl ?_); refine box_event ?hg (N := 2) ?hd (cs := #[.int .i64 0, .int .i64 0, .int .i64 0, .int .i64 0, .int .i64 0, .string (⟨#[]⟩ : ByteArray), .string (⟨#[]⟩ : ByteArray)]) (t := 43) ?hr ?_; (case hd => rfl); (case hg => rfl); (case hr => exact vz); intro gb270 hg w3 hbox hb; have BK270 := Aside0.mk (hbox); have GW270 := Aside0.mk ((by rw [hg]; exact (below_size (bz0 HB.out)) : w.heap.size <= gb270)); have GE270 := Aside0.mk ((by rw [hg]; exact (below_size (bz0 HB.out)) : w.heap.size <= gb270)); replace HB := Aside0.mk (below_step (bz0 HB.out) hb); clear hb hbox hg; obtain ⟨hcz4_0, hcz4_1, hcz4_2, hcz4_3, hcz4_4, hcz4_5, hcz4_6⟩ := cz7 BK270.out; obtain ⟨hfz4_0, hfz4_1, hfz4_2, hfz4_3, hfz4_4, hfz4_5, hfz4_6⟩ := fz7 BK270.out))
  refine bodyPost_ret (results_ct rfl _ _ gb270 43 #[.int .i64 3, .int .i64 0, .int .i64 0, .int .i64 0, .int .i64 0, .string (⟨#[]⟩ : ByteArray), .string (⟨#[]⟩ : ByteArray)] (0, 0) _ rfl (by refine kq ?_; refine blk_put (cs := #[.int .i64 3, .int .i64 0, .int .i64 0, .int .i64 0, .int .i64 0, .string (⟨#[]⟩ : ByteArray), .string (⟨#[]⟩ : ByteArray)]) ?_ 6 _ rfl; refine kq ?_; refine blk_put (cs := #[.int .i64 3, .int .i64 0, .int .i64 0, .int .i64 0, .int .i64 0, .string (⟨#[]⟩ : ByteArray), .string (⟨#[]⟩ : ByteArray)]) ?_ 5 _ rfl; refine kq ?_; refine blk_put (cs := #[.int .i64 3, .int .i64 0, .int .i64 0, .int .i64 0, .int .i64 0, .string (⟨#[]⟩ : ByteArray), .string (⟨#[]⟩ : ByteArray)]) ?_ 4 _ rfl; refine kq ?_; refine blk_put (cs := #[.int .i64 3, .int .i64 0, .int .i64 0, .int .i64 0, .int .i64 0, .string (⟨#[]⟩ : ByteArray), .string (⟨#[]⟩ : ByteArray)]) ?_ 3 _ rfl; refine kq ?_; refine blk_put (cs := #[.int .i64 3, .int .i64 0, .int .i64 0, .int .i64 0, .int .i64 0, .string (⟨#[]⟩ : ByteArray), .string (⟨#[]⟩ : ByteArray)]) ?_ 2 _ rfl; refine kq ?_; refine blk_put (cs := #[.int .i64 3, .int .i64 0, .int .i64 0, .int .i64 0, .int .i64 0, .string (⟨#[]⟩ : ByteArray), .string (⟨#[]⟩ : ByteArray)]) ?_ 1 _ rfl; refine kq ?_; refine blk_put (cs := #[.int .i64 0, .int .i64 0, .int .i64 0, .int .i64 0, .int .i64 0, .string (⟨#[]⟩ : ByteArray), .string (⟨#[]⟩ : ByteArray)]) ?_ 0 _ rfl; refine kq ?_; exact BK270.out) Tryd.underlying43 rfl (by kernel_rfl)) rfl ?_
  exact ⟨gz, (bz1 HB.out GE270.out)⟩
 ·rw [if_neg c2] at H
  have c2b0 : (a0.toList == ([102, 117, 110] : List UInt8)) = false := beq_eq_false_iff_ne.mpr c2
  have c2b1 : (a0.toList != ([102, 117, 110] : List UInt8)) = true := bne_iff_ne.mpr c2
  by_cases c5 : a0.toList = ([97, 112, 112] : List UInt8)
  ·rw [if_pos c5] at H
   have c5b0 : (a0.toList == ([97, 112, 112] : List UInt8)) = true := beq_iff_eq.mpr c5
   have c5b1 : (a0.toList != ([97, 112, 112] : List UInt8)) = false := bne_eq_false_iff_eq.mpr c5
   clear c5
   simp only [Option.some.injEq, Prod.mk.injEq] at H
   obtain ⟨rfl, rfl, rfl, rfl, rfl, rfl, rfl, rfl⟩ := H
   go_enter Tryd.func72, Tryd.ntmps72
   go_wp2_with (first | ((with_reducible refine gate_dst (N := 2) rfl ?_); refine box_event ?hg (N := 2) ?hd (cs := #[.int .i64 0, .int .i64 0, .int .i64 0, .int .i64 0, .int .i64 0, .string (⟨#[]⟩ : ByteArray), .string (⟨#[]⟩ : ByteArray)]) (t := 43) ?hr ?_; (case hd => rfl); (case hg => rfl); (case hr => exact vz); intro gb270 hg w6 hbox hb; have BK270 := Aside0.mk (hbox); have GW270 := Aside0.mk ((by rw [hg]; exact (below_size (bz0 HB.out)) : w.heap.size <= gb270)); have GE270 := Aside0.mk ((by rw [hg]; exact (below_size (bz0 HB.out)) : w.heap.size <= gb270)); replace HB := Aside0.mk (below_step (bz0 HB.out) hb); clear hb hbox hg; obtain ⟨hcz7_0, hcz7_1, hcz7_2, hcz7_3, hcz7_4, hcz7_5, hcz7_6⟩ := cz7 BK270.out; obtain ⟨hfz7_0, hfz7_1, hfz7_2, hfz7_3, hfz7_4, hfz7_5, hfz7_6⟩ := fz7 BK270.out))
   refine bodyPost_ret (results_ct rfl _ _ gb270 43 #[.int .i64 4, .int .i64 0, .int .i64 0, .int .i64 0, .int .i64 0, .string (⟨#[]⟩ : ByteArray), .string (⟨#[]⟩ : ByteArray)] (0, 0) _ rfl (by refine kq ?_; refine blk_put (cs := #[.int .i64 4, .int .i64 0, .int .i64 0, .int .i64 0, .int .i64 0, .string (⟨#[]⟩ : ByteArray), .string (⟨#[]⟩ : ByteArray)]) ?_ 6 _ rfl; refine kq ?_; refine blk_put (cs := #[.int .i64 4, .int .i64 0, .int .i64 0, .int .i64 0, .int .i64 0, .string (⟨#[]⟩ : ByteArray), .string (⟨#[]⟩ : ByteArray)]) ?_ 5 _ rfl; refine kq ?_; refine blk_put (cs := #[.int .i64 4, .int .i64 0, .int .i64 0, .int .i64 0, .int .i64 0, .string (⟨#[]⟩ : ByteArray), .string (⟨#[]⟩ : ByteArray)]) ?_ 4 _ rfl; refine kq ?_; refine blk_put (cs := #[.int .i64 4, .int .i64 0, .int .i64 0, .int .i64 0, .int .i64 0, .string (⟨#[]⟩ : ByteArray), .string (⟨#[]⟩ : ByteArray)]) ?_ 3 _ rfl; refine kq ?_; refine blk_put (cs := #[.int .i64 4, .int .i64 0, .int .i64 0, .int .i64 0, .int .i64 0, .string (⟨#[]⟩ : ByteArray), .string (⟨#[]⟩ : ByteArray)]) ?_ 2 _ rfl; refine kq ?_; refine blk_put (cs := #[.int .i64 4, .int .i64 0, .int .i64 0, .int .i64 0, .int .i64 0, .string (⟨#[]⟩ : ByteArray), .string (⟨#[]⟩ : ByteArray)]) ?_ 1 _ rfl; refine kq ?_; refine blk_put (cs := #[.int .i64 0, .int .i64 0, .int .i64 0, .int .i64 0, .int .i64 0, .string (⟨#[]⟩ : ByteArray), .string (⟨#[]⟩ : ByteArray)]) ?_ 0 _ rfl; refine kq ?_; exact BK270.out) Tryd.underlying43 rfl (by kernel_rfl)) rfl ?_
   exact ⟨gz, (bz1 HB.out GE270.out)⟩
  ·rw [if_neg c5] at H
   have c5b0 : (a0.toList == ([97, 112, 112] : List UInt8)) = false := beq_eq_false_iff_ne.mpr c5
   have c5b1 : (a0.toList != ([97, 112, 112] : List UInt8)) = true := bne_iff_ne.mpr c5
   by_cases c8 : a0.toList = ([108, 101, 116] : List UInt8)
   ·rw [if_pos c8] at H
    have c8b0 : (a0.toList == ([108, 101, 116] : List UInt8)) = true := beq_iff_eq.mpr c8
    have c8b1 : (a0.toList != ([108, 101, 116] : List UInt8)) = false := bne_eq_false_iff_eq.mpr c8
    clear c8
    simp only [Option.some.injEq, Prod.mk.injEq] at H
    obtain ⟨rfl, rfl, rfl, rfl, rfl, rfl, rfl, rfl⟩ := H
    go_enter Tryd.func72, Tryd.ntmps72
    go_wp2_with (first | ((with_reducible refine gate_dst (N := 2) rfl ?_); refine box_event ?hg (N := 2) ?hd (cs := #[.int .i64 0, .int .i64 0, .int .i64 0, .int .i64 0, .int .i64 0, .string (⟨#[]⟩ : ByteArray), .string (⟨#[]⟩ : ByteArray)]) (t := 43) ?hr ?_; (case hd => rfl); (case hg => rfl); (case hr => exact vz); intro gb270 hg w9 hbox hb; have BK270 := Aside0.mk (hbox); have GW270 := Aside0.mk ((by rw [hg]; exact (below_size (bz0 HB.out)) : w.heap.size <= gb270)); have GE270 := Aside0.mk ((by rw [hg]; exact (below_size (bz0 HB.out)) : w.heap.size <= gb270)); replace HB := Aside0.mk (below_step (bz0 HB.out) hb); clear hb hbox hg; obtain ⟨hcz10_0, hcz10_1, hcz10_2, hcz10_3, hcz10_4, hcz10_5, hcz10_6⟩ := cz7 BK270.out; obtain ⟨hfz10_0, hfz10_1, hfz10_2, hfz10_3, hfz10_4, hfz10_5, hfz10_6⟩ := fz7 BK270.out))
    refine bodyPost_ret (results_ct rfl _ _ gb270 43 #[.int .i64 5, .int .i64 0, .int .i64 0, .int .i64 0, .int .i64 0, .string (⟨#[]⟩ : ByteArray), .string (⟨#[]⟩ : ByteArray)] (0, 0) _ rfl (by refine kq ?_; refine blk_put (cs := #[.int .i64 5, .int .i64 0, .int .i64 0, .int .i64 0, .int .i64 0, .string (⟨#[]⟩ : ByteArray), .string (⟨#[]⟩ : ByteArray)]) ?_ 6 _ rfl; refine kq ?_; refine blk_put (cs := #[.int .i64 5, .int .i64 0, .int .i64 0, .int .i64 0, .int .i64 0, .string (⟨#[]⟩ : ByteArray), .string (⟨#[]⟩ : ByteArray)]) ?_ 5 _ rfl; refine kq ?_; refine blk_put (cs := #[.int .i64 5, .int .i64 0, .int .i64 0, .int .i64 0, .int .i64 0, .string (⟨#[]⟩ : ByteArray), .string (⟨#[]⟩ : ByteArray)]) ?_ 4 _ rfl; refine kq ?_; refine blk_put (cs := #[.int .i64 5, .int .i64 0, .int .i64 0, .int .i64 0, .int .i64 0, .string (⟨#[]⟩ : ByteArray), .string (⟨#[]⟩ : ByteArray)]) ?_ 3 _ rfl; refine kq ?_; refine blk_put (cs := #[.int .i64 5, .int .i64 0, .int .i64 0, .int .i64 0, .int .i64 0, .string (⟨#[]⟩ : ByteArray), .string (⟨#[]⟩ : ByteArray)]) ?_ 2 _ rfl; refine kq ?_; refine blk_put (cs := #[.int .i64 5, .int .i64 0, .int .i64 0, .int .i64 0, .int .i64 0, .string (⟨#[]⟩ : ByteArray), .string (⟨#[]⟩ : ByteArray)]) ?_ 1 _ rfl; refine kq ?_; refine blk_put (cs := #[.int .i64 0, .int .i64 0, .int .i64 0, .int .i64 0, .int .i64 0, .string (⟨#[]⟩ : ByteArray), .string (⟨#[]⟩ : ByteArray)]) ?_ 0 _ rfl; refine kq ?_; exact BK270.out) Tryd.underlying43 rfl (by kernel_rfl)) rfl ?_
    exact ⟨gz, (bz1 HB.out GE270.out)⟩
   ·rw [if_neg c8] at H
    have c8b0 : (a0.toList == ([108, 101, 116] : List UInt8)) = false := beq_eq_false_iff_ne.mpr c8
    have c8b1 : (a0.toList != ([108, 101, 116] : List UInt8)) = true := bne_iff_ne.mpr c8
    by_cases c11 : a0.toList = ([114, 101, 99] : List UInt8)
    ·rw [if_pos c11] at H
     have c11b0 : (a0.toList == ([114, 101, 99] : List UInt8)) = true := beq_iff_eq.mpr c11
     have c11b1 : (a0.toList != ([114, 101, 99] : List UInt8)) = false := bne_eq_false_iff_eq.mpr c11
     clear c11
     simp only [Option.some.injEq, Prod.mk.injEq] at H
     obtain ⟨rfl, rfl, rfl, rfl, rfl, rfl, rfl, rfl⟩ := H
     go_enter Tryd.func72, Tryd.ntmps72
     go_wp2_with (first | ((with_reducible refine gate_dst (N := 2) rfl ?_); refine box_event ?hg (N := 2) ?hd (cs := #[.int .i64 0, .int .i64 0, .int .i64 0, .int .i64 0, .int .i64 0, .string (⟨#[]⟩ : ByteArray), .string (⟨#[]⟩ : ByteArray)]) (t := 43) ?hr ?_; (case hd => rfl); (case hg => rfl); (case hr => exact vz); intro gb270 hg w12 hbox hb; have BK270 := Aside0.mk (hbox); have GW270 := Aside0.mk ((by rw [hg]; exact (below_size (bz0 HB.out)) : w.heap.size <= gb270)); have GE270 := Aside0.mk ((by rw [hg]; exact (below_size (bz0 HB.out)) : w.heap.size <= gb270)); replace HB := Aside0.mk (below_step (bz0 HB.out) hb); clear hb hbox hg; obtain ⟨hcz13_0, hcz13_1, hcz13_2, hcz13_3, hcz13_4, hcz13_5, hcz13_6⟩ := cz7 BK270.out; obtain ⟨hfz13_0, hfz13_1, hfz13_2, hfz13_3, hfz13_4, hfz13_5, hfz13_6⟩ := fz7 BK270.out))
     refine bodyPost_ret (results_ct rfl _ _ gb270 43 #[.int .i64 6, .int .i64 0, .int .i64 0, .int .i64 0, .int .i64 0, .string (⟨#[]⟩ : ByteArray), .string (⟨#[]⟩ : ByteArray)] (0, 0) _ rfl (by refine kq ?_; refine blk_put (cs := #[.int .i64 6, .int .i64 0, .int .i64 0, .int .i64 0, .int .i64 0, .string (⟨#[]⟩ : ByteArray), .string (⟨#[]⟩ : ByteArray)]) ?_ 6 _ rfl; refine kq ?_; refine blk_put (cs := #[.int .i64 6, .int .i64 0, .int .i64 0, .int .i64 0, .int .i64 0, .string (⟨#[]⟩ : ByteArray), .string (⟨#[]⟩ : ByteArray)]) ?_ 5 _ rfl; refine kq ?_; refine blk_put (cs := #[.int .i64 6, .int .i64 0, .int .i64 0, .int .i64 0, .int .i64 0, .string (⟨#[]⟩ : ByteArray), .string (⟨#[]⟩ : ByteArray)]) ?_ 4 _ rfl; refine kq ?_; refine blk_put (cs := #[.int .i64 6, .int .i64 0, .int .i64 0, .int .i64 0, .int .i64 0, .string (⟨#[]⟩ : ByteArray), .string (⟨#[]⟩ : ByteArray)]) ?_ 3 _ rfl; refine kq ?_; refine blk_put (cs := #[.int .i64 6, .int .i64 0, .int .i64 0, .int .i64 0, .int .i64 0, .string (⟨#[]⟩ : ByteArray), .string (⟨#[]⟩ : ByteArray)]) ?_ 2 _ rfl; refine kq ?_; refine blk_put (cs := #[.int .i64 6, .int .i64 0, .int .i64 0, .int .i64 0, .int .i64 0, .string (⟨#[]⟩ : ByteArray), .string (⟨#[]⟩ : ByteArray)]) ?_ 1 _ rfl; refine kq ?_; refine blk_put (cs := #[.int .i64 0, .int .i64 0, .int .i64 0, .int .i64 0, .int .i64 0, .string (⟨#[]⟩ : ByteArray), .string (⟨#[]⟩ : ByteArray)]) ?_ 0 _ rfl; refine kq ?_; exact BK270.out) Tryd.underlying43 rfl (by kernel_rfl)) rfl ?_
     exact ⟨gz, (bz1 HB.out GE270.out)⟩
    ·rw [if_neg c11] at H
     have c11b0 : (a0.toList == ([114, 101, 99] : List UInt8)) = false := beq_eq_false_iff_ne.mpr c11
     have c11b1 : (a0.toList != ([114, 101, 99] : List UInt8)) = true := bne_iff_ne.mpr c11
     by_cases c14 : a0.toList = ([105, 102] : List UInt8)
     ·rw [if_pos c14] at H
      have c14b0 : (a0.toList == ([105, 102] : List UInt8)) = true := beq_iff_eq.mpr c14
      have c14b1 : (a0.toList != ([105, 102] : List UInt8)) = false := bne_eq_false_iff_eq.mpr c14
      clear c14
      simp only [Option.some.injEq, Prod.mk.injEq] at H
      obtain ⟨rfl, rfl, rfl, rfl, rfl, rfl, rfl, rfl⟩ := H
      go_enter Tryd.func72, Tryd.ntmps72
      go_wp2_with (first | ((with_reducible refine gate_dst (N := 2) rfl ?_); refine box_event ?hg (N := 2) ?hd (cs := #[.int .i64 0, .int .i64 0, .int .i64 0, .int .i64 0, .int .i64 0, .string (⟨#[]⟩ : ByteArray), .string (⟨#[]⟩ : ByteArray)]) (t := 43) ?hr ?_; (case hd => rfl); (case hg => rfl); (case hr => exact vz); intro gb270 hg w15 hbox hb; have BK270 := Aside0.mk (hbox); have GW270 := Aside0.mk ((by rw [hg]; exact (below_size (bz0 HB.out)) : w.heap.size <= gb270)); have GE270 := Aside0.mk ((by rw [hg]; exact (below_size (bz0 HB.out)) : w.heap.size <= gb270)); replace HB := Aside0.mk (below_step (bz0 HB.out) hb); clear hb hbox hg; obtain ⟨hcz16_0, hcz16_1, hcz16_2, hcz16_3, hcz16_4, hcz16_5, hcz16_6⟩ := cz7 BK270.out; obtain ⟨hfz16_0, hfz16_1, hfz16_2, hfz16_3, hfz16_4, hfz16_5, hfz16_6⟩ := fz7 BK270.out))
      refine bodyPost_ret (results_ct rfl _ _ gb270 43 #[.int .i64 7, .int .i64 0, .int .i64 0, .int .i64 0, .int .i64 0, .string (⟨#[]⟩ : ByteArray), .string (⟨#[]⟩ : ByteArray)] (0, 0) _ rfl (by refine kq ?_; refine blk_put (cs := #[.int .i64 7, .int .i64 0, .int .i64 0, .int .i64 0, .int .i64 0, .string (⟨#[]⟩ : ByteArray), .string (⟨#[]⟩ : ByteArray)]) ?_ 6 _ rfl; refine kq ?_; refine blk_put (cs := #[.int .i64 7, .int .i64 0, .int .i64 0, .int .i64 0, .int .i64 0, .string (⟨#[]⟩ : ByteArray), .string (⟨#[]⟩ : ByteArray)]) ?_ 5 _ rfl; refine kq ?_; refine blk_put (cs := #[.int .i64 7, .int .i64 0, .int .i64 0, .int .i64 0, .int .i64 0, .string (⟨#[]⟩ : ByteArray), .string (⟨#[]⟩ : ByteArray)]) ?_ 4 _ rfl; refine kq ?_; refine blk_put (cs := #[.int .i64 7, .int .i64 0, .int .i64 0, .int .i64 0, .int .i64 0, .string (⟨#[]⟩ : ByteArray), .string (⟨#[]⟩ : ByteArray)]) ?_ 3 _ rfl; refine kq ?_; refine blk_put (cs := #[.int .i64 7, .int .i64 0, .int .i64 0, .int .i64 0, .int .i64 0, .string (⟨#[]⟩ : ByteArray), .string (⟨#[]⟩ : ByteArray)]) ?_ 2 _ rfl; refine kq ?_; refine blk_put (cs := #[.int .i64 7, .int .i64 0, .int .i64 0, .int .i64 0, .int .i64 0, .string (⟨#[]⟩ : ByteArray), .string (⟨#[]⟩ : ByteArray)]) ?_ 1 _ rfl; refine kq ?_; refine blk_put (cs := #[.int .i64 0, .int .i64 0, .int .i64 0, .int .i64 0, .int .i64 0, .string (⟨#[]⟩ : ByteArray), .string (⟨#[]⟩ : ByteArray)]) ?_ 0 _ rfl; refine kq ?_; exact BK270.out) Tryd.underlying43 rfl (by kernel_rfl)) rfl ?_
      exact ⟨gz, (bz1 HB.out GE270.out)⟩
     ·rw [if_neg c14] at H
      have c14b0 : (a0.toList == ([105, 102] : List UInt8)) = false := beq_eq_false_iff_ne.mpr c14
      have c14b1 : (a0.toList != ([105, 102] : List UInt8)) = true := bne_iff_ne.mpr c14
      by_cases c17 : a0.toList = ([97, 100, 100] : List UInt8)
      ·rw [if_pos c17] at H
       have c17b0 : (a0.toList == ([97, 100, 100] : List UInt8)) = true := beq_iff_eq.mpr c17
       have c17b1 : (a0.toList != ([97, 100, 100] : List UInt8)) = false := bne_eq_false_iff_eq.mpr c17
       clear c17
       simp only [Option.some.injEq, Prod.mk.injEq] at H
       obtain ⟨rfl, rfl, rfl, rfl, rfl, rfl, rfl, rfl⟩ := H
       go_enter Tryd.func72, Tryd.ntmps72
       go_wp2_with (first | ((with_reducible refine gate_dst (N := 2) rfl ?_); refine box_event ?hg (N := 2) ?hd (cs := #[.int .i64 0, .int .i64 0, .int .i64 0, .int .i64 0, .int .i64 0, .string (⟨#[]⟩ : ByteArray), .string (⟨#[]⟩ : ByteArray)]) (t := 43) ?hr ?_; (case hd => rfl); (case hg => rfl); (case hr => exact vz); intro gb270 hg w18 hbox hb; have BK270 := Aside0.mk (hbox); have GW270 := Aside0.mk ((by rw [hg]; exact (below_size (bz0 HB.out)) : w.heap.size <= gb270)); have GE270 := Aside0.mk ((by rw [hg]; exact (below_size (bz0 HB.out)) : w.heap.size <= gb270)); replace HB := Aside0.mk (below_step (bz0 HB.out) hb); clear hb hbox hg; obtain ⟨hcz19_0, hcz19_1, hcz19_2, hcz19_3, hcz19_4, hcz19_5, hcz19_6⟩ := cz7 BK270.out; obtain ⟨hfz19_0, hfz19_1, hfz19_2, hfz19_3, hfz19_4, hfz19_5, hfz19_6⟩ := fz7 BK270.out))
       refine bodyPost_ret (results_ct rfl _ _ gb270 43 #[.int .i64 8, .int .i64 0, .int .i64 0, .int .i64 0, .int .i64 0, .string (⟨#[]⟩ : ByteArray), .string (⟨#[]⟩ : ByteArray)] (0, 0) _ rfl (by refine kq ?_; refine blk_put (cs := #[.int .i64 8, .int .i64 0, .int .i64 0, .int .i64 0, .int .i64 0, .string (⟨#[]⟩ : ByteArray), .string (⟨#[]⟩ : ByteArray)]) ?_ 6 _ rfl; refine kq ?_; refine blk_put (cs := #[.int .i64 8, .int .i64 0, .int .i64 0, .int .i64 0, .int .i64 0, .string (⟨#[]⟩ : ByteArray), .string (⟨#[]⟩ : ByteArray)]) ?_ 5 _ rfl; refine kq ?_; refine blk_put (cs := #[.int .i64 8, .int .i64 0, .int .i64 0, .int .i64 0, .int .i64 0, .string (⟨#[]⟩ : ByteArray), .string (⟨#[]⟩ : ByteArray)]) ?_ 4 _ rfl; refine kq ?_; refine blk_put (cs := #[.int .i64 8, .int .i64 0, .int .i64 0, .int .i64 0, .int .i64 0, .string (⟨#[]⟩ : ByteArray), .string (⟨#[]⟩ : ByteArray)]) ?_ 3 _ rfl; refine kq ?_; refine blk_put (cs := #[.int .i64 8, .int .i64 0, .int .i64 0, .int .i64 0, .int .i64 0, .string (⟨#[]⟩ : ByteArray), .string (⟨#[]⟩ : ByteArray)]) ?_ 2 _ rfl; refine kq ?_; refine blk_put (cs := #[.int .i64 8, .int .i64 0, .int .i64 0, .int .i64 0, .int .i64 0, .string (⟨#[]⟩ : ByteArray), .string (⟨#[]⟩ : ByteArray)]) ?_ 1 _ rfl; refine kq ?_; refine blk_put (cs := #[.int .i64 0, .int .i64 0, .int .i64 0, .int .i64 0, .int .i64 0, .string (⟨#[]⟩ : ByteArray), .string (⟨#[]⟩ : ByteArray)]) ?_ 0 _ rfl; refine kq ?_; exact BK270.out) Tryd.underlying43 rfl (by kernel_rfl)) rfl ?_
       exact ⟨gz, (bz1 HB.out GE270.out)⟩
      ·rw [if_neg c17] at H
       have c17b0 : (a0.toList == ([97, 100, 100] : List UInt8)) = false := beq_eq_false_iff_ne.mpr c17
       have c17b1 : (a0.toList != ([97, 100, 100] : List UInt8)) = true := bne_iff_ne.mpr c17
       by_cases c20 : a0.toList = ([115, 117, 98] : List UInt8)
       ·rw [if_pos c20] at H
        have c20b0 : (a0.toList == ([115, 117, 98] : List UInt8)) = true := beq_iff_eq.mpr c20
        have c20b1 : (a0.toList != ([115, 117, 98] : List UInt8)) = false := bne_eq_false_iff_eq.mpr c20
        clear c20
        simp only [Option.some.injEq, Prod.mk.injEq] at H
        obtain ⟨rfl, rfl, rfl, rfl, rfl, rfl, rfl, rfl⟩ := H
        go_enter Tryd.func72, Tryd.ntmps72
        go_wp2_with (first | ((with_reducible refine gate_dst (N := 2) rfl ?_); refine box_event ?hg (N := 2) ?hd (cs := #[.int .i64 0, .int .i64 0, .int .i64 0, .int .i64 0, .int .i64 0, .string (⟨#[]⟩ : ByteArray), .string (⟨#[]⟩ : ByteArray)]) (t := 43) ?hr ?_; (case hd => rfl); (case hg => rfl); (case hr => exact vz); intro gb270 hg w21 hbox hb; have BK270 := Aside0.mk (hbox); have GW270 := Aside0.mk ((by rw [hg]; exact (below_size (bz0 HB.out)) : w.heap.size <= gb270)); have GE270 := Aside0.mk ((by rw [hg]; exact (below_size (bz0 HB.out)) : w.heap.size <= gb270)); replace HB := Aside0.mk (below_step (bz0 HB.out) hb); clear hb hbox hg; obtain ⟨hcz22_0, hcz22_1, hcz22_2, hcz22_3, hcz22_4, hcz22_5, hcz22_6⟩ := cz7 BK270.out; obtain ⟨hfz22_0, hfz22_1, hfz22_2, hfz22_3, hfz22_4, hfz22_5, hfz22_6⟩ := fz7 BK270.out))
        refine bodyPost_ret (results_ct rfl _ _ gb270 43 #[.int .i64 8, .int .i64 0, .int .i64 0, .int .i64 0, .int .i64 1, .string (⟨#[]⟩ : ByteArray), .string (⟨#[]⟩ : ByteArray)] (0, 0) _ rfl (by refine kq ?_; refine blk_put (cs := #[.int .i64 8, .int .i64 0, .int .i64 0, .int .i64 0, .int .i64 1, .string (⟨#[]⟩ : ByteArray), .string (⟨#[]⟩ : ByteArray)]) ?_ 6 _ rfl; refine kq ?_; refine blk_put (cs := #[.int .i64 8, .int .i64 0, .int .i64 0, .int .i64 0, .int .i64 1, .string (⟨#[]⟩ : ByteArray), .string (⟨#[]⟩ : ByteArray)]) ?_ 5 _ rfl; refine kq ?_; refine blk_put (cs := #[.int .i64 8, .int .i64 0, .int .i64 0, .int .i64 0, .int .i64 0, .string (⟨#[]⟩ : ByteArray), .string (⟨#[]⟩ : ByteArray)]) ?_ 4 _ rfl; refine kq ?_; refine blk_put (cs := #[.int .i64 8, .int .i64 0, .int .i64 0, .int .i64 0, .int .i64 0, .string (⟨#[]⟩ : ByteArray), .string (⟨#[]⟩ : ByteArray)]) ?_ 3 _ rfl; refine kq ?_; refine blk_put (cs := #[.int .i64 8, .int .i64 0, .int .i64 0, .int .i64 0, .int .i64 0, .string (⟨#[]⟩ : ByteArray), .string (⟨#[]⟩ : ByteArray)]) ?_ 2 _ rfl; refine kq ?_; refine blk_put (cs := #[.int .i64 8, .int .i64 0, .int .i64 0, .int .i64 0, .int .i64 0, .string (⟨#[]⟩ : ByteArray), .string (⟨#[]⟩ : ByteArray)]) ?_ 1 _ rfl; refine kq ?_; refine blk_put (cs := #[.int .i64 0, .int .i64 0, .int .i64 0, .int .i64 0, .int .i64 0, .string (⟨#[]⟩ : ByteArray), .string (⟨#[]⟩ : ByteArray)]) ?_ 0 _ rfl; refine kq ?_; exact BK270.out) Tryd.underlying43 rfl (by kernel_rfl)) rfl ?_
        exact ⟨gz, (bz1 HB.out GE270.out)⟩
       ·rw [if_neg c20] at H
        have c20b0 : (a0.toList == ([115, 117, 98] : List UInt8)) = false := beq_eq_false_iff_ne.mpr c20
        have c20b1 : (a0.toList != ([115, 117, 98] : List UInt8)) = true := bne_iff_ne.mpr c20
        by_cases c23 : a0.toList = ([108, 101, 115, 115] : List UInt8)
        ·rw [if_pos c23] at H
         have c23b0 : (a0.toList == ([108, 101, 115, 115] : List UInt8)) = true := beq_iff_eq.mpr c23
         have c23b1 : (a0.toList != ([108, 101, 115, 115] : List UInt8)) = false := bne_eq_false_iff_eq.mpr c23
         clear c23
         simp only [Option.some.injEq, Prod.mk.injEq] at H
         obtain ⟨rfl, rfl, rfl, rfl, rfl, rfl, rfl, rfl⟩ := H
         go_enter Tryd.func72, Tryd.ntmps72
         go_wp2_with (first | ((with_reducible refine gate_dst (N := 2) rfl ?_); refine box_event ?hg (N := 2) ?hd (cs := #[.int .i64 0, .int .i64 0, .int .i64 0, .int .i64 0, .int .i64 0, .string (⟨#[]⟩ : ByteArray), .string (⟨#[]⟩ : ByteArray)]) (t := 43) ?hr ?_; (case hd => rfl); (case hg => rfl); (case hr => exact vz); intro gb270 hg w24 hbox hb; have BK270 := Aside0.mk (hbox); have GW270 := Aside0.mk ((by rw [hg]; exact (below_size (bz0 HB.out)) : w.heap.size <= gb270)); have GE270 := Aside0.mk ((by rw [hg]; exact (below_size (bz0 HB.out)) : w.heap.size <= gb270)); replace HB := Aside0.mk (below_step (bz0 HB.out) hb); clear hb hbox hg; obtain ⟨hcz25_0, hcz25_1, hcz25_2, hcz25_3, hcz25_4, hcz25_5, hcz25_6⟩ := cz7 BK270.out; obtain ⟨hfz25_0, hfz25_1, hfz25_2, hfz25_3, hfz25_4, hfz25_5, hfz25_6⟩ := fz7 BK270.out))
         refine bodyPost_ret (results_ct rfl _ _ gb270 43 #[.int .i64 8, .int .i64 0, .int .i64 0, .int .i64 0, .int .i64 2, .string (⟨#[]⟩ : ByteArray), .string (⟨#[]⟩ : ByteArray)] (0, 0) _ rfl (by refine kq ?_; refine blk_put (cs := #[.int .i64 8, .int .i64 0, .int .i64 0, .int .i64 0, .int .i64 2, .string (⟨#[]⟩ : ByteArray), .string (⟨#[]⟩ : ByteArray)]) ?_ 6 _ rfl; refine kq ?_; refine blk_put (cs := #[.int .i64 8, .int .i64 0, .int .i64 0, .int .i64 0, .int .i64 2, .string (⟨#[]⟩ : ByteArray), .string (⟨#[]⟩ : ByteArray)]) ?_ 5 _ rfl; refine kq ?_; refine blk_put (cs := #[.int .i64 8, .int .i64 0, .int .i64 0, .int .i64 0, .int .i64 0, .string (⟨#[]⟩ : ByteArray), .string (⟨#[]⟩ : ByteArray)]) ?_ 4 _ rfl; refine kq ?_; refine blk_put (cs := #[.int .i64 8, .int .i64 0, .int .i64 0, .int .i64 0, .int .i64 0, .string (⟨#[]⟩ : ByteArray), .string (⟨#[]⟩ : ByteArray)]) ?_ 3 _ rfl; refine kq ?_; refine blk_put (cs := #[.int .i64 8, .int .i64 0, .int .i64 0, .int .i64 0, .int .i64 0, .string (⟨#[]⟩ : ByteArray), .string (⟨#[]⟩ : ByteArray)]) ?_ 2 _ rfl; refine kq ?_; refine blk_put (cs := #[.int .i64 8, .int .i64 0, .int .i64 0, .int .i64 0, .int .i64 0, .string (⟨#[]⟩ : ByteArray), .string (⟨#[]⟩ : ByteArray)]) ?_ 1 _ rfl; refine kq ?_; refine blk_put (cs := #[.int .i64 0, .int .i64 0, .int .i64 0, .int .i64 0, .int .i64 0, .string (⟨#[]⟩ : ByteArray), .string (⟨#[]⟩ : ByteArray)]) ?_ 0 _ rfl; refine kq ?_; exact BK270.out) Tryd.underlying43 rfl (by kernel_rfl)) rfl ?_
         exact ⟨gz, (bz1 HB.out GE270.out)⟩
        ·rw [if_neg c23] at H
         have c23b0 : (a0.toList == ([108, 101, 115, 115] : List UInt8)) = false := beq_eq_false_iff_ne.mpr c23
         have c23b1 : (a0.toList != ([108, 101, 115, 115] : List UInt8)) = true := bne_iff_ne.mpr c23
         by_cases c26 : a0.toList = ([115, 97, 109, 101] : List UInt8)
         ·rw [if_pos c26] at H
          have c26b0 : (a0.toList == ([115, 97, 109, 101] : List UInt8)) = true := beq_iff_eq.mpr c26
          have c26b1 : (a0.toList != ([115, 97, 109, 101] : List UInt8)) = false := bne_eq_false_iff_eq.mpr c26
          clear c26
          simp only [Option.some.injEq, Prod.mk.injEq] at H
          obtain ⟨rfl, rfl, rfl, rfl, rfl, rfl, rfl, rfl⟩ := H
          go_enter Tryd.func72, Tryd.ntmps72
          go_wp2_with (first | ((with_reducible refine gate_dst (N := 2) rfl ?_); refine box_event ?hg (N := 2) ?hd (cs := #[.int .i64 0, .int .i64 0, .int .i64 0, .int .i64 0, .int .i64 0, .string (⟨#[]⟩ : ByteArray), .string (⟨#[]⟩ : ByteArray)]) (t := 43) ?hr ?_; (case hd => rfl); (case hg => rfl); (case hr => exact vz); intro gb270 hg w27 hbox hb; have BK270 := Aside0.mk (hbox); have GW270 := Aside0.mk ((by rw [hg]; exact (below_size (bz0 HB.out)) : w.heap.size <= gb270)); have GE270 := Aside0.mk ((by rw [hg]; exact (below_size (bz0 HB.out)) : w.heap.size <= gb270)); replace HB := Aside0.mk (below_step (bz0 HB.out) hb); clear hb hbox hg; obtain ⟨hcz28_0, hcz28_1, hcz28_2, hcz28_3, hcz28_4, hcz28_5, hcz28_6⟩ := cz7 BK270.out; obtain ⟨hfz28_0, hfz28_1, hfz28_2, hfz28_3, hfz28_4, hfz28_5, hfz28_6⟩ := fz7 BK270.out))
          refine bodyPost_ret (results_ct rfl _ _ gb270 43 #[.int .i64 8, .int .i64 0, .int .i64 0, .int .i64 0, .int .i64 3, .string (⟨#[]⟩ : ByteArray), .string (⟨#[]⟩ : ByteArray)] (0, 0) _ rfl (by refine kq ?_; refine blk_put (cs := #[.int .i64 8, .int .i64 0, .int .i64 0, .int .i64 0, .int .i64 3, .string (⟨#[]⟩ : ByteArray), .string (⟨#[]⟩ : ByteArray)]) ?_ 6 _ rfl; refine kq ?_; refine blk_put (cs := #[.int .i64 8, .int .i64 0, .int .i64 0, .int .i64 0, .int .i64 3, .string (⟨#[]⟩ : ByteArray), .string (⟨#[]⟩ : ByteArray)]) ?_ 5 _ rfl; refine kq ?_; refine blk_put (cs := #[.int .i64 8, .int .i64 0, .int .i64 0, .int .i64 0, .int .i64 0, .string (⟨#[]⟩ : ByteArray), .string (⟨#[]⟩ : ByteArray)]) ?_ 4 _ rfl; refine kq ?_; refine blk_put (cs := #[.int .i64 8, .int .i64 0, .int .i64 0, .int .i64 0, .int .i64 0, .string (⟨#[]⟩ : ByteArray), .string (⟨#[]⟩ : ByteArray)]) ?_ 3 _ rfl; refine kq ?_; refine blk_put (cs := #[.int .i64 8, .int .i64 0, .int .i64 0, .int .i64 0, .int .i64 0, .string (⟨#[]⟩ : ByteArray), .string (⟨#[]⟩ : ByteArray)]) ?_ 2 _ rfl; refine kq ?_; refine blk_put (cs := #[.int .i64 8, .int .i64 0, .int .i64 0, .int .i64 0, .int .i64 0, .string (⟨#[]⟩ : ByteArray), .string (⟨#[]⟩ : ByteArray)]) ?_ 1 _ rfl; refine kq ?_; refine blk_put (cs := #[.int .i64 0, .int .i64 0, .int .i64 0, .int .i64 0, .int .i64 0, .string (⟨#[]⟩ : ByteArray), .string (⟨#[]⟩ : ByteArray)]) ?_ 0 _ rfl; refine kq ?_; exact BK270.out) Tryd.underlying43 rfl (by kernel_rfl)) rfl ?_
          exact ⟨gz, (bz1 HB.out GE270.out)⟩
         ·rw [if_neg c26] at H
          have c26b0 : (a0.toList == ([115, 97, 109, 101] : List UInt8)) = false := beq_eq_false_iff_ne.mpr c26
          have c26b1 : (a0.toList != ([115, 97, 109, 101] : List UInt8)) = true := bne_iff_ne.mpr c26
          by_cases c29 : a0.toList = ([109, 97, 116, 99, 104] : List UInt8)
          ·rw [if_pos c29] at H
           have c29b0 : (a0.toList == ([109, 97, 116, 99, 104] : List UInt8)) = true := beq_iff_eq.mpr c29
           have c29b1 : (a0.toList != ([109, 97, 116, 99, 104] : List UInt8)) = false := bne_eq_false_iff_eq.mpr c29
           clear c29
           simp only [Option.some.injEq, Prod.mk.injEq] at H
           obtain ⟨rfl, rfl, rfl, rfl, rfl, rfl, rfl, rfl⟩ := H
           go_enter Tryd.func72, Tryd.ntmps72
           go_wp2_with (first | ((with_reducible refine gate_dst (N := 2) rfl ?_); refine box_event ?hg (N := 2) ?hd (cs := #[.int .i64 0, .int .i64 0, .int .i64 0, .int .i64 0, .int .i64 0, .string (⟨#[]⟩ : ByteArray), .string (⟨#[]⟩ : ByteArray)]) (t := 43) ?hr ?_; (case hd => rfl); (case hg => rfl); (case hr => exact vz); intro gb270 hg w30 hbox hb; have BK270 := Aside0.mk (hbox); have GW270 := Aside0.mk ((by rw [hg]; exact (below_size (bz0 HB.out)) : w.heap.size <= gb270)); have GE270 := Aside0.mk ((by rw [hg]; exact (below_size (bz0 HB.out)) : w.heap.size <= gb270)); replace HB := Aside0.mk (below_step (bz0 HB.out) hb); clear hb hbox hg; obtain ⟨hcz31_0, hcz31_1, hcz31_2, hcz31_3, hcz31_4, hcz31_5, hcz31_6⟩ := cz7 BK270.out; obtain ⟨hfz31_0, hfz31_1, hfz31_2, hfz31_3, hfz31_4, hfz31_5, hfz31_6⟩ := fz7 BK270.out))
           refine bodyPost_ret (results_ct rfl _ _ gb270 43 #[.int .i64 14, .int .i64 0, .int .i64 0, .int .i64 0, .int .i64 0, .string (⟨#[]⟩ : ByteArray), .string (⟨#[]⟩ : ByteArray)] (0, 0) _ rfl (by refine kq ?_; refine blk_put (cs := #[.int .i64 14, .int .i64 0, .int .i64 0, .int .i64 0, .int .i64 0, .string (⟨#[]⟩ : ByteArray), .string (⟨#[]⟩ : ByteArray)]) ?_ 6 _ rfl; refine kq ?_; refine blk_put (cs := #[.int .i64 14, .int .i64 0, .int .i64 0, .int .i64 0, .int .i64 0, .string (⟨#[]⟩ : ByteArray), .string (⟨#[]⟩ : ByteArray)]) ?_ 5 _ rfl; refine kq ?_; refine blk_put (cs := #[.int .i64 14, .int .i64 0, .int .i64 0, .int .i64 0, .int .i64 0, .string (⟨#[]⟩ : ByteArray), .string (⟨#[]⟩ : ByteArray)]) ?_ 4 _ rfl; refine kq ?_; refine blk_put (cs := #[.int .i64 14, .int .i64 0, .int .i64 0, .int .i64 0, .int .i64 0, .string (⟨#[]⟩ : ByteArray), .string (⟨#[]⟩ : ByteArray)]) ?_ 3 _ rfl; refine kq ?_; refine blk_put (cs := #[.int .i64 14, .int .i64 0, .int .i64 0, .int .i64 0, .int .i64 0, .string (⟨#[]⟩ : ByteArray), .string (⟨#[]⟩ : ByteArray)]) ?_ 2 _ rfl; refine kq ?_; refine blk_put (cs := #[.int .i64 14, .int .i64 0, .int .i64 0, .int .i64 0, .int .i64 0, .string (⟨#[]⟩ : ByteArray), .string (⟨#[]⟩ : ByteArray)]) ?_ 1 _ rfl; refine kq ?_; refine blk_put (cs := #[.int .i64 0, .int .i64 0, .int .i64 0, .int .i64 0, .int .i64 0, .string (⟨#[]⟩ : ByteArray), .string (⟨#[]⟩ : ByteArray)]) ?_ 0 _ rfl; refine kq ?_; exact BK270.out) Tryd.underlying43 rfl (by kernel_rfl)) rfl ?_
           exact ⟨gz, (bz1 HB.out GE270.out)⟩
          ·rw [if_neg c29] at H
           have c29b0 : (a0.toList == ([109, 97, 116, 99, 104] : List UInt8)) = false := beq_eq_false_iff_ne.mpr c29
           have c29b1 : (a0.toList != ([109, 97, 116, 99, 104] : List UInt8)) = true := bne_iff_ne.mpr c29
           by_cases c32 : a0.toList = ([116, 114, 121] : List UInt8)
           ·rw [if_pos c32] at H
            have c32b0 : (a0.toList == ([116, 114, 121] : List UInt8)) = true := beq_iff_eq.mpr c32
            have c32b1 : (a0.toList != ([116, 114, 121] : List UInt8)) = false := bne_eq_false_iff_eq.mpr c32
            clear c32
            simp only [Option.some.injEq, Prod.mk.injEq] at H
            obtain ⟨rfl, rfl, rfl, rfl, rfl, rfl, rfl, rfl⟩ := H
            go_enter Tryd.func72, Tryd.ntmps72
            go_wp2_with (first | ((with_reducible refine gate_dst (N := 2) rfl ?_); refine box_event ?hg (N := 2) ?hd (cs := #[.int .i64 0, .int .i64 0, .int .i64 0, .int .i64 0, .int .i64 0, .string (⟨#[]⟩ : ByteArray), .string (⟨#[]⟩ : ByteArray)]) (t := 43) ?hr ?_; (case hd => rfl); (case hg => rfl); (case hr => exact vz); intro gb270 hg w33 hbox hb; have BK270 := Aside0.mk (hbox); have GW270 := Aside0.mk ((by rw [hg]; exact (below_size (bz0 HB.out)) : w.heap.size <= gb270)); have GE270 := Aside0.mk ((by rw [hg]; exact (below_size (bz0 HB.out)) : w.heap.size <= gb270)); replace HB := Aside0.mk (below_step (bz0 HB.out) hb); clear hb hbox hg; obtain ⟨hcz34_0, hcz34_1, hcz34_2, hcz34_3, hcz34_4, hcz34_5, hcz34_6⟩ := cz7 BK270.out; obtain ⟨hfz34_0, hfz34_1, hfz34_2, hfz34_3, hfz34_4, hfz34_5, hfz34_6⟩ := fz7 BK270.out))
            refine bodyPost_ret (results_ct rfl _ _ gb270 43 #[.int .i64 19, .int .i64 0, .int .i64 0, .int .i64 0, .int .i64 0, .string (⟨#[]⟩ : ByteArray), .string (⟨#[]⟩ : ByteArray)] (0, 0) _ rfl (by refine kq ?_; refine blk_put (cs := #[.int .i64 19, .int .i64 0, .int .i64 0, .int .i64 0, .int .i64 0, .string (⟨#[]⟩ : ByteArray), .string (⟨#[]⟩ : ByteArray)]) ?_ 6 _ rfl; refine kq ?_; refine blk_put (cs := #[.int .i64 19, .int .i64 0, .int .i64 0, .int .i64 0, .int .i64 0, .string (⟨#[]⟩ : ByteArray), .string (⟨#[]⟩ : ByteArray)]) ?_ 5 _ rfl; refine kq ?_; refine blk_put (cs := #[.int .i64 19, .int .i64 0, .int .i64 0, .int .i64 0, .int .i64 0, .string (⟨#[]⟩ : ByteArray), .string (⟨#[]⟩ : ByteArray)]) ?_ 4 _ rfl; refine kq ?_; refine blk_put (cs := #[.int .i64 19, .int .i64 0, .int .i64 0, .int .i64 0, .int .i64 0, .string (⟨#[]⟩ : ByteArray), .string (⟨#[]⟩ : ByteArray)]) ?_ 3 _ rfl; refine kq ?_; refine blk_put (cs := #[.int .i64 19, .int .i64 0, .int .i64 0, .int .i64 0, .int .i64 0, .string (⟨#[]⟩ : ByteArray), .string (⟨#[]⟩ : ByteArray)]) ?_ 2 _ rfl; refine kq ?_; refine blk_put (cs := #[.int .i64 19, .int .i64 0, .int .i64 0, .int .i64 0, .int .i64 0, .string (⟨#[]⟩ : ByteArray), .string (⟨#[]⟩ : ByteArray)]) ?_ 1 _ rfl; refine kq ?_; refine blk_put (cs := #[.int .i64 0, .int .i64 0, .int .i64 0, .int .i64 0, .int .i64 0, .string (⟨#[]⟩ : ByteArray), .string (⟨#[]⟩ : ByteArray)]) ?_ 0 _ rfl; refine kq ?_; exact BK270.out) Tryd.underlying43 rfl (by kernel_rfl)) rfl ?_
            exact ⟨gz, (bz1 HB.out GE270.out)⟩
           ·rw [if_neg c32] at H
            have c32b0 : (a0.toList == ([116, 114, 121] : List UInt8)) = false := beq_eq_false_iff_ne.mpr c32
            have c32b1 : (a0.toList != ([116, 114, 121] : List UInt8)) = true := bne_iff_ne.mpr c32
            replace H := bi H
            obtain ⟨⟨t271, t272, t273, t274, t275, t276, t277, t278⟩, A350, H⟩ := H
            try dsimp only at H
            have A35 := Aside0.mk A350
            clear A350
            simp only [Option.some.injEq, Prod.mk.injEq] at H
            obtain ⟨rfl, rfl, rfl, rfl, rfl, rfl, rfl, rfl⟩ := H
            go_enter Tryd.func72, Tryd.ntmps72
            go_wp2_with (first | ((with_reducible refine gate_dst (N := 2) rfl ?_); refine box_event ?hg (N := 2) ?hd (cs := #[.int .i64 0, .int .i64 0, .int .i64 0, .int .i64 0, .int .i64 0, .string (⟨#[]⟩ : ByteArray), .string (⟨#[]⟩ : ByteArray)]) (t := 43) ?hr ?_; (case hd => rfl); (case hg => rfl); (case hr => exact vz); intro gb270 hg w36 hbox hb; have BK270 := Aside0.mk (hbox); have GW270 := Aside0.mk ((by rw [hg]; exact (below_size (bz0 HB.out)) : w.heap.size <= gb270)); have GE270 := Aside0.mk ((by rw [hg]; exact (below_size (bz0 HB.out)) : w.heap.size <= gb270)); replace HB := Aside0.mk (below_step (bz0 HB.out) hb); clear hb hbox hg) | ((with_reducible refine gate_callee (f := 86) rfl ?_); refine goesL_ (some 39) rfl rfl Tryd.func86 (by kernel_rfl) rfl #[.string a0] rfl lz ?_; (with_reducible refine (impl_plainForm.calls a0 t271 t272 t273 t274 t275 t276 t277 t278 _ A35.out).mono ?_); rintro e w37 ⟨rfl, hb⟩; refine ⟨_, rfl, ?_⟩; replace BK270 := Aside0.mk (blk_below (kz BK270.out) hb); replace HB := Aside0.mk (below_step (bz1 HB.out GE270.out) hb); (try clear hb); obtain ⟨hcz38_0, hcz38_1, hcz38_2, hcz38_3, hcz38_4, hcz38_5, hcz38_6⟩ := cz7 BK270.out; obtain ⟨hfz38_0, hfz38_1, hfz38_2, hfz38_3, hfz38_4, hfz38_5, hfz38_6⟩ := fz7 BK270.out))
            refine bodyPost_ret (results_ct rfl _ _ gb270 43 #[.int .i64 t271, .int .i64 t272, .int .i64 t273, .int .i64 t274, .int .i64 t275, .string t276, .string t277] (0, 0) _ rfl (by refine kq ?_; refine blk_put (cs := #[.int .i64 t271, .int .i64 t272, .int .i64 t273, .int .i64 t274, .int .i64 t275, .string t276, .string (⟨#[]⟩ : ByteArray)]) ?_ 6 _ rfl; refine kq ?_; refine blk_put (cs := #[.int .i64 t271, .int .i64 t272, .int .i64 t273, .int .i64 t274, .int .i64 t275, .string (⟨#[]⟩ : ByteArray), .string (⟨#[]⟩ : ByteArray)]) ?_ 5 _ rfl; refine kq ?_; refine blk_put (cs := #[.int .i64 t271, .int .i64 t272, .int .i64 t273, .int .i64 t274, .int .i64 0, .string (⟨#[]⟩ : ByteArray), .string (⟨#[]⟩ : ByteArray)]) ?_ 4 _ rfl; refine kq ?_; refine blk_put (cs := #[.int .i64 t271, .int .i64 t272, .int .i64 t273, .int .i64 0, .int .i64 0, .string (⟨#[]⟩ : ByteArray), .string (⟨#[]⟩ : ByteArray)]) ?_ 3 _ rfl; refine kq ?_; refine blk_put (cs := #[.int .i64 t271, .int .i64 t272, .int .i64 0, .int .i64 0, .int .i64 0, .string (⟨#[]⟩ : ByteArray), .string (⟨#[]⟩ : ByteArray)]) ?_ 2 _ rfl; refine kq ?_; refine blk_put (cs := #[.int .i64 t271, .int .i64 0, .int .i64 0, .int .i64 0, .int .i64 0, .string (⟨#[]⟩ : ByteArray), .string (⟨#[]⟩ : ByteArray)]) ?_ 1 _ rfl; refine kq ?_; refine blk_put (cs := #[.int .i64 0, .int .i64 0, .int .i64 0, .int .i64 0, .int .i64 0, .string (⟨#[]⟩ : ByteArray), .string (⟨#[]⟩ : ByteArray)]) ?_ 0 _ rfl; refine kq ?_; exact BK270.out) Tryd.underlying43 rfl (by kernel_rfl)) rfl ?_
            exact ⟨gz, (bz1 HB.out GE270.out)⟩
def strings_Join.f (l0 : List ByteArray) (a1 : ByteArray) : Option (ByteArray) := if l0.length <= 140737488355328 then (if (Lib.join (l0.map (·.data.toList)) a1.data.toList).length <= 140737488355328 then (some (⟨(Lib.join (l0.map (·.data.toList)) a1.data.toList).toArray⟩ : ByteArray)) else (none)) else (none)
theorem strings_Join.calls (A0 : Option Addr) (c0 : Nat) (l0 : List ByteArray) (a1 : ByteArray) (r : ByteArray) (w : World) (hr0 : Kd.C Kd.string w A0 l0.length l0) (hc0 : l0.length <= c0) (h : strings_Join.f l0 a1 = some r) :
  Calls Tryd.prog 73 #[.slice A0 l0.length c0, .string a1] w fun e w' => e = .returned (.string r) /\ Below w.heap.size w w' := by
 unfold strings_Join.f at h
 split at h
 ·split at h
  ·rename_i h0 h1
   obtain rfl := Option.some.inj h
   rcases Nat.eq_zero_or_pos l0.length with hz | hz
   ·have e0 : l0 = [] := List.eq_nil_of_length_eq_zero hz
    subst e0
    exact (Tryd.strings_Join_none A0 c0 a1 w).mono fun e w' ⟨h1, h2⟩ => ⟨by rw [h1]; rfl, by rw [h2]; exact Below.refl _ _⟩
   ·obtain ⟨bk, o, rfl, hcells, hbk⟩ := row_at hr0 hz
    exact Tryd.strings_Join bk o c0 l0 a1 w hcells hbk h0 hc0 h1
  ·cases h
 ·cases h
mutual
def impl_printNode.l0 : Nat -> List (S43) -> ByteArray -> List ByteArray -> List ByteArray -> List Int -> Int -> Option (ByteArray)
 | 0, _, _, _, _, _, _ => none
 | k + 1, x0, x8, x9, x10, x11, x12 => if x12 < (x8.size : Int) then (if 0 <= x12 then (if (bt x8 x12) = 110 then (if 0 < (x10.length : Int) then (if x9.length < 8796093022208 then (if 1 <= (x10.length : Int) then (impl_printNode.l0 k x0 x8 (x9 ++ [rdOf ByteArray.empty x10 0]) (x10.drop (1 : Int).toNat) x11 (wrap64 (x12 + 1))) else (none)) else (none)) else (none)) else (if 0 < (x11.length : Int) then ((impl_printNode.f k x0 (rd x11 0)).bind fun t309 => (if x9.length < 8796093022208 then (if 1 <= (x11.length : Int) then (impl_printNode.l0 k x0 x8 (x9 ++ [t309]) x10 (x11.drop 1) (wrap64 (x12 + 1))) else (none)) else (none))) else (none))) else (none)) else ((strings_Join.f x9 (⟨#[32]⟩ : ByteArray)).bind fun t318 => (if 1 + t318.size <= 9223372036854775807 then (if ((⟨#[40]⟩ : ByteArray) ++ t318).size + 1 <= 9223372036854775807 then (some (((⟨#[40]⟩ : ByteArray) ++ t318) ++ (⟨#[41]⟩ : ByteArray))) else (none)) else (none)))
def impl_printNode.f : Nat -> List (S43) -> Int -> Option (ByteArray)
 | 0, _, _ => none
 | k + 1, l0, a1 => if 0 <= a1 then (if a1 < (l0.length : Int) then (if ((rd_T43 l0 a1).f0) = 2 then ((impl_Dec.f ((rd_T43 l0 a1).f4)).bind fun t281 => (some t281)) else (if ((rd_T43 l0 a1).f0) = 1 then (some ((rd_T43 l0 a1).f5)) else (if ((rd_T43 l0 a1).f0) = 12 then (some (⟨#[110, 105, 108]⟩ : ByteArray)) else ((impl_KeyOf.f k ((rd_T43 l0 a1).f0) ((rd_T43 l0 a1).f1) ((rd_T43 l0 a1).f2) ((rd_T43 l0 a1).f3) ((rd_T43 l0 a1).f4) ((rd_T43 l0 a1).f5) ((rd_T43 l0 a1).f6)).bind fun t282 => ((impl_formOf.f t282).bind fun bt283 => ((impl_Kids.f k ((rd_T43 l0 a1).f0) ((rd_T43 l0 a1).f1) ((rd_T43 l0 a1).f2) ((rd_T43 l0 a1).f3) ((rd_T43 l0 a1).f4) ((rd_T43 l0 a1).f5) ((rd_T43 l0 a1).f6)).bind fun t298 => (impl_printNode.l0 k l0 bt283.2.2.2.2.2.2.2 (([t282] : List ByteArray)) (([(rd_T43 l0 a1).f5, (rd_T43 l0 a1).f6] : List ByteArray)) t298 0))))))) else (none)) else (none)
end
theorem impl_printNode.mono_l : ∀ k, (∀ y0 y1, LeO (impl_printNode.f k y0 y1) (impl_printNode.f (k + 1) y0 y1)) /\ (∀ y0 y1 y2 y3 y4 y5, LeO (impl_printNode.l0 k y0 y1 y2 y3 y4 y5) (impl_printNode.l0 (k + 1) y0 y1 y2 y3 y4 y5))
 | 0 => ⟨fun _ _ r h => by simp [impl_printNode.f] at h, fun _ _ _ _ _ _ r h => by simp [impl_printNode.l0] at h⟩
 | k + 1 => by
  obtain ⟨ih0, ih1⟩ := impl_printNode.mono_l k
  refine ⟨?_, ?_⟩
  ·intro y0 y1
   unfold impl_printNode.f
   with_reducible repeat' first | exact ih0 _ _ | exact ih1 _ _ _ _ _ _ | exact impl_KeyOf.mono _ _ _ _ _ _ _ _ | exact impl_Kids.mono _ _ _ _ _ _ _ _ | exact lrz _ | exact lnz _ | refine liz ?_ ?_ | refine lbz ?_ fun _ => ?_
  ·intro y0 y1 y2 y3 y4 y5
   unfold impl_printNode.l0
   with_reducible repeat' first | exact ih0 _ _ | exact ih1 _ _ _ _ _ _ | exact impl_KeyOf.mono _ _ _ _ _ _ _ _ | exact impl_Kids.mono _ _ _ _ _ _ _ _ | exact lrz _ | exact lnz _ | refine liz ?_ ?_ | refine lbz ?_ fun _ => ?_
theorem impl_printNode.mono : ∀ a0 a1 k, LeO (impl_printNode.f k a0 a1) (impl_printNode.f (k + 1) a0 a1) := by
 intro a0 a1 k
 obtain ⟨ih0, ih1⟩ := impl_printNode.mono_l k
 exact ih0 a0 a1
set_option maxHeartbeats 8000000 in
set_option maxRecDepth 100000 in
theorem impl_printNode.calls (k : Nat) : ∀ (A0 : Option Addr) (c0 : Nat) (l0 : List (S43)) (a1 : Int) (r : ByteArray) (w : World) (hr0 : Kd.C k43 w A0 l0.length l0) (hc0 : l0.length <= c0) (h : impl_printNode.f k l0 a1 = some r) (hT_ : PW w),
  Calls Tryd.prog 37 #[.slice A0 l0.length c0, .int .i64 a1] w fun e w' => e = .returned (.string r) /\ Below w.heap.size w w' := by
 induction k using Nat.strongRecOn with
 | _ k ih =>
 intro A0 c0 l0 a1 r w hr0 hc0 h hT_
 cases k with
 | zero => exact absurd h (by simp [impl_printNode.f])
 | succ k =>
 simp only [impl_printNode.f] at h
 have hu43 := Tryd.underlying43
 have HR0 := Aside0.mk hr0
 have HC0 := Aside0.mk hc0
 clear hr0 hc0
 have HB := Aside0.mk (Below.refl w.heap.size w)
 have H : (if 0 <= a1 then (if a1 < (l0.length : Int) then (if ((rd_T43 l0 a1).f0) = 2 then ((impl_Dec.f ((rd_T43 l0 a1).f4)).bind fun t281 => (some t281)) else (if ((rd_T43 l0 a1).f0) = 1 then (some ((rd_T43 l0 a1).f5)) else (if ((rd_T43 l0 a1).f0) = 12 then (some (⟨#[110, 105, 108]⟩ : ByteArray)) else ((impl_KeyOf.f k ((rd_T43 l0 a1).f0) ((rd_T43 l0 a1).f1) ((rd_T43 l0 a1).f2) ((rd_T43 l0 a1).f3) ((rd_T43 l0 a1).f4) ((rd_T43 l0 a1).f5) ((rd_T43 l0 a1).f6)).bind fun t282 => ((impl_formOf.f t282).bind fun bt283 => ((impl_Kids.f k ((rd_T43 l0 a1).f0) ((rd_T43 l0 a1).f1) ((rd_T43 l0 a1).f2) ((rd_T43 l0 a1).f3) ((rd_T43 l0 a1).f4) ((rd_T43 l0 a1).f5) ((rd_T43 l0 a1).f6)).bind fun t298 => (impl_printNode.l0 k l0 bt283.2.2.2.2.2.2.2 (([t282] : List ByteArray)) (([(rd_T43 l0 a1).f5, (rd_T43 l0 a1).f6] : List ByteArray)) t298 0))))))) else (none)) else (none)) = some r := h
 clear h
 replace H := iz H
 obtain ⟨c3, H⟩ := H
 have c3b0 := decide_eq_true c3
 clear c3
 replace H := iz H
 obtain ⟨c4, H⟩ := H
 have c4b0 := decide_eq_true c4
 clear c4
 by_cases c5 : ((rd_T43 l0 a1).f0) = 2
 ·rw [if_pos c5] at H
  have c5b0 : (((rd_T43 l0 a1).f0) == 2) = true := beq_iff_eq.mpr c5
  have c5b1 : (((rd_T43 l0 a1).f0) != 2) = false := bne_eq_false_iff_eq.mpr c5
  clear c5
  replace H := bi H
  obtain ⟨t281, A60, H⟩ := H
  try dsimp only at H
  have A6 := Aside0.mk A60
  clear A60
  obtain rfl := Option.some.inj H
  have p279 : 0 <= (a1 : Int) := oz
  have q279 : a1 < (l0.length : Int) := oz
  obtain ⟨ad279, e279, hx279_0, hx279_1, hx279_2, hx279_3, hx279_4, hx279_5, hx279_6⟩ := at_T43 HR0.out a1 p279 q279
  cases e279
  replace p279 := eq_true p279
  replace q279 := eq_true q279
  go_enter Tryd.func37, Tryd.ntmps37
  go_wp2_with (first | ((with_reducible refine gate_dst (N := 5) rfl ?_); refine box_event ?hg (N := 5) ?hd (cs := #[.int .i64 0, .int .i64 0, .int .i64 0, .int .i64 0, .int .i64 0, .string (⟨#[]⟩ : ByteArray), .string (⟨#[]⟩ : ByteArray)]) (t := 43) ?hr ?_; (case hd => rfl); (case hg => rfl); (case hr => exact vz); intro gb280 hg w7 hbox hb; have BK280 := Aside0.mk (hbox); have GW280 := Aside0.mk ((by rw [hg]; exact (below_size (bz0 HB.out)) : w.heap.size <= gb280)); have GE280 := Aside0.mk ((by rw [hg]; exact (below_size (bz0 HB.out)) : w.heap.size <= gb280)); replace HB := Aside0.mk (below_step (bz0 HB.out) hb); clear hb hbox hg; obtain ⟨hcz8_0, hcz8_1, hcz8_2, hcz8_3, hcz8_4, hcz8_5, hcz8_6⟩ := cz7 BK280.out; obtain ⟨hfz8_0, hfz8_1, hfz8_2, hfz8_3, hfz8_4, hfz8_5, hfz8_6⟩ := fz7 BK280.out) | ((with_reducible refine gate_callee (f := 70) rfl ?_); refine goesL_ (some 23) rfl rfl Tryd.func70 (by kernel_rfl) rfl #[.int .i64 ((rd_T43 l0 a1).f4)] rfl lz ?_; (with_reducible refine (impl_Dec.calls ((rd_T43 l0 a1).f4) t281 _ A6.out ?hT_).mono ?_); (case hT_ => exact PW.below hT_ (bz1 HB.out GE280.out)); rintro e w9 ⟨rfl, hb⟩; refine ⟨_, rfl, ?_⟩; replace BK280 := Aside0.mk (blk_below (g := gb280) (o := .cells #[.int .i64 ((rd_T43 l0 a1).f0), .int .i64 ((rd_T43 l0 a1).f1), .int .i64 ((rd_T43 l0 a1).f2), .int .i64 ((rd_T43 l0 a1).f3), .int .i64 ((rd_T43 l0 a1).f4), .string ((rd_T43 l0 a1).f5), .string ((rd_T43 l0 a1).f6)] 43 (0, 0)) (by refine kq ?_; refine blk_put (cs := #[.int .i64 ((rd_T43 l0 a1).f0), .int .i64 ((rd_T43 l0 a1).f1), .int .i64 ((rd_T43 l0 a1).f2), .int .i64 ((rd_T43 l0 a1).f3), .int .i64 ((rd_T43 l0 a1).f4), .string ((rd_T43 l0 a1).f5), .string (⟨#[]⟩ : ByteArray)]) ?_ 6 _ rfl; refine kq ?_; refine blk_put (cs := #[.int .i64 ((rd_T43 l0 a1).f0), .int .i64 ((rd_T43 l0 a1).f1), .int .i64 ((rd_T43 l0 a1).f2), .int .i64 ((rd_T43 l0 a1).f3), .int .i64 ((rd_T43 l0 a1).f4), .string (⟨#[]⟩ : ByteArray), .string (⟨#[]⟩ : ByteArray)]) ?_ 5 _ rfl; refine kq ?_; refine blk_put (cs := #[.int .i64 ((rd_T43 l0 a1).f0), .int .i64 ((rd_T43 l0 a1).f1), .int .i64 ((rd_T43 l0 a1).f2), .int .i64 ((rd_T43 l0 a1).f3), .int .i64 0, .string (⟨#[]⟩ : ByteArray), .string (⟨#[]⟩ : ByteArray)]) ?_ 4 _ rfl; refine kq ?_; refine blk_put (cs := #[.int .i64 ((rd_T43 l0 a1).f0), .int .i64 ((rd_T43 l0 a1).f1), .int .i64 ((rd_T43 l0 a1).f2), .int .i64 0, .int .i64 0, .string (⟨#[]⟩ : ByteArray), .string (⟨#[]⟩ : ByteArray)]) ?_ 3 _ rfl; refine kq ?_; refine blk_put (cs := #[.int .i64 ((rd_T43 l0 a1).f0), .int .i64 ((rd_T43 l0 a1).f1), .int .i64 0, .int .i64 0, .int .i64 0, .string (⟨#[]⟩ : ByteArray), .string (⟨#[]⟩ : ByteArray)]) ?_ 2 _ rfl; refine kq ?_; refine blk_put (cs := #[.int .i64 ((rd_T43 l0 a1).f0), .int .i64 0, .int .i64 0, .int .i64 0, .int .i64 0, .string (⟨#[]⟩ : ByteArray), .string (⟨#[]⟩ : ByteArray)]) ?_ 1 _ rfl; refine kq ?_; refine blk_put (cs := #[.int .i64 0, .int .i64 0, .int .i64 0, .int .i64 0, .int .i64 0, .string (⟨#[]⟩ : ByteArray), .string (⟨#[]⟩ : ByteArray)]) ?_ 0 _ rfl; refine kq ?_; exact BK280.out) hb); replace HB := Aside0.mk (below_step (bz1 HB.out GE280.out) hb); (try clear hb); (try clear hi)))
  go_ret
  exact ⟨gz, (bz1 HB.out GE280.out)⟩
 ·rw [if_neg c5] at H
  have c5b0 : (((rd_T43 l0 a1).f0) == 2) = false := beq_eq_false_iff_ne.mpr c5
  have c5b1 : (((rd_T43 l0 a1).f0) != 2) = true := bne_iff_ne.mpr c5
  by_cases c10 : ((rd_T43 l0 a1).f0) = 1
  ·rw [if_pos c10] at H
   have c10b0 : (((rd_T43 l0 a1).f0) == 1) = true := beq_iff_eq.mpr c10
   have c10b1 : (((rd_T43 l0 a1).f0) != 1) = false := bne_eq_false_iff_eq.mpr c10
   clear c10
   obtain rfl := Option.some.inj H
   have p279 : 0 <= (a1 : Int) := oz
   have q279 : a1 < (l0.length : Int) := oz
   obtain ⟨ad279, e279, hx279_0, hx279_1, hx279_2, hx279_3, hx279_4, hx279_5, hx279_6⟩ := at_T43 HR0.out a1 p279 q279
   cases e279
   replace p279 := eq_true p279
   replace q279 := eq_true q279
   go_enter Tryd.func37, Tryd.ntmps37
   go_wp2_with (first | ((with_reducible refine gate_dst (N := 5) rfl ?_); refine box_event ?hg (N := 5) ?hd (cs := #[.int .i64 0, .int .i64 0, .int .i64 0, .int .i64 0, .int .i64 0, .string (⟨#[]⟩ : ByteArray), .string (⟨#[]⟩ : ByteArray)]) (t := 43) ?hr ?_; (case hd => rfl); (case hg => rfl); (case hr => exact vz); intro gb280 hg w11 hbox hb; have BK280 := Aside0.mk (hbox); have GW280 := Aside0.mk ((by rw [hg]; exact (below_size (bz0 HB.out)) : w.heap.size <= gb280)); have GE280 := Aside0.mk ((by rw [hg]; exact (below_size (bz0 HB.out)) : w.heap.size <= gb280)); replace HB := Aside0.mk (below_step (bz0 HB.out) hb); clear hb hbox hg; obtain ⟨hcz12_0, hcz12_1, hcz12_2, hcz12_3, hcz12_4, hcz12_5, hcz12_6⟩ := cz7 BK280.out; obtain ⟨hfz12_0, hfz12_1, hfz12_2, hfz12_3, hfz12_4, hfz12_5, hfz12_6⟩ := fz7 BK280.out))
   go_ret
   exact ⟨gz, (bz1 HB.out GE280.out)⟩
  ·rw [if_neg c10] at H
   have c10b0 : (((rd_T43 l0 a1).f0) == 1) = false := beq_eq_false_iff_ne.mpr c10
   have c10b1 : (((rd_T43 l0 a1).f0) != 1) = true := bne_iff_ne.mpr c10
   by_cases c13 : ((rd_T43 l0 a1).f0) = 12
   ·rw [if_pos c13] at H
    have c13b0 : (((rd_T43 l0 a1).f0) == 12) = true := beq_iff_eq.mpr c13
    have c13b1 : (((rd_T43 l0 a1).f0) != 12) = false := bne_eq_false_iff_eq.mpr c13
    clear c13
    obtain rfl := Option.some.inj H
    have p279 : 0 <= (a1 : Int) := oz
    have q279 : a1 < (l0.length : Int) := oz
    obtain ⟨ad279, e279, hx279_0, hx279_1, hx279_2, hx279_3, hx279_4, hx279_5, hx279_6⟩ := at_T43 HR0.out a1 p279 q279
    cases e279
    replace p279 := eq_true p279
    replace q279 := eq_true q279
    go_enter Tryd.func37, Tryd.ntmps37
    go_wp2_with (first | ((with_reducible refine gate_dst (N := 5) rfl ?_); refine box_event ?hg (N := 5) ?hd (cs := #[.int .i64 0, .int .i64 0, .int .i64 0, .int .i64 0, .int .i64 0, .string (⟨#[]⟩ : ByteArray), .string (⟨#[]⟩ : ByteArray)]) (t := 43) ?hr ?_; (case hd => rfl); (case hg => rfl); (case hr => exact vz); intro gb280 hg w14 hbox hb; have BK280 := Aside0.mk (hbox); have GW280 := Aside0.mk ((by rw [hg]; exact (below_size (bz0 HB.out)) : w.heap.size <= gb280)); have GE280 := Aside0.mk ((by rw [hg]; exact (below_size (bz0 HB.out)) : w.heap.size <= gb280)); replace HB := Aside0.mk (below_step (bz0 HB.out) hb); clear hb hbox hg; obtain ⟨hcz15_0, hcz15_1, hcz15_2, hcz15_3, hcz15_4, hcz15_5, hcz15_6⟩ := cz7 BK280.out; obtain ⟨hfz15_0, hfz15_1, hfz15_2, hfz15_3, hfz15_4, hfz15_5, hfz15_6⟩ := fz7 BK280.out))
    go_ret
    exact ⟨gz, (bz1 HB.out GE280.out)⟩
   ·rw [if_neg c13] at H
    have c13b0 : (((rd_T43 l0 a1).f0) == 12) = false := beq_eq_false_iff_ne.mpr c13
    have c13b1 : (((rd_T43 l0 a1).f0) != 12) = true := bne_iff_ne.mpr c13
    replace H := bi H
    obtain ⟨t282, A160, H⟩ := H
    try dsimp only at H
    have A16 := Aside0.mk A160
    clear A160
    replace H := bi H
    obtain ⟨⟨t283, t284, t285, t286, t287, t288, t289, t290⟩, A170, H⟩ := H
    try dsimp only at H
    have A17 := Aside0.mk A170
    clear A170
    obtain ⟨y292, hy292⟩ : ∃ y_ : List ByteArray, y_ = (([t282] : List ByteArray)) := ⟨_, rfl⟩
    replace H : ((impl_Kids.f k ((rd_T43 l0 a1).f0) ((rd_T43 l0 a1).f1) ((rd_T43 l0 a1).f2) ((rd_T43 l0 a1).f3) ((rd_T43 l0 a1).f4) ((rd_T43 l0 a1).f5) ((rd_T43 l0 a1).f6)).bind fun t298 => (impl_printNode.l0 k l0 t290 y292 (([(rd_T43 l0 a1).f5, (rd_T43 l0 a1).f6] : List ByteArray)) t298 0)) = some r := yz hy292 H
    have Ny292 := Aside0.mk hy292
    clear hy292
    obtain ⟨y295, hy295⟩ : ∃ y_ : List ByteArray, y_ = (([(rd_T43 l0 a1).f5, (rd_T43 l0 a1).f6] : List ByteArray)) := ⟨_, rfl⟩
    replace H : ((impl_Kids.f k ((rd_T43 l0 a1).f0) ((rd_T43 l0 a1).f1) ((rd_T43 l0 a1).f2) ((rd_T43 l0 a1).f3) ((rd_T43 l0 a1).f4) ((rd_T43 l0 a1).f5) ((rd_T43 l0 a1).f6)).bind fun t298 => (impl_printNode.l0 k l0 t290 y292 y295 t298 0)) = some r := yz hy295 H
    have Ny295 := Aside0.mk hy295
    clear hy295
    replace H := bi H
    obtain ⟨t298, A180, H⟩ := H
    try dsimp only at H
    have A18 := Aside0.mk A180
    clear A180
    have H' := Aside0.mk H
    clear H
    have p279 : 0 <= (a1 : Int) := oz
    have q279 : a1 < (l0.length : Int) := oz
    obtain ⟨ad279, e279, hx279_0, hx279_1, hx279_2, hx279_3, hx279_4, hx279_5, hx279_6⟩ := at_T43 HR0.out a1 p279 q279
    cases e279
    replace p279 := eq_true p279
    replace q279 := eq_true q279
    go_enter Tryd.func37, Tryd.ntmps37
    go_wp2_with (first | ((with_reducible refine gate_dst (N := 5) rfl ?_); refine box_event ?hg (N := 5) ?hd (cs := #[.int .i64 0, .int .i64 0, .int .i64 0, .int .i64 0, .int .i64 0, .string (⟨#[]⟩ : ByteArray), .string (⟨#[]⟩ : ByteArray)]) (t := 43) ?hr ?_; (case hd => rfl); (case hg => rfl); (case hr => exact vz); intro gb280 hg w19 hbox hb; have BK280 := Aside0.mk (hbox); have GW280 := Aside0.mk ((by rw [hg]; exact (below_size (bz0 HB.out)) : w.heap.size <= gb280)); have GE280 := Aside0.mk ((by rw [hg]; exact (below_size (bz0 HB.out)) : w.heap.size <= gb280)); replace HB := Aside0.mk (below_step (bz0 HB.out) hb); clear hb hbox hg; obtain ⟨hcz20_0, hcz20_1, hcz20_2, hcz20_3, hcz20_4, hcz20_5, hcz20_6⟩ := cz7 BK280.out; obtain ⟨hfz20_0, hfz20_1, hfz20_2, hfz20_3, hfz20_4, hfz20_5, hfz20_6⟩ := fz7 BK280.out) | ((with_reducible refine gate_callee (f := 71) rfl ?_); refine goesL_ (some 31) rfl rfl Tryd.func71 (by kernel_rfl) rfl #[.agg #[.int .i64 ((rd_T43 l0 a1).f0), .int .i64 ((rd_T43 l0 a1).f1), .int .i64 ((rd_T43 l0 a1).f2), .int .i64 ((rd_T43 l0 a1).f3), .int .i64 ((rd_T43 l0 a1).f4), .string ((rd_T43 l0 a1).f5), .string ((rd_T43 l0 a1).f6)]] rfl lz ?_; (with_reducible refine (impl_KeyOf.calls k ((rd_T43 l0 a1).f0) ((rd_T43 l0 a1).f1) ((rd_T43 l0 a1).f2) ((rd_T43 l0 a1).f3) ((rd_T43 l0 a1).f4) ((rd_T43 l0 a1).f5) ((rd_T43 l0 a1).f6) t282 _ A16.out).mono ?_); rintro e w21 ⟨rfl, hb⟩; refine ⟨_, rfl, ?_⟩; replace BK280 := Aside0.mk (blk_below (g := gb280) (o := .cells #[.int .i64 ((rd_T43 l0 a1).f0), .int .i64 ((rd_T43 l0 a1).f1), .int .i64 ((rd_T43 l0 a1).f2), .int .i64 ((rd_T43 l0 a1).f3), .int .i64 ((rd_T43 l0 a1).f4), .string ((rd_T43 l0 a1).f5), .string ((rd_T43 l0 a1).f6)] 43 (0, 0)) (by refine kq ?_; refine blk_put (cs := #[.int .i64 ((rd_T43 l0 a1).f0), .int .i64 ((rd_T43 l0 a1).f1), .int .i64 ((rd_T43 l0 a1).f2), .int .i64 ((rd_T43 l0 a1).f3), .int .i64 ((rd_T43 l0 a1).f4), .string ((rd_T43 l0 a1).f5), .string (⟨#[]⟩ : ByteArray)]) ?_ 6 _ rfl; refine kq ?_; refine blk_put (cs := #[.int .i64 ((rd_T43 l0 a1).f0), .int .i64 ((rd_T43 l0 a1).f1), .int .i64 ((rd_T43 l0 a1).f2), .int .i64 ((rd_T43 l0 a1).f3), .int .i64 ((rd_T43 l0 a1).f4), .string (⟨#[]⟩ : ByteArray), .string (⟨#[]⟩ : ByteArray)]) ?_ 5 _ rfl; refine kq ?_; refine blk_put (cs := #[.int .i64 ((rd_T43 l0 a1).f0), .int .i64 ((rd_T43 l0 a1).f1), .int .i64 ((rd_T43 l0 a1).f2), .int .i64 ((rd_T43 l0 a1).f3), .int .i64 0, .string (⟨#[]⟩ : ByteArray), .string (⟨#[]⟩ : ByteArray)]) ?_ 4 _ rfl; refine kq ?_; refine blk_put (cs := #[.int .i64 ((rd_T43 l0 a1).f0), .int .i64 ((rd_T43 l0 a1).f1), .int .i64 ((rd_T43 l0 a1).f2), .int .i64 0, .int .i64 0, .string (⟨#[]⟩ : ByteArray), .string (⟨#[]⟩ : ByteArray)]) ?_ 3 _ rfl; refine kq ?_; refine blk_put (cs := #[.int .i64 ((rd_T43 l0 a1).f0), .int .i64 ((rd_T43 l0 a1).f1), .int .i64 0, .int .i64 0, .int .i64 0, .string (⟨#[]⟩ : ByteArray), .string (⟨#[]⟩ : ByteArray)]) ?_ 2 _ rfl; refine kq ?_; refine blk_put (cs := #[.int .i64 ((rd_T43 l0 a1).f0), .int .i64 0, .int .i64 0, .int .i64 0, .int .i64 0, .string (⟨#[]⟩ : ByteArray), .string (⟨#[]⟩ : ByteArray)]) ?_ 1 _ rfl; refine kq ?_; refine blk_put (cs := #[.int .i64 0, .int .i64 0, .int .i64 0, .int .i64 0, .int .i64 0, .string (⟨#[]⟩ : ByteArray), .string (⟨#[]⟩ : ByteArray)]) ?_ 0 _ rfl; refine kq ?_; exact BK280.out) hb); replace HB := Aside0.mk (below_step (bz1 HB.out GE280.out) hb); (try clear hb); (try clear hk); (try clear hi)) | ((with_reducible refine gate_callee (f := 72) rfl ?_); refine goesL_ (some 34) rfl rfl Tryd.func72 (by kernel_rfl) rfl #[.string t282] rfl lz ?_; (with_reducible refine (impl_formOf.calls t282 t283 t284 t285 t286 t287 t288 t289 t290 _ A17.out).mono ?_); rintro e w22 ⟨rfl, hb⟩; refine ⟨_, rfl, ?_⟩; replace BK280 := Aside0.mk (blk_below (kz BK280.out) hb); replace HB := Aside0.mk (below_step (bz1 HB.out GE280.out) hb); (try clear hb); (try clear hk); (try clear hi)) | ((with_reducible refine gate_dst (N := 7) rfl ?_); refine box_event ?hg (N := 7) ?hd (cs := #[.int .i64 0, .int .i64 0, .int .i64 0, .int .i64 0, .int .i64 0, .string (⟨#[]⟩ : ByteArray), .string (⟨#[]⟩ : ByteArray)]) (t := 43) ?hr ?_; (case hd => rfl); (case hg => rfl); (case hr => exact vz); intro gb291 hg w23 hbox hb; have BK291 := Aside0.mk (hbox); have GW291 := Aside0.mk ((by rw [hg]; exact (below_size (bz1 HB.out GE280.out)) : w.heap.size <= gb291)); have GE291 := Aside0.mk ((by rw [hg]; exact (below_size (bz1 HB.out GE280.out)) : w.heap.size <= gb291)); replace HB := Aside0.mk (below_step (bz1 HB.out GE280.out) hb); have NB280_291 := Aside0.mk ((by rw [hg]; exact Nat.ne_of_lt (blk_lt (g := gb280) (o := .cells #[.int .i64 ((rd_T43 l0 a1).f0), .int .i64 ((rd_T43 l0 a1).f1), .int .i64 ((rd_T43 l0 a1).f2), .int .i64 ((rd_T43 l0 a1).f3), .int .i64 ((rd_T43 l0 a1).f4), .string ((rd_T43 l0 a1).f5), .string ((rd_T43 l0 a1).f6)] 43 (0, 0)) (kz BK280.out)) : gb280 ≠ gb291)); have NB291_280 := Aside0.mk ((by rw [hg]; exact Nat.ne_of_gt (blk_lt (g := gb280) (o := .cells #[.int .i64 ((rd_T43 l0 a1).f0), .int .i64 ((rd_T43 l0 a1).f1), .int .i64 ((rd_T43 l0 a1).f2), .int .i64 ((rd_T43 l0 a1).f3), .int .i64 ((rd_T43 l0 a1).f4), .string ((rd_T43 l0 a1).f5), .string ((rd_T43 l0 a1).f6)] 43 (0, 0)) (kz BK280.out)) : gb291 ≠ gb280)); replace BK280 := Aside0.mk (blk_below (kz BK280.out) hb); clear hb hbox hg; have hnb24 := NB291_280.out; have hnc24 := NB280_291.out; obtain ⟨hcz25_0, hcz25_1, hcz25_2, hcz25_3, hcz25_4, hcz25_5, hcz25_6⟩ := cz7 BK291.out; obtain ⟨hfz25_0, hfz25_1, hfz25_2, hfz25_3, hfz25_4, hfz25_5, hfz25_6⟩ := fz7 BK291.out) | ((with_reducible refine gate_dst (N := 38) rfl ?_); refine Kd.R_lit Kd.string _ 9 ?hg (N := 38) ?hd (xs := ([t282] : List ByteArray)) (inner := [.string t282]) (ok := fun _ => True) (okp := fun _ => True) ?hr ?hp (fun _ hk => hk) trivial (Below.refl _ _) (Nat.le_refl _) (by simp) ?_; (case hd => rfl); (case hg => rfl); (case hr => exact vz); (case hp => exact (Reps.one (show Kd.M Kd.string _ _ _ t282 [.string t282] from rfl) (Reps.none _ _))); intro v293 w26 ho27 hb hg_ hnew_; clear hg_ hnew_; (first | rw [<- Ny292.out] at ho27 | (simp only [Int.reduceToNat] at ho27; rw [<- Ny292.out] at ho27)); have HO294 := Aside0.mk (Kd.R_lower ho27 (below_size (bz2 HB.out GE280.out GE291.out))); replace BK280 := Aside0.mk (blk_below (g := gb280) (o := .cells #[.int .i64 ((rd_T43 l0 a1).f0), .int .i64 ((rd_T43 l0 a1).f1), .int .i64 ((rd_T43 l0 a1).f2), .int .i64 ((rd_T43 l0 a1).f3), .int .i64 ((rd_T43 l0 a1).f4), .string ((rd_T43 l0 a1).f5), .string ((rd_T43 l0 a1).f6)] 43 (0, 0)) (by refine kq ?_; refine blk_far ?_ NB280_291.out _; refine kq ?_; refine blk_far ?_ NB280_291.out _; refine kq ?_; refine blk_far ?_ NB280_291.out _; refine kq ?_; refine blk_far ?_ NB280_291.out _; refine kq ?_; refine blk_far ?_ NB280_291.out _; refine kq ?_; refine blk_far ?_ NB280_291.out _; refine kq ?_; refine blk_far ?_ NB280_291.out _; refine kq ?_; exact BK280.out) hb); replace BK291 := Aside0.mk (blk_below (g := gb291) (o := .cells #[.int .i64 t283, .int .i64 t284, .int .i64 t285, .int .i64 t286, .int .i64 t287, .string t288, .string t289] 43 (0, 0)) (by refine kq ?_; refine blk_put (cs := #[.int .i64 t283, .int .i64 t284, .int .i64 t285, .int .i64 t286, .int .i64 t287, .string t288, .string (⟨#[]⟩ : ByteArray)]) ?_ 6 _ rfl; refine kq ?_; refine blk_put (cs := #[.int .i64 t283, .int .i64 t284, .int .i64 t285, .int .i64 t286, .int .i64 t287, .string (⟨#[]⟩ : ByteArray), .string (⟨#[]⟩ : ByteArray)]) ?_ 5 _ rfl; refine kq ?_; refine blk_put (cs := #[.int .i64 t283, .int .i64 t284, .int .i64 t285, .int .i64 t286, .int .i64 0, .string (⟨#[]⟩ : ByteArray), .string (⟨#[]⟩ : ByteArray)]) ?_ 4 _ rfl; refine kq ?_; refine blk_put (cs := #[.int .i64 t283, .int .i64 t284, .int .i64 t285, .int .i64 0, .int .i64 0, .string (⟨#[]⟩ : ByteArray), .string (⟨#[]⟩ : ByteArray)]) ?_ 3 _ rfl; refine kq ?_; refine blk_put (cs := #[.int .i64 t283, .int .i64 t284, .int .i64 0, .int .i64 0, .int .i64 0, .string (⟨#[]⟩ : ByteArray), .string (⟨#[]⟩ : ByteArray)]) ?_ 2 _ rfl; refine kq ?_; refine blk_put (cs := #[.int .i64 t283, .int .i64 0, .int .i64 0, .int .i64 0, .int .i64 0, .string (⟨#[]⟩ : ByteArray), .string (⟨#[]⟩ : ByteArray)]) ?_ 1 _ rfl; refine kq ?_; refine blk_put (cs := #[.int .i64 0, .int .i64 0, .int .i64 0, .int .i64 0, .int .i64 0, .string (⟨#[]⟩ : ByteArray), .string (⟨#[]⟩ : ByteArray)]) ?_ 0 _ rfl; refine kq ?_; exact BK291.out) hb); replace HB := Aside0.mk (below_step (bz2 HB.out GE280.out GE291.out) hb); clear hb ho27; obtain ⟨hcz28_0, hcz28_1, hcz28_2, hcz28_3, hcz28_4, hcz28_5, hcz28_6⟩ := cz7 BK280.out; obtain ⟨hfz28_0, hfz28_1, hfz28_2, hfz28_3, hfz28_4, hfz28_5, hfz28_6⟩ := fz7 BK280.out) | ((with_reducible refine gate_dst (N := 43) rfl ?_); refine Kd.R_lit Kd.string _ 9 ?hg (N := 43) ?hd (xs := ([(rd_T43 l0 a1).f5, (rd_T43 l0 a1).f6] : List ByteArray)) (inner := [.string ((rd_T43 l0 a1).f5), .string ((rd_T43 l0 a1).f6)]) (ok := fun _ => True) (okp := fun _ => True) ?hr ?hp (fun _ hk => hk) trivial (Below.refl _ _) (Nat.le_refl _) (by simp) ?_; (case hd => rfl); (case hg => rfl); (case hr => exact vz); (case hp => exact (Reps.one (show Kd.M Kd.string _ _ _ ((rd_T43 l0 a1).f5) [.string ((rd_T43 l0 a1).f5)] from rfl) (Reps.one (show Kd.M Kd.string _ _ _ ((rd_T43 l0 a1).f6) [.string ((rd_T43 l0 a1).f6)] from rfl) (Reps.none _ _)))); intro v296 w29 ho30 hb hg_ hnew_; clear hg_ hnew_; (first | rw [<- Ny295.out] at ho30 | (simp only [Int.reduceToNat] at ho30; rw [<- Ny295.out] at ho30)); have HO297 := Aside0.mk (Kd.R_lower (Kd.R_new' ho30 (Kd.R_lt (rz HO294.out))) (below_size (bz2 HB.out GE280.out GE291.out))); replace HO294 := Aside0.mk (Kd.R_elder' (rz HO294.out) (Kd.R_base ho30) hb); replace BK280 := Aside0.mk (blk_below (kz BK280.out) hb); replace BK291 := Aside0.mk (blk_below (kz BK291.out) hb); replace HB := Aside0.mk (below_step (bz2 HB.out GE280.out GE291.out) hb); clear hb ho30; obtain ⟨hcz31_0, hcz31_1, hcz31_2, hcz31_3, hcz31_4, hcz31_5, hcz31_6⟩ := cz7 BK280.out; obtain ⟨hfz31_0, hfz31_1, hfz31_2, hfz31_3, hfz31_4, hfz31_5, hfz31_6⟩ := fz7 BK280.out) | ((with_reducible refine gate_callee (f := 69) rfl ?_); refine goesL_ (some 45) rfl rfl Tryd.func69 (by kernel_rfl) rfl #[.agg #[.int .i64 ((rd_T43 l0 a1).f0), .int .i64 ((rd_T43 l0 a1).f1), .int .i64 ((rd_T43 l0 a1).f2), .int .i64 ((rd_T43 l0 a1).f3), .int .i64 ((rd_T43 l0 a1).f4), .string ((rd_T43 l0 a1).f5), .string ((rd_T43 l0 a1).f6)]] rfl lz ?_; (with_reducible refine (impl_Kids.calls k ((rd_T43 l0 a1).f0) ((rd_T43 l0 a1).f1) ((rd_T43 l0 a1).f2) ((rd_T43 l0 a1).f3) ((rd_T43 l0 a1).f4) ((rd_T43 l0 a1).f5) ((rd_T43 l0 a1).f6) t298 _ A18.out).mono ?_); rintro e w32 ⟨v299, rfl, ho0, hb⟩; refine ⟨_, rfl, ?_⟩; have HO300 := Aside0.mk (Kd.V_lower (Kd.V_mono (ok' := fun k_ => some k_ ≠ (v293 : Value).ownBlock /\ some k_ ≠ (v296 : Value).ownBlock /\ k_ ≠ gb280 /\ k_ ≠ gb291) ho0 (fun k_ hk_ => ⟨(Kd.fresh' (Kd.R_lt (rz HO294.out)) k_ hk_), (Kd.fresh' (Kd.R_lt (rz HO297.out)) k_ hk_), (Kd.freshB (g := gb280) (o := .cells #[.int .i64 ((rd_T43 l0 a1).f0), .int .i64 ((rd_T43 l0 a1).f1), .int .i64 ((rd_T43 l0 a1).f2), .int .i64 ((rd_T43 l0 a1).f3), .int .i64 ((rd_T43 l0 a1).f4), .string ((rd_T43 l0 a1).f5), .string ((rd_T43 l0 a1).f6)] 43 (0, 0)) (kz BK280.out) k_ hk_), (Kd.freshB (g := gb291) (o := .cells #[.int .i64 t283, .int .i64 t284, .int .i64 t285, .int .i64 t286, .int .i64 t287, .string t288, .string t289] 43 (0, 0)) (kz BK291.out) k_ hk_)⟩)) (below_size (bz2 HB.out GE280.out GE291.out))); replace HO294 := qz HO294 hb; replace HO297 := qz HO297 hb; replace BK280 := Aside0.mk (blk_below (kz BK280.out) hb); replace BK291 := Aside0.mk (blk_below (kz BK291.out) hb); replace HB := Aside0.mk (below_step (bz2 HB.out GE280.out GE291.out) hb); (try clear hb); (try clear hk); (try clear ho0)))
    (try simp only [Act.put, sz1, sz2, sz3])
    go_loopg [9, 10, 11, 12] k (fun kq v9 v10 v11 v12 w' => ∃ (x9_1 : List ByteArray) (x10_1 : List ByteArray) (x11_1 : List Int) (x12_1 : Int), v12 = .int .i64 x12_1 /\ Aside0 (impl_printNode.l0 kq l0 t290 x9_1 x10_1 x11_1 x12_1 = some r) /\ Aside0 (kq <= k) /\ Aside0 (Kd.R Kd.string 9 w' w.heap.size (fun k_ => some k_ ≠ (v10 : Value).ownBlock) v9 x9_1) /\ Aside0 (Kd.Q Kd.string 9 w' w.heap.size (fun k_ => some k_ ≠ (v9 : Value).ownBlock) v10 x10_1) /\ Aside0 (Kd.V (Kd.int .i64) 3 w' w.heap.size (fun k_ => some k_ ≠ (v9 : Value).ownBlock /\ some k_ ≠ (v10 : Value).ownBlock /\ k_ ≠ gb280 /\ k_ ≠ gb291) v11 x11_1) /\ Aside0 (w'.heap[gb280]? = some (.cells #[.int .i64 ((rd_T43 l0 a1).f0), .int .i64 ((rd_T43 l0 a1).f1), .int .i64 ((rd_T43 l0 a1).f2), .int .i64 ((rd_T43 l0 a1).f3), .int .i64 ((rd_T43 l0 a1).f4), .string ((rd_T43 l0 a1).f5), .string ((rd_T43 l0 a1).f6)] 43 (0, 0))) /\ Aside0 (w'.heap[gb291]? = some (.cells #[.int .i64 t283, .int .i64 t284, .int .i64 t285, .int .i64 t286, .int .i64 t287, .string t288, .string t289] 43 (0, 0))) /\ Aside0 (Below w.heap.size w w'))
    case atStart => exact ⟨(y292), (y295), (t298), (0), ez, H', ⟨Nat.le_refl _⟩, ⟨by refine rq ?_; exact Kd.R_mono HO294.out (fun _ hk => hk.2)⟩, ⟨Kd.Q_of_R (by refine rq ?_; exact Kd.R_mono HO297.out (fun _ hk => hk.2))⟩, ⟨by (with_reducible repeat (first | apply Kd.V_alloc | apply Kd.V_drewN | apply Kd.V_drew)); exact HO300.out⟩, ⟨by refine kq ?_; exact BK280.out⟩, ⟨by refine kq ?_; exact BK291.out⟩, ⟨(bz2 HB.out GE280.out GE291.out)⟩⟩
    case round =>
     clear H'
     try clear c1
     try clear c2
     try clear p2
     try clear q2
     try clear hx2
     try clear c3
     try clear c3b0
     try clear c4
     try clear c4b0
     try clear c5
     try clear c5b0
     try clear c5b1
     try clear c6
     try clear c7
     try clear c10
     try clear c10b0
     try clear c10b1
     try clear c13
     try clear c13b0
     try clear c13b1
     try clear c24
     try clear p27
     try clear q27
     try clear hx27
     try clear hcz12_0 hcz12_1 hcz12_2 hcz12_3 hcz12_4 hcz12_5 hcz12_6
     try clear hcz15_0 hcz15_1 hcz15_2 hcz15_3 hcz15_4 hcz15_5 hcz15_6
     try clear hcz20_0 hcz20_1 hcz20_2 hcz20_3 hcz20_4 hcz20_5 hcz20_6
     try clear hcz25_0 hcz25_1 hcz25_2 hcz25_3 hcz25_4 hcz25_5 hcz25_6
     try clear hcz28_0 hcz28_1 hcz28_2 hcz28_3 hcz28_4 hcz28_5 hcz28_6
     try clear hcz31_0 hcz31_1 hcz31_2 hcz31_3 hcz31_4 hcz31_5 hcz31_6
     try clear hcz8_0 hcz8_1 hcz8_2 hcz8_3 hcz8_4 hcz8_5 hcz8_6
     try clear hfz12_0 hfz12_1 hfz12_2 hfz12_3 hfz12_4 hfz12_5 hfz12_6
     try clear hfz15_0 hfz15_1 hfz15_2 hfz15_3 hfz15_4 hfz15_5 hfz15_6
     try clear hfz20_0 hfz20_1 hfz20_2 hfz20_3 hfz20_4 hfz20_5 hfz20_6
     try clear hfz25_0 hfz25_1 hfz25_2 hfz25_3 hfz25_4 hfz25_5 hfz25_6
     try clear hfz28_0 hfz28_1 hfz28_2 hfz28_3 hfz28_4 hfz28_5 hfz28_6
     try clear hfz31_0 hfz31_1 hfz31_2 hfz31_3 hfz31_4 hfz31_5 hfz31_6
     try clear hfz8_0 hfz8_1 hfz8_2 hfz8_3 hfz8_4 hfz8_5 hfz8_6
     try clear hx279_0
     try clear hx279_1
     try clear hx279_2
     try clear hx279_3
     try clear hx279_4
     try clear hx279_5
     try clear hx279_6
     try clear p279
     try clear q279
     obtain ⟨x9_1, x10_1, x11_1, x12_1, rfl, HA, HK1, HO_9, HO_10, HO_11, BK280, BK291, HB⟩ := hrel
     cases gk with
     | zero => exact absurd HA.out (by simp [impl_printNode.l0])
     | succ k1 =>
      have H := HA.out
      clear HA
      simp only [impl_printNode.l0] at H
      by_cases c33 : x12_1 < (t290.size : Int)
      ·rw [if_pos c33] at H
       have c33b0 := decide_eq_true c33
       clear c33
       replace H := iz H
       obtain ⟨c34, H⟩ := H
       have c34b0 := decide_eq_true c34
       clear c34
       by_cases c36 : (bt t290 x12_1) = 110
       ·rw [if_pos c36] at H
        have c36b0 : ((bt t290 x12_1) == 110) = true := beq_iff_eq.mpr c36
        have c36b1 : ((bt t290 x12_1) != 110) = false := bne_eq_false_iff_eq.mpr c36
        clear c36
        replace H := iz H
        obtain ⟨c37, H⟩ := H
        have c37b0 := decide_eq_true c37
        have c37b1 : decide (0 < x10_1.length) = true := decide_eq_true (by omega)
        clear c37
        replace H := iz H
        obtain ⟨c38, H⟩ := H
        have LMc38 := Aside0.mk c38
        clear c38
        obtain ⟨y302, hy302⟩ : ∃ y_ : List ByteArray, y_ = (x9_1 ++ [rdOf ByteArray.empty x10_1 0]) := ⟨_, rfl⟩
        replace H : (if 1 <= (x10_1.length : Int) then (impl_printNode.l0 k1 l0 t290 y302 (x10_1.drop (1 : Int).toNat) x11_1 (wrap64 (x12_1 + 1))) else (none)) = some r := yz hy302 H
        have Ny302 := Aside0.mk hy302
        clear hy302
        replace H := iz H
        obtain ⟨c39, H⟩ := H
        have c39b0 := eq_true c39
        have c39b1 : decide (1 <= (x10_1.length : Int)) = true := decide_eq_true c39
        clear c39
        obtain ⟨y305, hy305⟩ : ∃ y_ : List ByteArray, y_ = (x10_1.drop (1 : Int).toNat) := ⟨_, rfl⟩
        replace H : (impl_printNode.l0 k1 l0 t290 y302 y305 x11_1 (wrap64 (x12_1 + 1))) = some r := yz hy305 H
        have Ny305 := Aside0.mk hy305
        clear hy305
        have H' := Aside0.mk H
        clear H
        have p35 : 0 <= (x12_1 : Int) := oz
        have q35 : x12_1 < (t290.size : Int) := oz
        have hx35 := bt_at t290 x12_1
        replace p35 := eq_true p35
        replace q35 := eq_true q35
        obtain ⟨Ao40, co40, eo40, _⟩ := Kd.Q_slice HO_10.out
        subst eo40
        have p301 : 0 <= (0 : Int) := (by omega)
        have q301 : 0 < (x10_1.length : Int) := oz
        obtain ⟨ad301, e301, hx301_0⟩ := Kd.at_string (Kd.Q_reads' HO_10.out).2.2 0 p301 q301
        cases e301
        have qi301 : (0 < x10_1.length) = True := eq_true (by omega)
        (try rw [show ((0 : Int)).toNat = 0 from rfl] at hx301_0)
        (try rw [Addr.add_zero'] at hx301_0)
        replace p301 := eq_true p301
        replace q301 := eq_true q301
        go_wp2_with (first | ((with_reducible refine gate_builtin (b := .append) (xs := #[.tmp 56, .tmp 60]) rfl ?_); at_builtin; refine Kd.R_append Kd.string (w0 := w) w.heap.size rfl (.tmp 56) (.tmp 60) 32 9 (.string ⟨#[]⟩) 16 rfl Tryd.underlying32 info9 rfl (by decide) (by omega) u9 x9_1 (rdOf ByteArray.empty x10_1 0) [.string (rdOf ByteArray.empty x10_1 0)] (fun k_ => some k_ ≠ (.slice (some ad301) x10_1.length co40 : Value).ownBlock) (fun _ => False) rfl rfl ?aP (fun _ hk => hk.elim) ?aF ?aO ?aB ?aS ?aL ?_; (case aP => exact rfl); (case aB => exact (bz2 HB.out GE280.out GE291.out)); (case aF => exact (fun k_ hk => Kd.fresh' (Kd.Q_lt (by (with_reducible repeat (first | apply Kd.Q_alloc | apply Kd.Q_drewN | apply Kd.Q_drew)); exact HO_10.out)) k_ hk)); (case aO => exact (rz HO_9.out)); (case aS => exact (below_size (bz2 HB.out GE280.out GE291.out))); (case aL => have := LMc38.out; omega); intro v303 w41 ho hb hg hat; rw [<- Ny302.out] at ho; have n0_ := Aside0.mk (Kd.Q_after (ok := (fun _ => True)) (by (with_reducible repeat (first | apply Kd.Q_alloc | apply Kd.Q_drewN | apply Kd.Q_drew)); exact Kd.Q_mono HO_10.out (fun _ hk => ⟨trivial, hk⟩)) hg hat); have n1_ := Aside0.mk (Kd.V_afterv (ok := (fun k_ => some k_ ≠ (.slice (some ad301) x10_1.length co40 : Value).ownBlock /\ k_ ≠ gb280 /\ k_ ≠ gb291)) (by (with_reducible repeat (first | apply Kd.V_alloc | apply Kd.V_drewN | apply Kd.V_drew)); exact Kd.V_mono HO_11.out (fun _ hk => ⟨⟨hk.2.1, ⟨hk.2.2.1, hk.2.2.2⟩⟩, hk.1⟩)) hg hat); have n2_ := Aside0.mk (blk_grown (g := gb280) (o := .cells #[.int .i64 ((rd_T43 l0 a1).f0), .int .i64 ((rd_T43 l0 a1).f1), .int .i64 ((rd_T43 l0 a1).f2), .int .i64 ((rd_T43 l0 a1).f3), .int .i64 ((rd_T43 l0 a1).f4), .string ((rd_T43 l0 a1).f5), .string ((rd_T43 l0 a1).f6)] 43 (0, 0)) (kz BK280.out) hg (Kd.R_ne HO_9.out BK280.out (by decide))); have n3_ := Aside0.mk (blk_grown (g := gb291) (o := .cells #[.int .i64 t283, .int .i64 t284, .int .i64 t285, .int .i64 t286, .int .i64 t287, .string t288, .string t289] 43 (0, 0)) (kz BK291.out) hg (Kd.R_ne HO_9.out BK291.out (by decide))); have n4_ := Aside0.mk (hb); have n5_ := Aside0.mk (ho); clear HO_10; clear HO_11; clear BK280; clear BK291; clear HB; clear HO_9; have HO_10 := n0_; have HO_11 := n1_; have BK280 := n2_; have BK291 := n3_; have HB := n4_; have HO304 := n5_; clear n0_ n1_ n2_ n3_ n4_ n5_; clear ho hb hg hat; have n_ := Aside0.mk (Kd.Q_mono (ok' := (fun k_ => some k_ ≠ (v303 : Value).ownBlock)) HO_10.out (fun k_ hk => hk.2)); clear HO_10; have HO_10 := n_; clear n_; have q42 : (1 : Int) <= ((x10_1.length : Int) : Int) := oz; obtain ⟨i042, hi042, _, hsz42, _⟩ := info_parts info9; have hcut42 := cut_from (P := Tryd.prog) 32 9 .i64 Tryd.underlying32 hi042 1 hsz42 (some ad301) x10_1.length co40 1 (by omega) q42; have hr42 := Kd.Q_drop (k := (1 : Int).toNat) HO_10.out (by omega); obtain ⟨A42, hA42⟩ : ∃ A1, A1 = (if co40 = (1 : Int).toNat then (some ad301) else ((some ad301) : Option Addr).map (·.add ((1 : Int).toNat * 1))) := ⟨_, rfl⟩; obtain ⟨c42, hc42⟩ : ∃ c1, c1 = co40 - (1 : Int).toNat := ⟨_, rfl⟩; have hy42 : y305.length = x10_1.length - (1 : Int).toNat := (by rw [Ny305.out, List.length_drop]); rw [<- Ny305.out] at hr42; rw [<- hy42, <- hA42, <- hc42] at hcut42; replace hr42 : Kd.Q Kd.string 9 w41 w.heap.size (fun k_ => some k_ ≠ (v303 : Value).ownBlock) (.slice A42 y305.length c42) y305 := (by rw [hA42, hc42, hy42]; exact hr42); have HE42 : Aside0 ((Value.slice A42 y305.length c42).ownBlock = (.slice (some ad301) x10_1.length co40 : Value).ownBlock) := ⟨by rw [hA42]; split <;> (cases ((some ad301) : Option Addr) <;> rfl)⟩; clear hy42 hi042 hsz42 HO_10 hA42 hc42; have HO307 := Aside0.mk hr42; clear hr42; replace q42 := eq_true q42; have n_ := Aside0.mk (Kd.V_mono (ok' := fun k_ => ((some k_ ≠ (.slice A42 y305.length c42 : Value).ownBlock /\ (k_ ≠ gb280 /\ k_ ≠ gb291)) /\ some k_ ≠ (v303 : Value).ownBlock)) HO_11.out (fun k_ hk => ⟨⟨(by rw [HE42.out]; exact hk.1.1), ⟨hk.1.2.1, hk.1.2.2⟩⟩, hk.2⟩)); clear HO_11; have HO_11 := n_; clear n_; have n_ := Aside0.mk (Kd.R_mono (ok' := fun k_ => some k_ ≠ (.slice A42 y305.length c42 : Value).ownBlock) HO304.out (fun k_ hk => (by rw [HE42.out]; exact hk))); clear HO304; have HO304 := n_; clear n_))
        go_roundg k1
        case measure => have := HK1.out; omega
        case rel => exact ⟨(y302), (y305), (x11_1), (wrap64 (x12_1 + 1)), ez, H', ⟨by have := HK1.out; omega⟩, ⟨by refine rq ?_; exact HO304.out⟩, ⟨by (with_reducible repeat (first | apply Kd.Q_alloc | apply Kd.Q_drewN | apply Kd.Q_drew)); exact HO307.out⟩, ⟨by (with_reducible repeat (first | apply Kd.V_alloc | apply Kd.V_drewN | apply Kd.V_drew)); exact Kd.V_mono HO_11.out (fun _ hk => ⟨hk.2, ⟨hk.1.1, ⟨hk.1.2.1, hk.1.2.2⟩⟩⟩)⟩, ⟨by refine kq ?_; exact BK280.out⟩, ⟨by refine kq ?_; exact BK291.out⟩, ⟨(bz2 HB.out GE280.out GE291.out)⟩⟩
       ·rw [if_neg c36] at H
        have c36b0 : ((bt t290 x12_1) == 110) = false := beq_eq_false_iff_ne.mpr c36
        have c36b1 : ((bt t290 x12_1) != 110) = true := bne_iff_ne.mpr c36
        replace H := iz H
        obtain ⟨c43, H⟩ := H
        have c43b0 := decide_eq_true c43
        have c43b1 : decide (0 < x11_1.length) = true := decide_eq_true (by omega)
        clear c43
        replace H := bi H
        obtain ⟨t309, A440, H⟩ := H
        try dsimp only at H
        have A44 := Aside0.mk A440
        clear A440
        replace H := iz H
        obtain ⟨c45, H⟩ := H
        have LMc45 := Aside0.mk c45
        clear c45
        obtain ⟨y310, hy310⟩ : ∃ y_ : List ByteArray, y_ = (x9_1 ++ [t309]) := ⟨_, rfl⟩
        replace H : (if 1 <= (x11_1.length : Int) then (impl_printNode.l0 k1 l0 t290 y310 x10_1 (x11_1.drop 1) (wrap64 (x12_1 + 1))) else (none)) = some r := yz hy310 H
        have Ny310 := Aside0.mk hy310
        clear hy310
        replace H := iz H
        obtain ⟨c46, H⟩ := H
        have c46b0 := eq_true c46
        have c46b1 : decide (1 <= (x11_1.length : Int)) = true := decide_eq_true c46
        clear c46
        obtain ⟨y313, hy313⟩ : ∃ y_ : List Int, y_ = (x11_1.drop 1) := ⟨_, rfl⟩
        replace H : (impl_printNode.l0 k1 l0 t290 y310 x10_1 y313 (wrap64 (x12_1 + 1))) = some r := yz hy313 H
        have Ny313 := Aside0.mk hy313
        clear hy313
        have H' := Aside0.mk H
        clear H
        have p35 : 0 <= (x12_1 : Int) := oz
        have q35 : x12_1 < (t290.size : Int) := oz
        have hx35 := bt_at t290 x12_1
        replace p35 := eq_true p35
        replace q35 := eq_true q35
        obtain ⟨Ao47, co47, eo47⟩ := Kd.V_slice HO_11.out
        subst eo47
        have p308 : 0 <= (0 : Int) := (by omega)
        have q308 : 0 < (x11_1.length : Int) := oz
        obtain ⟨ad308, e308, hx308_0⟩ := Kd.at_int (Kd.V_reads' HO_11.out).2.2 0 p308 q308
        cases e308
        have qi308 : (0 < x11_1.length) = True := eq_true (by omega)
        (try rw [show ((0 : Int)).toNat = 0 from rfl] at hx308_0)
        (try rw [Addr.add_zero'] at hx308_0)
        replace p308 := eq_true p308
        replace q308 := eq_true q308
        go_wp2_with (first | ((with_reducible refine gate_callee (f := 37) rfl ?_); refine goesL_ (some 69) rfl rfl Tryd.func37 (by kernel_rfl) rfl #[.slice (some ad279) l0.length c0, .int .i64 (rd x11_1 0)] rfl lz ?_; (with_reducible refine (ih k1 (by have := HK1.out; omega) _ _ l0 (rd x11_1 0) t309 _ ?side1 ?side2 A44.out ?hT_).mono ?_); (case hT_ => exact PW.below hT_ (bz2 HB.out GE280.out GE291.out)); (case side1 => exact cz (Kd.C_below HR0.out HB.out)); (case side2 => exact HC0.out); rintro e w48 ⟨rfl, hb⟩; refine ⟨_, rfl, ?_⟩; replace HO_9 := qz HO_9 hb; replace HO_10 := Aside0.mk (Kd.Q_below (by (with_reducible repeat (first | apply Kd.Q_alloc | apply Kd.Q_drewN | apply Kd.Q_drew)); exact HO_10.out) hb); replace HO_11 := Aside0.mk (Kd.V_below (by (with_reducible repeat (first | apply Kd.V_alloc | apply Kd.V_drewN | apply Kd.V_drew)); exact HO_11.out) hb); replace BK280 := Aside0.mk (blk_below (kz BK280.out) hb); replace BK291 := Aside0.mk (blk_below (kz BK291.out) hb); replace HB := Aside0.mk (below_step (bz2 HB.out GE280.out GE291.out) hb); (try clear hb); (try clear hk); (try clear hi)) | ((with_reducible refine gate_builtin (b := .append) (xs := #[.tmp 64, .tmp 70]) rfl ?_); at_builtin; refine Kd.R_append Kd.string (w0 := w) w.heap.size rfl (.tmp 64) (.tmp 70) 32 9 (.string ⟨#[]⟩) 16 rfl Tryd.underlying32 info9 rfl (by decide) (by omega) u9 x9_1 t309 [.string t309] (fun k_ => some k_ ≠ (u10 : Value).ownBlock) (fun _ => False) rfl rfl ?aP (fun _ hk => hk.elim) ?aF ?aO ?aB ?aS ?aL ?_; (case aP => exact rfl); (case aB => exact (bz2 HB.out GE280.out GE291.out)); (case aF => exact (fun k_ hk => Kd.fresh' (Kd.Q_lt (by (with_reducible repeat (first | apply Kd.Q_alloc | apply Kd.Q_drewN | apply Kd.Q_drew)); exact HO_10.out)) k_ hk)); (case aO => exact (rz HO_9.out)); (case aS => exact (below_size (bz2 HB.out GE280.out GE291.out))); (case aL => have := LMc45.out; omega); intro v311 w49 ho hb hg hat; rw [<- Ny310.out] at ho; have n0_ := Aside0.mk (Kd.Q_after (ok := (fun _ => True)) (by (with_reducible repeat (first | apply Kd.Q_alloc | apply Kd.Q_drewN | apply Kd.Q_drew)); exact Kd.Q_mono HO_10.out (fun _ hk => ⟨trivial, hk⟩)) hg hat); have n1_ := Aside0.mk (Kd.V_afterv (ok := (fun k_ => some k_ ≠ (u10 : Value).ownBlock /\ k_ ≠ gb280 /\ k_ ≠ gb291)) (by (with_reducible repeat (first | apply Kd.V_alloc | apply Kd.V_drewN | apply Kd.V_drew)); exact Kd.V_mono HO_11.out (fun _ hk => ⟨⟨hk.2.1, ⟨hk.2.2.1, hk.2.2.2⟩⟩, hk.1⟩)) hg hat); have n2_ := Aside0.mk (blk_grown (g := gb280) (o := .cells #[.int .i64 ((rd_T43 l0 a1).f0), .int .i64 ((rd_T43 l0 a1).f1), .int .i64 ((rd_T43 l0 a1).f2), .int .i64 ((rd_T43 l0 a1).f3), .int .i64 ((rd_T43 l0 a1).f4), .string ((rd_T43 l0 a1).f5), .string ((rd_T43 l0 a1).f6)] 43 (0, 0)) (kz BK280.out) hg (Kd.R_ne HO_9.out BK280.out (by decide))); have n3_ := Aside0.mk (blk_grown (g := gb291) (o := .cells #[.int .i64 t283, .int .i64 t284, .int .i64 t285, .int .i64 t286, .int .i64 t287, .string t288, .string t289] 43 (0, 0)) (kz BK291.out) hg (Kd.R_ne HO_9.out BK291.out (by decide))); have n4_ := Aside0.mk (hb); have n5_ := Aside0.mk (ho); clear HO_10; clear HO_11; clear BK280; clear BK291; clear HB; clear HO_9; have HO_10 := n0_; have HO_11 := n1_; have BK280 := n2_; have BK291 := n3_; have HB := n4_; have HO312 := n5_; clear n0_ n1_ n2_ n3_ n4_ n5_; clear ho hb hg hat; have q50 : (1 : Int) <= ((x11_1.length : Int) : Int) := oz; obtain ⟨i050, hi050, _, hsz50, _⟩ := info_parts info3; have hroom50 : x11_1.length <= co47 := (Kd.V_reads' HO_11.out).2.1; have hC50 : Kd.F (Kd.int .i64) _ _ (some ad308) x11_1.length x11_1 := (Kd.V_at (base := w.heap.size) HO_11.out).2.2; have hcut50 := cut_from (P := Tryd.prog) 47 3 .i64 Tryd.underlying47 hi050 1 hsz50 (some ad308) x11_1.length co47 1 (by omega) q50; have hr50 := Kd.F_cut (m := (1 : Int).toNat) (c := co47) hC50 (by omega) hroom50; obtain ⟨A50, hA50⟩ : ∃ A1, A1 = (if co47 = (1 : Int).toNat then (some ad308) else ((some ad308) : Option Addr).map (·.add ((1 : Int).toNat * 1))) := ⟨_, rfl⟩; obtain ⟨c50, hc50⟩ : ∃ c1, c1 = co47 - (1 : Int).toNat := ⟨_, rfl⟩; have hy50 : y313.length = x11_1.length - (1 : Int).toNat := (by rw [Ny313.out, List.length_drop] <;> omega); rw [show (x11_1).drop (1 : Int).toNat = y313 from Ny313.out.symm] at hr50; replace hr50 : Kd.F (Kd.int .i64) _ _ A50 y313.length y313 := (by rw [hA50]; exact hr50); rw [<- hy50, <- hA50, <- hc50] at hcut50; have HO317 := Aside0.mk (show Kd.V (Kd.int .i64) 3 _ w.heap.size _ (.slice A50 y313.length c50) y313 from Kd.V_mk (by rw [hy50, hc50]; exact Nat.sub_le_sub_right hroom50 _) hr50); have HC317 := Aside0.mk (show y313.length <= c50 from by rw [hy50, hc50]; exact Nat.sub_le_sub_right hroom50 _); clear hr50 hC50 hroom50 hi050 hsz50 hc50; have KY50 := Aside0.mk hy50; have KA50 := Aside0.mk hA50; clear hy50 hA50; replace q50 := eq_true q50))
        go_roundg k1
        case measure => have := HK1.out; omega
        case rel => exact ⟨(y310), (x10_1), (y313), (wrap64 (x12_1 + 1)), ez, H', ⟨by have := HK1.out; omega⟩, ⟨by refine rq ?_; exact HO312.out⟩, ⟨by (with_reducible repeat (first | apply Kd.Q_alloc | apply Kd.Q_drewN | apply Kd.Q_drew)); exact Kd.Q_mono HO_10.out (fun _ hk => hk.2)⟩, ⟨by (with_reducible repeat (first | apply Kd.V_alloc | apply Kd.V_drewN | apply Kd.V_drew)); exact Kd.V_mono HO317.out (fun _ hk => ⟨hk.2, ⟨hk.1.1, ⟨hk.1.2.1, hk.1.2.2⟩⟩⟩)⟩, ⟨by refine kq ?_; exact BK280.out⟩, ⟨by refine kq ?_; exact BK291.out⟩, ⟨(bz2 HB.out GE280.out GE291.out)⟩⟩
      ·rw [if_neg c33] at H
       have c33b0 := decide_eq_false c33
       clear c33
       replace H := bi H
       obtain ⟨t318, A510, H⟩ := H
       try dsimp only at H
       have A51 := Aside0.mk A510
       clear A510
       replace H := iz H
       obtain ⟨c52, H⟩ := H
       have c52b0 := eq_true c52
       have c52b1 : decide (1 + t318.size <= 9223372036854775807) = true := decide_eq_true c52
       try have c52b2 : (9223372036854775807 < 1 + t318.size) = False := eq_false (Nat.not_lt.2 c52)
       replace H := iz H
       obtain ⟨c53, H⟩ := H
       have c53b0 := eq_true c53
       have c53b1 : decide (((⟨#[40]⟩ : ByteArray) ++ t318).size + 1 <= 9223372036854775807) = true := decide_eq_true c53
       try have c53b2 : (9223372036854775807 < ((⟨#[40]⟩ : ByteArray) ++ t318).size + 1) = False := eq_false (Nat.not_lt.2 c53)
       (try (have c53b2z := c53b2; simp only [ByteArray.size_append, show (⟨#[40]⟩ : ByteArray).size = 1 from rfl] at c53b2z))
       obtain rfl := Option.some.inj H
       obtain ⟨Ao54, co54, eo54⟩ := Kd.R_slice HO_9.out
       subst eo54
       go_wp2_with (first | ((with_reducible refine gate_callee (f := 73) rfl ?_); refine goesL_ (some 75) rfl rfl Tryd.func73 (by kernel_rfl) rfl #[.slice Ao54 x9_1.length co54, .string (⟨#[32]⟩ : ByteArray)] rfl lz ?_; (with_reducible refine (strings_Join.calls _ _ x9_1 (⟨#[32]⟩ : ByteArray) t318 _ ?side1 ?side2 A51.out).mono ?_); (case side1 => exact cz (Kd.R_reads' HO_9.out).2.2); (case side2 => exact (Kd.R_reads' HO_9.out).2.1); rintro e w55 ⟨rfl, hb⟩; refine ⟨_, rfl, ?_⟩; replace HO_9 := qz HO_9 hb; replace HO_10 := Aside0.mk (Kd.Q_below (by (with_reducible repeat (first | apply Kd.Q_alloc | apply Kd.Q_drewN | apply Kd.Q_drew)); exact HO_10.out) hb); replace HO_11 := Aside0.mk (Kd.V_below (by (with_reducible repeat (first | apply Kd.V_alloc | apply Kd.V_drewN | apply Kd.V_drew)); exact HO_11.out) hb); replace BK280 := Aside0.mk (blk_below (kz BK280.out) hb); replace BK291 := Aside0.mk (blk_below (kz BK291.out) hb); replace HB := Aside0.mk (below_step (bz2 HB.out GE280.out GE291.out) hb); (try clear hb); (try clear hi)))
       go_ret
       exact ⟨gz, (bz2 HB.out GE280.out GE291.out)⟩
def impl_namesOf.j0 : Nat -> Int -> Bool -> Option (Int)
 | 0, _, _ => none
 | k + 1, x3, x4 => if x4 = true then (some 1) else (if x3 = 6 then (some 2) else (if x3 = 14 then (some 2) else (some 0)))
def impl_namesOf.f (k : Nat) (a0 : Int) : Option (Int) := if a0 = 1 then (impl_namesOf.j0 k a0 (a0 == 1)) else (if a0 = 3 then (impl_namesOf.j0 k a0 (a0 == 3)) else (if a0 = 5 then (impl_namesOf.j0 k a0 (a0 == 5)) else (impl_namesOf.j0 k a0 (a0 == 19))))
theorem impl_namesOf.mono_l : ∀ k, (∀ y0 y1, LeO (impl_namesOf.j0 k y0 y1) (impl_namesOf.j0 (k + 1) y0 y1))
 | 0 => fun _ _ r h => by simp [impl_namesOf.j0] at h
 | k + 1 => by
  have ih0 := impl_namesOf.mono_l k
  ·intro y0 y1
   unfold impl_namesOf.j0
   with_reducible repeat' first | exact ih0 _ _ | exact lrz _ | exact lnz _ | refine liz ?_ ?_ | refine lbz ?_ fun _ => ?_
theorem impl_namesOf.mono : ∀ a0 k, LeO (impl_namesOf.f k a0) (impl_namesOf.f (k + 1) a0) := by
 intro a0 k
 have ih0 := impl_namesOf.mono_l k
 unfold impl_namesOf.f
 with_reducible repeat' first | exact ih0 _ _ | exact lrz _ | exact lnz _ | refine liz ?_ ?_ | refine lbz ?_ fun _ => ?_
set_option maxHeartbeats 8000000 in
set_option maxRecDepth 100000 in
theorem impl_namesOf.calls (k : Nat) (a0 : Int) (r : Int) (w : World) (h : impl_namesOf.f k a0 = some r) :
  Calls Tryd.prog 78 #[.int .i64 a0] w fun e w' => e = .returned (.int .i64 r) /\ Drawn0 w w' := by
 have H : (if a0 = 1 then (impl_namesOf.j0 k a0 (a0 == 1)) else (if a0 = 3 then (impl_namesOf.j0 k a0 (a0 == 3)) else (if a0 = 5 then (impl_namesOf.j0 k a0 (a0 == 5)) else (impl_namesOf.j0 k a0 (a0 == 19))))) = some r := h
 clear h
 have HC2 := Aside0.mk H
 clear H
 go_enter Tryd.func78, Tryd.ntmps78
 go_upto_if 4 with (fail)
 go_cut [4] (fun v4 wc => ∃ (kq : Nat) (x4_1 : Bool), v4 = .bool x4_1 /\ Aside0 (impl_namesOf.j0 kq a0 x4_1 = some r) /\ Aside0 (kq <= k) /\ Drawn0 w wc)
 case first =>
  have H := HC2.out
  clear HC2
  by_cases c3 : a0 = 1
  ·rw [if_pos c3] at H
   have c3b0 : (a0 == 1) = true := beq_iff_eq.mpr c3
   have c3b1 : (a0 != 1) = false := bne_eq_false_iff_eq.mpr c3
   clear c3
   (first | rw [c3b0] | (simp only [i64_w, i32_w]; rw [c3b0]) | skip)
   have H' := Aside0.mk H
   clear H
   go_wp2
   go_meet
   case rel => exact ⟨_, ((a0 == 1)), ez, H', ⟨by first | omega | exact Nat.le_refl _⟩, dz⟩
  ·rw [if_neg c3] at H
   have c3b0 : (a0 == 1) = false := beq_eq_false_iff_ne.mpr c3
   have c3b1 : (a0 != 1) = true := bne_iff_ne.mpr c3
   (first | rw [c3b0] | (simp only [i64_w, i32_w]; rw [c3b0]) | skip)
   by_cases c4 : a0 = 3
   ·rw [if_pos c4] at H
    have c4b0 : (a0 == 3) = true := beq_iff_eq.mpr c4
    have c4b1 : (a0 != 3) = false := bne_eq_false_iff_eq.mpr c4
    clear c4
    have H' := Aside0.mk H
    clear H
    go_wp2
    go_meet
    case rel => exact ⟨_, ((a0 == 3)), ez, H', ⟨by first | omega | exact Nat.le_refl _⟩, dz⟩
   ·rw [if_neg c4] at H
    have c4b0 : (a0 == 3) = false := beq_eq_false_iff_ne.mpr c4
    have c4b1 : (a0 != 3) = true := bne_iff_ne.mpr c4
    by_cases c5 : a0 = 5
    ·rw [if_pos c5] at H
     have c5b0 : (a0 == 5) = true := beq_iff_eq.mpr c5
     have c5b1 : (a0 != 5) = false := bne_eq_false_iff_eq.mpr c5
     clear c5
     have H' := Aside0.mk H
     clear H
     go_wp2
     go_meet
     case rel => exact ⟨_, ((a0 == 5)), ez, H', ⟨by first | omega | exact Nat.le_refl _⟩, dz⟩
    ·rw [if_neg c5] at H
     have c5b0 : (a0 == 5) = false := beq_eq_false_iff_ne.mpr c5
     have c5b1 : (a0 != 5) = true := bne_iff_ne.mpr c5
     have H' := Aside0.mk H
     clear H
     go_wp2
     go_meet
     case rel => exact ⟨_, ((a0 == 19)), ez, H', ⟨by first | omega | exact Nat.le_refl _⟩, dz⟩
 case rest =>
  clear HC2
  try clear p2
  try clear c3
  try clear c3b0
  try clear c3b1
  try clear c4
  try clear c4b0
  try clear c4b1
  try clear c5
  try clear c5b0
  try clear c5b1
  obtain ⟨kq, x4_1, rfl, HA, HJ1, ⟨mc1, rfl⟩⟩ := hcut
  cases kq with
  | zero => exact absurd HA.out (by simp [impl_namesOf.j0])
  | succ kj1 =>
   have H := HA.out
   clear HA
   simp only [impl_namesOf.j0] at H
   by_cases c6 : x4_1 = true
   ·subst c6
    have H1 := hp H
    clear H
    have H := H1
    clear H1
    obtain rfl := Option.some.inj H
    go_wp2
    go_ret
    exact ⟨e2z, dz⟩
   ·replace c6 := Bool.eq_false_iff.mpr c6
    subst c6
    have H1 := hq H
    clear H
    have H := H1
    clear H1
    by_cases c7 : a0 = 6
    ·rw [if_pos c7] at H
     have c7b0 : (a0 == 6) = true := beq_iff_eq.mpr c7
     have c7b1 : (a0 != 6) = false := bne_eq_false_iff_eq.mpr c7
     clear c7
     obtain rfl := Option.some.inj H
     go_wp2
     go_ret
     exact ⟨e2z, dz⟩
    ·rw [if_neg c7] at H
     have c7b0 : (a0 == 6) = false := beq_eq_false_iff_ne.mpr c7
     have c7b1 : (a0 != 6) = true := bne_iff_ne.mpr c7
     by_cases c8 : a0 = 14
     ·rw [if_pos c8] at H
      have c8b0 : (a0 == 14) = true := beq_iff_eq.mpr c8
      have c8b1 : (a0 != 14) = false := bne_eq_false_iff_eq.mpr c8
      clear c8
      obtain rfl := Option.some.inj H
      go_wp2
      go_ret
      exact ⟨e2z, dz⟩
     ·rw [if_neg c8] at H
      have c8b0 : (a0 == 14) = false := beq_eq_false_iff_ne.mpr c8
      have c8b1 : (a0 != 14) = true := bne_iff_ne.mpr c8
      obtain rfl := Option.some.inj H
      go_wp2
      go_ret
      exact ⟨e2z, dz⟩
end Go.Proofs.YtmilegjmiiccdaaDoor.PFnExactPrintPart
