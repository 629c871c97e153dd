/- PFnLexedx6, of the words and walks that the law FnLexed needs; made by this session's program out of printed texts. -/

import Derived.Test.YtdjamdnjkdllgaaDoorVFnLexedPx0
import Derived.Test.YtdjamdnjkdllgaaDoorVFnLexedPx5
namespace Go.Proofs.YtdjamdnjkdllgaaDoor.PFnLexed
open Go.RowKit Go.Proofs.YtdjamdnjkdllgaaDoorW.PrintWords Go.Proofs.YtdjamdnjkdllgaaDoorW.PrintLast Go.Proofs.YtdjamdnjkdllgaaDoorW.PrintMore
attribute [local go_sem] max2_int min2_int max_two min_two max_three min_three max_four min_four
set_option linter.unusedVariables false
set_option linter.unusedSimpArgs false
def spec_DrawLex.f (k : Nat) (l0 : List Int) : Option (ByteArray) := (spec_l1New.f k l0).bind fun bt209 => ((spec_l2Source.f k bt209.1 bt209.2.1 bt209.2.2).bind fun bt213 => (some bt213.1))
theorem spec_DrawLex.mono : ∀ a0 k, LeO (spec_DrawLex.f k a0) (spec_DrawLex.f (k + 1) a0) := by
 intro a0 k
 unfold spec_DrawLex.f
 with_reducible repeat' first | exact spec_l1New.mono _ _ | exact spec_l2Source.mono _ _ _ _ | exact lrz _ | exact lnz _ | refine liz ?_ ?_ | refine lbz ?_ fun _ => ?_
set_option maxHeartbeats 8000000 in
set_option maxRecDepth 100000 in
theorem spec_DrawLex.calls (k : Nat) (A0 : Option Addr) (c0 : Nat) (l0 : List Int) (r : ByteArray) (w : World) (hr0 : Kd.C (Kd.int .u8) w A0 l0.length l0) (hc0 : l0.length <= c0) (h : spec_DrawLex.f k l0 = some r) :
  Calls Tryd.prog 25 #[.slice A0 l0.length c0] w fun e w' => e = .returned (.string r) /\ Below w.heap.size w w' := by
 have HR0 := Aside0.mk hr0
 have HC0 := Aside0.mk hc0
 clear hr0 hc0
 have HB := Aside0.mk (Below.refl w.heap.size w)
 have H : ((spec_l1New.f k l0).bind fun bt209 => ((spec_l2Source.f k bt209.1 bt209.2.1 bt209.2.2).bind fun bt213 => (some bt213.1))) = some r := h
 clear h
 replace H := bi H
 obtain ⟨⟨t209, t210, t211⟩, A20, H⟩ := H
 try dsimp only at H
 have A2 := Aside0.mk A20
 clear A20
 replace H := bi H
 obtain ⟨⟨t213, t214, t215⟩, A30, H⟩ := H
 try dsimp only at H
 have A3 := Aside0.mk A30
 clear A30
 obtain rfl := Option.some.inj H
 go_enter Tryd.func25, Tryd.ntmps25
 go_wp2_with (first | ((with_reducible refine gate_callee (f := 31) rfl ?_); refine goesL_ (some 5) rfl rfl Tryd.func31 (by kernel_rfl) rfl #[.slice A0 l0.length c0] rfl lz ?_; (with_reducible refine (spec_l1New.calls k _ _ l0 t209 t210 t211 w _ ?side1 ?side2 ?side3 A2.out).mono ?_); (case side1 => repeat (first | (with_reducible first | exact HB.out | apply below_alloc | apply pw_below_drewN | apply below_drew1) | exact HB.out)); (case side2 => exact HR0.out); (case side3 => exact HC0.out); rintro e w4 ⟨g212, rfl, hi, hb, hb2⟩; refine ⟨_, rfl, ?_⟩; replace HB := Aside0.mk (hb); have HI212 := Aside0.mk (hi); (try clear hb); (try clear hb2); (try clear hk); (try clear hi)) | ((with_reducible refine gate_callee (f := 46) rfl ?_); refine goesL_ (some 7) rfl rfl Tryd.func46 (by kernel_rfl) rfl #[.pointer (some ⟨g212, 0, none⟩)] rfl lz ?_; (with_reducible refine (spec_l2Source.calls k g212 t209 t210 t211 t213 t214 t215 w _ ?side1 ?side2 A3.out).mono ?_); (case side1 => repeat (first | (with_reducible first | exact HI212.out | apply IsS70.alloc | apply IsS70.drewN | apply IsS70.drew | apply IsS70.set_1 | apply IsS70.set_2) | exact HI212.out)); (case side2 => repeat (first | (with_reducible first | exact HB.out | apply below_alloc | apply pw_below_drewN | apply below_drew1 | refine below_set ?_ (IsS70.ge HI212.out)) | exact HB.out)); rintro e w5 ⟨rfl, hi, hb, hk⟩; refine ⟨_, rfl, ?_⟩; replace HB := Aside0.mk (hb); replace HI212 := Aside0.mk (hi); (try clear hb); (try clear hb2); (try clear hk); (try clear hi)))
 go_ret
 exact ⟨gz, by repeat (first | (with_reducible first | exact HB.out | apply below_alloc | apply pw_below_drewN | apply below_drew1 | refine below_set ?_ (IsS70.ge HI212.out)) | exact HB.out)⟩
def impl_Unlex.l0 : Nat -> List (S43) -> ByteArray -> List (S43) -> Int -> Int -> Option (ByteArray)
 | 0, _, _, _, _, _ => none
 | k + 1, x0, x3, x6, x7, x8 => if x8 < x7 then (if 0 <= x8 then (if x8 < (x6.length : Int) then (if x8 ≥ 4000 then (some x3) else (if x8 > 0 then (if 0 <= (wrap64 (x8 - 1)) then (if (wrap64 (x8 - 1)) < (x0.length : Int) then (if ((rd_T43 x0 (wrap64 (x8 - 1))).f0) = 1 then (if x3.size + ((rd_T43 x6 x8).f1).size <= 140737488355328 then (impl_Unlex.l0 k x0 (x3 ++ ((rd_T43 x6 x8).f1)) x6 x7 (wrap64 (x8 + 1))) else (none)) else (if ((rd_T43 x6 x8).f0) = 2 then (if x3.size + ((rd_T43 x6 x8).f1).size <= 140737488355328 then (impl_Unlex.l0 k x0 (x3 ++ ((rd_T43 x6 x8).f1)) x6 x7 (wrap64 (x8 + 1))) else (none)) else (if x3.size + 1 <= 140737488355328 then (if (x3 ++ (⟨#[32]⟩ : ByteArray)).size + ((rd_T43 x6 x8).f1).size <= 140737488355328 then (impl_Unlex.l0 k x0 ((x3 ++ (⟨#[32]⟩ : ByteArray)) ++ ((rd_T43 x6 x8).f1)) x6 x7 (wrap64 (x8 + 1))) else (none)) else (none)))) else (none)) else (none)) else (if x3.size + ((rd_T43 x6 x8).f1).size <= 140737488355328 then (impl_Unlex.l0 k x0 (x3 ++ ((rd_T43 x6 x8).f1)) x6 x7 (wrap64 (x8 + 1))) else (none)))) else (none)) else (none)) else (some x3)
def impl_Unlex.f (k : Nat) (l0 : List (S43)) : Option (ByteArray) := impl_Unlex.l0 k l0 (⟨#[]⟩ : ByteArray) l0 (l0.length : Int) 0
theorem impl_Unlex.mono_l : ∀ k, (∀ y0 y1 y2 y3 y4, LeO (impl_Unlex.l0 k y0 y1 y2 y3 y4) (impl_Unlex.l0 (k + 1) y0 y1 y2 y3 y4))
 | 0 => fun _ _ _ _ _ r h => by simp [impl_Unlex.l0] at h
 | k + 1 => by
  have ih0 := impl_Unlex.mono_l k
  ·intro y0 y1 y2 y3 y4
   unfold impl_Unlex.l0
   with_reducible repeat' first | exact ih0 _ _ _ _ _ | exact lrz _ | exact lnz _ | refine liz ?_ ?_ | refine lbz ?_ fun _ => ?_
theorem impl_Unlex.mono : ∀ a0 k, LeO (impl_Unlex.f k a0) (impl_Unlex.f (k + 1) a0) := by
 intro a0 k
 have ih0 := impl_Unlex.mono_l k
 unfold impl_Unlex.f
 with_reducible repeat' first | exact ih0 _ _ _ _ _ | exact lrz _ | exact lnz _ | refine liz ?_ ?_ | refine lbz ?_ fun _ => ?_
set_option maxHeartbeats 8000000 in
set_option maxRecDepth 100000 in
theorem impl_Unlex.calls (k : Nat) (A0 : Option Addr) (c0 : Nat) (l0 : List (S43)) (r : ByteArray) (w : World) (hr0 : Kd.C k43 w A0 l0.length l0) (hc0 : l0.length <= c0) (h : impl_Unlex.f k l0 = some r) :
  Calls Tryd.prog 27 #[.slice A0 l0.length c0] w fun e w' => e = .returned (.string r) /\ Below w.heap.size w w' := by
 have hu43 := Tryd.underlying43
 have HR0 := Aside0.mk hr0
 have HC0 := Aside0.mk hc0
 clear hr0 hc0
 have HB := Aside0.mk (Below.refl w.heap.size w)
 have H : (impl_Unlex.l0 k l0 (⟨#[]⟩ : ByteArray) l0 (l0.length : Int) 0) = some r := h
 clear h
 have H' := Aside0.mk H
 clear H
 go_enter Tryd.func27, Tryd.ntmps27
 go_wp2_with (first | ((with_reducible refine gate_dst (N := 3) rfl ?_); refine box_event ?hg (N := 3) ?hd (cs := #[.pointer none, .slice none 0 0]) (t := 66) ?hr ?_; (case hd => rfl); (case hg => rfl); (case hr => exact vz); intro gB hg wB hbox hb; have HI := Aside0.mk (IsB.new (B := w.heap.size) (by rw [hg]; exact (below_size (bz0 HB.out))) hbox); have n1_ := Aside0.mk (below_step (bz0 HB.out) hb); clear HB; have HB := n1_; clear n1_; clear hb hbox hg))
 (try simp only [Act.put, sz1, sz2, sz3])
 go_loopg [8] k (fun kq v8 w' => ∃ (x3_1 : ByteArray) (x8_1 : Int), v8 = .int .i64 x8_1 /\ Aside0 (impl_Unlex.l0 kq l0 x3_1 l0 (l0.length : Int) x8_1 = some r) /\ Aside0 (kq <= k) /\ Aside0 (IsB w.heap.size gB x3_1 w') /\ Aside0 (Below w.heap.size w w'))
 case atStart => exact ⟨((⟨#[]⟩ : ByteArray)), (0), ez, H', ⟨Nat.le_refl _⟩, ⟨(by first | (repeat (with_reducible first | exact HI.out | refine IsB.alloc ?_ _ | refine IsB.drewN ?_ _ | refine IsB.drew ?_); done) | exact HI.out)⟩, ⟨(bz0 HB.out)⟩⟩
 case round =>
  clear H'
  obtain ⟨x3_1, x8_1, rfl, HA, HK1, HI, HB⟩ := hrel
  cases gk with
  | zero => exact absurd HA.out (by simp [impl_Unlex.l0])
  | succ k1 =>
   have H := HA.out
   clear HA
   simp only [impl_Unlex.l0] at H
   by_cases c2 : x8_1 < (l0.length : Int)
   ·rw [if_pos c2] at H
    have c2b0 := decide_eq_true c2
    clear c2
    replace H := iz H
    obtain ⟨c3, H⟩ := H
    have c3b0 := decide_eq_true c3
    clear c3
    replace H := iz H
    obtain ⟨c4, H⟩ := H
    have c4b0 := decide_eq_true c4
    clear c4
    by_cases c5 : x8_1 ≥ 4000
    ·rw [if_pos c5] at H
     have c5b0 : decide (4000 <= x8_1) = true := decide_eq_true c5
     clear c5
     obtain rfl := Option.some.inj H
     have p216 : 0 <= (x8_1 : Int) := oz
     have q216 : x8_1 < (l0.length : Int) := oz
     obtain ⟨ad216, e216, hx216_0, hx216_1, hx216_2, hx216_3⟩ := at_T43 (Kd.C_below HR0.out HB.out) x8_1 p216 q216
     cases e216
     replace p216 := eq_true p216
     replace q216 := eq_true q216
     go_wp2_with (first | ((with_reducible refine gate_dst (N := 5) rfl ?_); refine box_event ?hg (N := 5) ?hd (cs := #[.int .i64 0, .string (⟨#[]⟩ : ByteArray), .int .i64 0, .int .i64 0]) (t := 43) ?hr ?_; (case hd => rfl); (case hg => rfl); (case hr => exact vz); intro gb217 hg w6 hbox hb; have BK217 := Aside0.mk (hbox); have GW217 := Aside0.mk ((by rw [hg]; exact (below_size (bz0 HB.out)) : w.heap.size <= gb217)); have GE217 := GW217; replace HB := Aside0.mk (below_step (bz0 HB.out) hb); have HI2 := Aside0.mk (IsB.below (by first | (repeat (with_reducible first | exact HI.out | refine IsB.alloc ?_ _ | refine IsB.drewN ?_ _ | refine IsB.drew ?_); done) | exact HI.out) hb); clear HI; have HI := HI2; clear HI2; clear hb hbox hg; obtain ⟨hcz7_0, hcz7_1, hcz7_2, hcz7_3⟩ := cz4 BK217.out; obtain ⟨hfz7_0, hfz7_1, hfz7_2, hfz7_3⟩ := fz4 BK217.out) | ((with_reducible refine gate_callee (f := 48) rfl ?_); refine goesL_ (some 36) rfl rfl Tryd.func48 (by kernel_rfl) rfl #[.pointer (some ⟨gB, 0, none⟩)] rfl lz ?_; (refine (read_string w.heap.size gB r _ ?hI ?hB).mono ?_); (case hI => exact (by first | (repeat (with_reducible first | exact HI.out | refine IsB.alloc ?_ _ | refine IsB.drewN ?_ _ | refine IsB.drew ?_ | exact isb_set4 HI.out BK217.out (by decide) _ _ _ _); done) | exact HI.out)); (case hB => exact (below_size (bz1 HB.out GE217.out))); rintro e w9_ ⟨rfl, hb_⟩; refine ⟨_, rfl, ?_⟩; have n1_ := Aside0.mk (Below.trans (bz1 HB.out GE217.out) hb_); clear HB; have HB := n1_; clear n1_; clear hb_) | ((with_reducible refine gate_callee (f := 48) rfl ?_); refine goesL_ (some 36) rfl rfl Tryd.func48 (by kernel_rfl) rfl #[.pointer (some ⟨gB, 0, none⟩)] rfl lz ?_; (refine (read_string w.heap.size gB x3_1 _ ?hI ?hB).mono ?_); (case hI => exact (by first | (repeat (with_reducible first | exact HI.out | refine IsB.alloc ?_ _ | refine IsB.drewN ?_ _ | refine IsB.drew ?_ | exact isb_set4 HI.out BK217.out (by decide) _ _ _ _); done) | exact HI.out)); (case hB => exact (below_size (bz1 HB.out GE217.out))); rintro e w9_ ⟨rfl, hb_⟩; refine ⟨_, rfl, ?_⟩; have n1_ := Aside0.mk (Below.trans (bz1 HB.out GE217.out) hb_); clear HB; have HB := n1_; clear n1_; clear hb_))
     go_ret
     exact ⟨gz, (bz1 HB.out GE217.out)⟩
    ·rw [if_neg c5] at H
     have c5b0 : decide (4000 <= x8_1) = false := decide_eq_false c5
     clear c5
     by_cases c8 : x8_1 > 0
     ·rw [if_pos c8] at H
      have c8b0 : decide (0 < x8_1) = true := decide_eq_true c8
      clear c8
      obtain ⟨ji9, hji9⟩ : ∃ j_ : Int, (wrap64 (x8_1 - 1)) = j_ := ⟨_, rfl⟩
      replace H : (if 0 <= (ji9) then (if (ji9) < (l0.length : Int) then (if ((rd_T43 l0 (ji9)).f0) = 1 then (if x3_1.size + ((rd_T43 l0 x8_1).f1).size <= 140737488355328 then (impl_Unlex.l0 k1 l0 (x3_1 ++ ((rd_T43 l0 x8_1).f1)) l0 (l0.length : Int) (wrap64 (x8_1 + 1))) else (none)) else (if ((rd_T43 l0 x8_1).f0) = 2 then (if x3_1.size + ((rd_T43 l0 x8_1).f1).size <= 140737488355328 then (impl_Unlex.l0 k1 l0 (x3_1 ++ ((rd_T43 l0 x8_1).f1)) l0 (l0.length : Int) (wrap64 (x8_1 + 1))) else (none)) else (if x3_1.size + 1 <= 140737488355328 then (if (x3_1 ++ (⟨#[32]⟩ : ByteArray)).size + ((rd_T43 l0 x8_1).f1).size <= 140737488355328 then (impl_Unlex.l0 k1 l0 ((x3_1 ++ (⟨#[32]⟩ : ByteArray)) ++ ((rd_T43 l0 x8_1).f1)) l0 (l0.length : Int) (wrap64 (x8_1 + 1))) else (none)) else (none)))) else (none)) else (none)) = some r := by first | (rw [hji9] at H; exact H) | (simp only [hji9] at H ⊢; exact H)
      have hji9w : (IntKind.i64.wrap (x8_1 - 1)) = ji9 := (i64_w _).trans hji9
      replace H := iz H
      obtain ⟨c10, H⟩ := H
      have c10b0 := decide_eq_true c10
      clear c10
      replace H := iz H
      obtain ⟨c11, H⟩ := H
      have c11b0 := decide_eq_true c11
      clear c11
      by_cases c12 : ((rd_T43 l0 (ji9)).f0) = 1
      ·rw [if_pos c12] at H
       have c12b0 : (((rd_T43 l0 (ji9)).f0) == 1) = true := beq_iff_eq.mpr c12
       have c12b1 : (((rd_T43 l0 (ji9)).f0) != 1) = false := bne_eq_false_iff_eq.mpr c12
       clear c12
       replace H := iz H
       obtain ⟨c13, H⟩ := H
       have c13b0 := eq_true c13
       have c13b1 : decide (x3_1.size + ((rd_T43 l0 x8_1).f1).size <= 140737488355328) = true := decide_eq_true c13
       try have c13b2 : (140737488355328 < x3_1.size + ((rd_T43 l0 x8_1).f1).size) = False := eq_false (Nat.not_lt.2 c13)
       have H' := Aside0.mk H
       clear H
       have p216 : 0 <= (x8_1 : Int) := oz
       have q216 : x8_1 < (l0.length : Int) := oz
       obtain ⟨ad216, e216, hx216_0, hx216_1, hx216_2, hx216_3⟩ := at_T43 (Kd.C_below HR0.out HB.out) x8_1 p216 q216
       cases e216
       replace p216 := eq_true p216
       replace q216 := eq_true q216
       go_wp2_with (first | ((with_reducible refine gate_dst (N := 5) rfl ?_); refine box_event ?hg (N := 5) ?hd (cs := #[.int .i64 0, .string (⟨#[]⟩ : ByteArray), .int .i64 0, .int .i64 0]) (t := 43) ?hr ?_; (case hd => rfl); (case hg => rfl); (case hr => exact vz); intro gb217 hg w14 hbox hb; have BK217 := Aside0.mk (hbox); have GW217 := Aside0.mk ((by rw [hg]; exact (below_size (bz0 HB.out)) : w.heap.size <= gb217)); have GE217 := GW217; replace HB := Aside0.mk (below_step (bz0 HB.out) hb); have HI2 := Aside0.mk (IsB.below (by first | (repeat (with_reducible first | exact HI.out | refine IsB.alloc ?_ _ | refine IsB.drewN ?_ _ | refine IsB.drew ?_); done) | exact HI.out) hb); clear HI; have HI := HI2; clear HI2; clear hb hbox hg; obtain ⟨hcz15_0, hcz15_1, hcz15_2, hcz15_3⟩ := cz4 BK217.out; obtain ⟨hfz15_0, hfz15_1, hfz15_2, hfz15_3⟩ := fz4 BK217.out; have p218 : 0 <= ((ji9) : Int) := oz; have q218 : (ji9) < (l0.length : Int) := oz; obtain ⟨ad218, e218, hx218_0, hx218_1, hx218_2, hx218_3⟩ := at_T43 HR0.out (ji9) p218 q218; obtain rfl : ad216 = ad218 := (by injection e218); have hn218_0 : ad216.block ≠ gb217 := Nat.ne_of_lt (Nat.lt_of_lt_of_le (by have := World.block_lt_of_cell? _ _ hx218_0; first | rwa [add_block] at this | exact this) GW217.out); have hn218_1 : ad216.block ≠ gb217 := Nat.ne_of_lt (Nat.lt_of_lt_of_le (by have := World.block_lt_of_cell? _ _ hx218_0; first | rwa [add_block] at this | exact this) GW217.out); have hn218_2 : ad216.block ≠ gb217 := Nat.ne_of_lt (Nat.lt_of_lt_of_le (by have := World.block_lt_of_cell? _ _ hx218_0; first | rwa [add_block] at this | exact this) GW217.out); have hn218_3 : ad216.block ≠ gb217 := Nat.ne_of_lt (Nat.lt_of_lt_of_le (by have := World.block_lt_of_cell? _ _ hx218_0; first | rwa [add_block] at this | exact this) GW217.out); replace hx218_0 := hz HB.out hx218_0; replace hx218_1 := hz HB.out hx218_1; replace hx218_2 := hz HB.out hx218_2; replace hx218_3 := hz HB.out hx218_3; replace hx218_0 := (cell_far (p := ⟨gb217, 0, none⟩) (nz hn218_0) (.int .i64 ((rd_T43 l0 x8_1).f0))).trans hx218_0; replace hx218_1 := (cell_far (p := ⟨gb217, 0, none⟩) (nz hn218_0) (.int .i64 ((rd_T43 l0 x8_1).f0))).trans hx218_1; replace hx218_2 := (cell_far (p := ⟨gb217, 0, none⟩) (nz hn218_0) (.int .i64 ((rd_T43 l0 x8_1).f0))).trans hx218_2; replace hx218_3 := (cell_far (p := ⟨gb217, 0, none⟩) (nz hn218_0) (.int .i64 ((rd_T43 l0 x8_1).f0))).trans hx218_3; replace hx218_0 := (cell_far (p := ⟨gb217, 1, none⟩) (nz hn218_1) (.string ((rd_T43 l0 x8_1).f1))).trans hx218_0; replace hx218_1 := (cell_far (p := ⟨gb217, 1, none⟩) (nz hn218_1) (.string ((rd_T43 l0 x8_1).f1))).trans hx218_1; replace hx218_2 := (cell_far (p := ⟨gb217, 1, none⟩) (nz hn218_1) (.string ((rd_T43 l0 x8_1).f1))).trans hx218_2; replace hx218_3 := (cell_far (p := ⟨gb217, 1, none⟩) (nz hn218_1) (.string ((rd_T43 l0 x8_1).f1))).trans hx218_3; replace hx218_0 := (cell_far (p := ⟨gb217, 2, none⟩) (nz hn218_2) (.int .i64 ((rd_T43 l0 x8_1).f2))).trans hx218_0; replace hx218_1 := (cell_far (p := ⟨gb217, 2, none⟩) (nz hn218_2) (.int .i64 ((rd_T43 l0 x8_1).f2))).trans hx218_1; replace hx218_2 := (cell_far (p := ⟨gb217, 2, none⟩) (nz hn218_2) (.int .i64 ((rd_T43 l0 x8_1).f2))).trans hx218_2; replace hx218_3 := (cell_far (p := ⟨gb217, 2, none⟩) (nz hn218_2) (.int .i64 ((rd_T43 l0 x8_1).f2))).trans hx218_3; replace hx218_0 := (cell_far (p := ⟨gb217, 3, none⟩) (nz hn218_3) (.int .i64 ((rd_T43 l0 x8_1).f3))).trans hx218_0; replace hx218_1 := (cell_far (p := ⟨gb217, 3, none⟩) (nz hn218_3) (.int .i64 ((rd_T43 l0 x8_1).f3))).trans hx218_1; replace hx218_2 := (cell_far (p := ⟨gb217, 3, none⟩) (nz hn218_3) (.int .i64 ((rd_T43 l0 x8_1).f3))).trans hx218_2; replace hx218_3 := (cell_far (p := ⟨gb217, 3, none⟩) (nz hn218_3) (.int .i64 ((rd_T43 l0 x8_1).f3))).trans hx218_3; clear hn218_0; clear hn218_1; clear hn218_2; clear hn218_3; replace p218 := eq_true p218; replace q218 := eq_true q218) | ((with_reducible refine gate_callee (f := 47) rfl ?_); refine goesL_ (some 34) rfl rfl Tryd.func47 (by kernel_rfl) rfl #[.pointer (some ⟨gB, 0, none⟩), .string ((rd_T43 l0 x8_1).f1)] rfl lz ?_; (refine (write_string w.heap.size gB x3_1 ((rd_T43 l0 x8_1).f1) _ ?hI (of_eq_true c13b0) ?hB).mono ?_); (case hI => exact (by first | (repeat (with_reducible first | exact HI.out | refine IsB.alloc ?_ _ | refine IsB.drewN ?_ _ | refine IsB.drew ?_ | exact isb_set4 HI.out BK217.out (by decide) _ _ _ _); done) | exact HI.out)); (case hB => exact (below_size (bz1 HB.out GE217.out))); rintro e w0_ ⟨rfl, hi_, hb_, hk_⟩; refine ⟨_, rfl, ?_⟩; have n0_ := Aside0.mk ((hk_ gb217 #[.int .i64 ((rd_T43 l0 x8_1).f0), .string ((rd_T43 l0 x8_1).f1), .int .i64 ((rd_T43 l0 x8_1).f2), .int .i64 ((rd_T43 l0 x8_1).f3)] 43 (by refine kq ?_; refine blk_put (t := 43) (cs := #[.int .i64 ((rd_T43 l0 x8_1).f0), .string ((rd_T43 l0 x8_1).f1), .int .i64 ((rd_T43 l0 x8_1).f2), .int .i64 0]) ?_ 3 _ rfl; refine kq ?_; refine blk_put (t := 43) (cs := #[.int .i64 ((rd_T43 l0 x8_1).f0), .string ((rd_T43 l0 x8_1).f1), .int .i64 0, .int .i64 0]) ?_ 2 _ rfl; refine kq ?_; refine blk_put (t := 43) (cs := #[.int .i64 ((rd_T43 l0 x8_1).f0), .string (⟨#[]⟩ : ByteArray), .int .i64 0, .int .i64 0]) ?_ 1 _ rfl; refine kq ?_; refine blk_put (t := 43) (cs := #[.int .i64 0, .string (⟨#[]⟩ : ByteArray), .int .i64 0, .int .i64 0]) ?_ 0 _ rfl; refine kq ?_; exact BK217.out) (by decide)).trans (by refine kq ?_; refine blk_put (t := 43) (cs := #[.int .i64 ((rd_T43 l0 x8_1).f0), .string ((rd_T43 l0 x8_1).f1), .int .i64 ((rd_T43 l0 x8_1).f2), .int .i64 0]) ?_ 3 _ rfl; refine kq ?_; refine blk_put (t := 43) (cs := #[.int .i64 ((rd_T43 l0 x8_1).f0), .string ((rd_T43 l0 x8_1).f1), .int .i64 0, .int .i64 0]) ?_ 2 _ rfl; refine kq ?_; refine blk_put (t := 43) (cs := #[.int .i64 ((rd_T43 l0 x8_1).f0), .string (⟨#[]⟩ : ByteArray), .int .i64 0, .int .i64 0]) ?_ 1 _ rfl; refine kq ?_; refine blk_put (t := 43) (cs := #[.int .i64 0, .string (⟨#[]⟩ : ByteArray), .int .i64 0, .int .i64 0]) ?_ 0 _ rfl; refine kq ?_; exact BK217.out)); have n1_ := Aside0.mk (Below.trans (bz1 HB.out GE217.out) hb_); clear HI; have HI := Aside0.mk hi_; clear HB; have HB := n1_; clear BK217; have BKF := n0_; clear n0_ n1_; clear hi_ hb_ hk_; have hcy0_0 := (blk_cell BKF.out 0).trans rfl; have hcy0_1 := (blk_cell BKF.out 1).trans rfl))
       go_roundg k1
       case measure => have := HK1.out; omega
       case rel => exact ⟨(x3_1 ++ ((rd_T43 l0 x8_1).f1)), (wrap64 (x8_1 + 1)), ez, H', ⟨by have := HK1.out; omega⟩, ⟨(by first | (repeat (with_reducible first | exact HI.out | refine IsB.alloc ?_ _ | refine IsB.drewN ?_ _ | refine IsB.drew ?_); done) | exact HI.out)⟩, ⟨(bz1 HB.out GE217.out)⟩⟩
      ·rw [if_neg c12] at H
       have c12b0 : (((rd_T43 l0 (ji9)).f0) == 1) = false := beq_eq_false_iff_ne.mpr c12
       have c12b1 : (((rd_T43 l0 (ji9)).f0) != 1) = true := bne_iff_ne.mpr c12
       by_cases c16 : ((rd_T43 l0 x8_1).f0) = 2
       ·rw [if_pos c16] at H
        have c16b0 : (((rd_T43 l0 x8_1).f0) == 2) = true := beq_iff_eq.mpr c16
        have c16b1 : (((rd_T43 l0 x8_1).f0) != 2) = false := bne_eq_false_iff_eq.mpr c16
        clear c16
        replace H := iz H
        obtain ⟨c17, H⟩ := H
        have c17b0 := eq_true c17
        have c17b1 : decide (x3_1.size + ((rd_T43 l0 x8_1).f1).size <= 140737488355328) = true := decide_eq_true c17
        try have c17b2 : (140737488355328 < x3_1.size + ((rd_T43 l0 x8_1).f1).size) = False := eq_false (Nat.not_lt.2 c17)
        have H' := Aside0.mk H
        clear H
        have p216 : 0 <= (x8_1 : Int) := oz
        have q216 : x8_1 < (l0.length : Int) := oz
        obtain ⟨ad216, e216, hx216_0, hx216_1, hx216_2, hx216_3⟩ := at_T43 (Kd.C_below HR0.out HB.out) x8_1 p216 q216
        cases e216
        replace p216 := eq_true p216
        replace q216 := eq_true q216
        go_wp2_with (first | ((with_reducible refine gate_dst (N := 5) rfl ?_); refine box_event ?hg (N := 5) ?hd (cs := #[.int .i64 0, .string (⟨#[]⟩ : ByteArray), .int .i64 0, .int .i64 0]) (t := 43) ?hr ?_; (case hd => rfl); (case hg => rfl); (case hr => exact vz); intro gb217 hg w18 hbox hb; have BK217 := Aside0.mk (hbox); have GW217 := Aside0.mk ((by rw [hg]; exact (below_size (bz0 HB.out)) : w.heap.size <= gb217)); have GE217 := GW217; replace HB := Aside0.mk (below_step (bz0 HB.out) hb); have HI2 := Aside0.mk (IsB.below (by first | (repeat (with_reducible first | exact HI.out | refine IsB.alloc ?_ _ | refine IsB.drewN ?_ _ | refine IsB.drew ?_); done) | exact HI.out) hb); clear HI; have HI := HI2; clear HI2; clear hb hbox hg; obtain ⟨hcz19_0, hcz19_1, hcz19_2, hcz19_3⟩ := cz4 BK217.out; obtain ⟨hfz19_0, hfz19_1, hfz19_2, hfz19_3⟩ := fz4 BK217.out; have p218 : 0 <= ((ji9) : Int) := oz; have q218 : (ji9) < (l0.length : Int) := oz; obtain ⟨ad218, e218, hx218_0, hx218_1, hx218_2, hx218_3⟩ := at_T43 HR0.out (ji9) p218 q218; obtain rfl : ad216 = ad218 := (by injection e218); have hn218_0 : ad216.block ≠ gb217 := Nat.ne_of_lt (Nat.lt_of_lt_of_le (by have := World.block_lt_of_cell? _ _ hx218_0; first | rwa [add_block] at this | exact this) GW217.out); have hn218_1 : ad216.block ≠ gb217 := Nat.ne_of_lt (Nat.lt_of_lt_of_le (by have := World.block_lt_of_cell? _ _ hx218_0; first | rwa [add_block] at this | exact this) GW217.out); have hn218_2 : ad216.block ≠ gb217 := Nat.ne_of_lt (Nat.lt_of_lt_of_le (by have := World.block_lt_of_cell? _ _ hx218_0; first | rwa [add_block] at this | exact this) GW217.out); have hn218_3 : ad216.block ≠ gb217 := Nat.ne_of_lt (Nat.lt_of_lt_of_le (by have := World.block_lt_of_cell? _ _ hx218_0; first | rwa [add_block] at this | exact this) GW217.out); replace hx218_0 := hz HB.out hx218_0; replace hx218_1 := hz HB.out hx218_1; replace hx218_2 := hz HB.out hx218_2; replace hx218_3 := hz HB.out hx218_3; replace hx218_0 := (cell_far (p := ⟨gb217, 0, none⟩) (nz hn218_0) (.int .i64 ((rd_T43 l0 x8_1).f0))).trans hx218_0; replace hx218_1 := (cell_far (p := ⟨gb217, 0, none⟩) (nz hn218_0) (.int .i64 ((rd_T43 l0 x8_1).f0))).trans hx218_1; replace hx218_2 := (cell_far (p := ⟨gb217, 0, none⟩) (nz hn218_0) (.int .i64 ((rd_T43 l0 x8_1).f0))).trans hx218_2; replace hx218_3 := (cell_far (p := ⟨gb217, 0, none⟩) (nz hn218_0) (.int .i64 ((rd_T43 l0 x8_1).f0))).trans hx218_3; replace hx218_0 := (cell_far (p := ⟨gb217, 1, none⟩) (nz hn218_1) (.string ((rd_T43 l0 x8_1).f1))).trans hx218_0; replace hx218_1 := (cell_far (p := ⟨gb217, 1, none⟩) (nz hn218_1) (.string ((rd_T43 l0 x8_1).f1))).trans hx218_1; replace hx218_2 := (cell_far (p := ⟨gb217, 1, none⟩) (nz hn218_1) (.string ((rd_T43 l0 x8_1).f1))).trans hx218_2; replace hx218_3 := (cell_far (p := ⟨gb217, 1, none⟩) (nz hn218_1) (.string ((rd_T43 l0 x8_1).f1))).trans hx218_3; replace hx218_0 := (cell_far (p := ⟨gb217, 2, none⟩) (nz hn218_2) (.int .i64 ((rd_T43 l0 x8_1).f2))).trans hx218_0; replace hx218_1 := (cell_far (p := ⟨gb217, 2, none⟩) (nz hn218_2) (.int .i64 ((rd_T43 l0 x8_1).f2))).trans hx218_1; replace hx218_2 := (cell_far (p := ⟨gb217, 2, none⟩) (nz hn218_2) (.int .i64 ((rd_T43 l0 x8_1).f2))).trans hx218_2; replace hx218_3 := (cell_far (p := ⟨gb217, 2, none⟩) (nz hn218_2) (.int .i64 ((rd_T43 l0 x8_1).f2))).trans hx218_3; replace hx218_0 := (cell_far (p := ⟨gb217, 3, none⟩) (nz hn218_3) (.int .i64 ((rd_T43 l0 x8_1).f3))).trans hx218_0; replace hx218_1 := (cell_far (p := ⟨gb217, 3, none⟩) (nz hn218_3) (.int .i64 ((rd_T43 l0 x8_1).f3))).trans hx218_1; replace hx218_2 := (cell_far (p := ⟨gb217, 3, none⟩) (nz hn218_3) (.int .i64 ((rd_T43 l0 x8_1).f3))).trans hx218_2; replace hx218_3 := (cell_far (p := ⟨gb217, 3, none⟩) (nz hn218_3) (.int .i64 ((rd_T43 l0 x8_1).f3))).trans hx218_3; clear hn218_0; clear hn218_1; clear hn218_2; clear hn218_3; replace p218 := eq_true p218; replace q218 := eq_true q218) | ((with_reducible refine gate_callee (f := 47) rfl ?_); refine goesL_ (some 34) rfl rfl Tryd.func47 (by kernel_rfl) rfl #[.pointer (some ⟨gB, 0, none⟩), .string ((rd_T43 l0 x8_1).f1)] rfl lz ?_; (refine (write_string w.heap.size gB x3_1 ((rd_T43 l0 x8_1).f1) _ ?hI (of_eq_true c17b0) ?hB).mono ?_); (case hI => exact (by first | (repeat (with_reducible first | exact HI.out | refine IsB.alloc ?_ _ | refine IsB.drewN ?_ _ | refine IsB.drew ?_ | exact isb_set4 HI.out BK217.out (by decide) _ _ _ _); done) | exact HI.out)); (case hB => exact (below_size (bz1 HB.out GE217.out))); rintro e w0_ ⟨rfl, hi_, hb_, hk_⟩; refine ⟨_, rfl, ?_⟩; have n0_ := Aside0.mk ((hk_ gb217 #[.int .i64 ((rd_T43 l0 x8_1).f0), .string ((rd_T43 l0 x8_1).f1), .int .i64 ((rd_T43 l0 x8_1).f2), .int .i64 ((rd_T43 l0 x8_1).f3)] 43 (by refine kq ?_; refine blk_put (t := 43) (cs := #[.int .i64 ((rd_T43 l0 x8_1).f0), .string ((rd_T43 l0 x8_1).f1), .int .i64 ((rd_T43 l0 x8_1).f2), .int .i64 0]) ?_ 3 _ rfl; refine kq ?_; refine blk_put (t := 43) (cs := #[.int .i64 ((rd_T43 l0 x8_1).f0), .string ((rd_T43 l0 x8_1).f1), .int .i64 0, .int .i64 0]) ?_ 2 _ rfl; refine kq ?_; refine blk_put (t := 43) (cs := #[.int .i64 ((rd_T43 l0 x8_1).f0), .string (⟨#[]⟩ : ByteArray), .int .i64 0, .int .i64 0]) ?_ 1 _ rfl; refine kq ?_; refine blk_put (t := 43) (cs := #[.int .i64 0, .string (⟨#[]⟩ : ByteArray), .int .i64 0, .int .i64 0]) ?_ 0 _ rfl; refine kq ?_; exact BK217.out) (by decide)).trans (by refine kq ?_; refine blk_put (t := 43) (cs := #[.int .i64 ((rd_T43 l0 x8_1).f0), .string ((rd_T43 l0 x8_1).f1), .int .i64 ((rd_T43 l0 x8_1).f2), .int .i64 0]) ?_ 3 _ rfl; refine kq ?_; refine blk_put (t := 43) (cs := #[.int .i64 ((rd_T43 l0 x8_1).f0), .string ((rd_T43 l0 x8_1).f1), .int .i64 0, .int .i64 0]) ?_ 2 _ rfl; refine kq ?_; refine blk_put (t := 43) (cs := #[.int .i64 ((rd_T43 l0 x8_1).f0), .string (⟨#[]⟩ : ByteArray), .int .i64 0, .int .i64 0]) ?_ 1 _ rfl; refine kq ?_; refine blk_put (t := 43) (cs := #[.int .i64 0, .string (⟨#[]⟩ : ByteArray), .int .i64 0, .int .i64 0]) ?_ 0 _ rfl; refine kq ?_; exact BK217.out)); have n1_ := Aside0.mk (Below.trans (bz1 HB.out GE217.out) hb_); clear HI; have HI := Aside0.mk hi_; clear HB; have HB := n1_; clear BK217; have BKF := n0_; clear n0_ n1_; clear hi_ hb_ hk_; have hcy0_0 := (blk_cell BKF.out 0).trans rfl; have hcy0_1 := (blk_cell BKF.out 1).trans rfl))
        go_roundg k1
        case measure => have := HK1.out; omega
        case rel => exact ⟨(x3_1 ++ ((rd_T43 l0 x8_1).f1)), (wrap64 (x8_1 + 1)), ez, H', ⟨by have := HK1.out; omega⟩, ⟨(by first | (repeat (with_reducible first | exact HI.out | refine IsB.alloc ?_ _ | refine IsB.drewN ?_ _ | refine IsB.drew ?_); done) | exact HI.out)⟩, ⟨(bz1 HB.out GE217.out)⟩⟩
       ·rw [if_neg c16] at H
        have c16b0 : (((rd_T43 l0 x8_1).f0) == 2) = false := beq_eq_false_iff_ne.mpr c16
        have c16b1 : (((rd_T43 l0 x8_1).f0) != 2) = true := bne_iff_ne.mpr c16
        replace H := iz H
        obtain ⟨c20, H⟩ := H
        have c20b0 := eq_true c20
        have c20b1 : decide (x3_1.size + 1 <= 140737488355328) = true := decide_eq_true c20
        try have c20b2 : (140737488355328 < x3_1.size + 1) = False := eq_false (Nat.not_lt.2 c20)
        replace H := iz H
        obtain ⟨c21, H⟩ := H
        have c21b0 := eq_true c21
        have c21b1 : decide ((x3_1 ++ (⟨#[32]⟩ : ByteArray)).size + ((rd_T43 l0 x8_1).f1).size <= 140737488355328) = true := decide_eq_true c21
        try have c21b2 : (140737488355328 < (x3_1 ++ (⟨#[32]⟩ : ByteArray)).size + ((rd_T43 l0 x8_1).f1).size) = False := eq_false (Nat.not_lt.2 c21)
        (try (have c21b2z := c21b2; simp only [ByteArray.size_append, show (⟨#[32]⟩ : ByteArray).size = 1 from rfl] at c21b2z))
        have H' := Aside0.mk H
        clear H
        have p216 : 0 <= (x8_1 : Int) := oz
        have q216 : x8_1 < (l0.length : Int) := oz
        obtain ⟨ad216, e216, hx216_0, hx216_1, hx216_2, hx216_3⟩ := at_T43 (Kd.C_below HR0.out HB.out) x8_1 p216 q216
        cases e216
        replace p216 := eq_true p216
        replace q216 := eq_true q216
        go_wp2_with (first | ((with_reducible refine gate_dst (N := 5) rfl ?_); refine box_event ?hg (N := 5) ?hd (cs := #[.int .i64 0, .string (⟨#[]⟩ : ByteArray), .int .i64 0, .int .i64 0]) (t := 43) ?hr ?_; (case hd => rfl); (case hg => rfl); (case hr => exact vz); intro gb217 hg w22 hbox hb; have BK217 := Aside0.mk (hbox); have GW217 := Aside0.mk ((by rw [hg]; exact (below_size (bz0 HB.out)) : w.heap.size <= gb217)); have GE217 := GW217; replace HB := Aside0.mk (below_step (bz0 HB.out) hb); have HI2 := Aside0.mk (IsB.below (by first | (repeat (with_reducible first | exact HI.out | refine IsB.alloc ?_ _ | refine IsB.drewN ?_ _ | refine IsB.drew ?_); done) | exact HI.out) hb); clear HI; have HI := HI2; clear HI2; clear hb hbox hg; obtain ⟨hcz23_0, hcz23_1, hcz23_2, hcz23_3⟩ := cz4 BK217.out; obtain ⟨hfz23_0, hfz23_1, hfz23_2, hfz23_3⟩ := fz4 BK217.out; have p218 : 0 <= ((ji9) : Int) := oz; have q218 : (ji9) < (l0.length : Int) := oz; obtain ⟨ad218, e218, hx218_0, hx218_1, hx218_2, hx218_3⟩ := at_T43 HR0.out (ji9) p218 q218; obtain rfl : ad216 = ad218 := (by injection e218); have hn218_0 : ad216.block ≠ gb217 := Nat.ne_of_lt (Nat.lt_of_lt_of_le (by have := World.block_lt_of_cell? _ _ hx218_0; first | rwa [add_block] at this | exact this) GW217.out); have hn218_1 : ad216.block ≠ gb217 := Nat.ne_of_lt (Nat.lt_of_lt_of_le (by have := World.block_lt_of_cell? _ _ hx218_0; first | rwa [add_block] at this | exact this) GW217.out); have hn218_2 : ad216.block ≠ gb217 := Nat.ne_of_lt (Nat.lt_of_lt_of_le (by have := World.block_lt_of_cell? _ _ hx218_0; first | rwa [add_block] at this | exact this) GW217.out); have hn218_3 : ad216.block ≠ gb217 := Nat.ne_of_lt (Nat.lt_of_lt_of_le (by have := World.block_lt_of_cell? _ _ hx218_0; first | rwa [add_block] at this | exact this) GW217.out); replace hx218_0 := hz HB.out hx218_0; replace hx218_1 := hz HB.out hx218_1; replace hx218_2 := hz HB.out hx218_2; replace hx218_3 := hz HB.out hx218_3; replace hx218_0 := (cell_far (p := ⟨gb217, 0, none⟩) (nz hn218_0) (.int .i64 ((rd_T43 l0 x8_1).f0))).trans hx218_0; replace hx218_1 := (cell_far (p := ⟨gb217, 0, none⟩) (nz hn218_0) (.int .i64 ((rd_T43 l0 x8_1).f0))).trans hx218_1; replace hx218_2 := (cell_far (p := ⟨gb217, 0, none⟩) (nz hn218_0) (.int .i64 ((rd_T43 l0 x8_1).f0))).trans hx218_2; replace hx218_3 := (cell_far (p := ⟨gb217, 0, none⟩) (nz hn218_0) (.int .i64 ((rd_T43 l0 x8_1).f0))).trans hx218_3; replace hx218_0 := (cell_far (p := ⟨gb217, 1, none⟩) (nz hn218_1) (.string ((rd_T43 l0 x8_1).f1))).trans hx218_0; replace hx218_1 := (cell_far (p := ⟨gb217, 1, none⟩) (nz hn218_1) (.string ((rd_T43 l0 x8_1).f1))).trans hx218_1; replace hx218_2 := (cell_far (p := ⟨gb217, 1, none⟩) (nz hn218_1) (.string ((rd_T43 l0 x8_1).f1))).trans hx218_2; replace hx218_3 := (cell_far (p := ⟨gb217, 1, none⟩) (nz hn218_1) (.string ((rd_T43 l0 x8_1).f1))).trans hx218_3; replace hx218_0 := (cell_far (p := ⟨gb217, 2, none⟩) (nz hn218_2) (.int .i64 ((rd_T43 l0 x8_1).f2))).trans hx218_0; replace hx218_1 := (cell_far (p := ⟨gb217, 2, none⟩) (nz hn218_2) (.int .i64 ((rd_T43 l0 x8_1).f2))).trans hx218_1; replace hx218_2 := (cell_far (p := ⟨gb217, 2, none⟩) (nz hn218_2) (.int .i64 ((rd_T43 l0 x8_1).f2))).trans hx218_2; replace hx218_3 := (cell_far (p := ⟨gb217, 2, none⟩) (nz hn218_2) (.int .i64 ((rd_T43 l0 x8_1).f2))).trans hx218_3; replace hx218_0 := (cell_far (p := ⟨gb217, 3, none⟩) (nz hn218_3) (.int .i64 ((rd_T43 l0 x8_1).f3))).trans hx218_0; replace hx218_1 := (cell_far (p := ⟨gb217, 3, none⟩) (nz hn218_3) (.int .i64 ((rd_T43 l0 x8_1).f3))).trans hx218_1; replace hx218_2 := (cell_far (p := ⟨gb217, 3, none⟩) (nz hn218_3) (.int .i64 ((rd_T43 l0 x8_1).f3))).trans hx218_2; replace hx218_3 := (cell_far (p := ⟨gb217, 3, none⟩) (nz hn218_3) (.int .i64 ((rd_T43 l0 x8_1).f3))).trans hx218_3; clear hn218_0; clear hn218_1; clear hn218_2; clear hn218_3; replace p218 := eq_true p218; replace q218 := eq_true q218) | ((with_reducible refine gate_callee (f := 47) rfl ?_); refine goesL_ (some 31) rfl rfl Tryd.func47 (by kernel_rfl) rfl #[.pointer (some ⟨gB, 0, none⟩), .string (⟨#[32]⟩ : ByteArray)] rfl lz ?_; (refine (write_string w.heap.size gB x3_1 (⟨#[32]⟩ : ByteArray) _ ?hI (of_eq_true c20b0) ?hB).mono ?_); (case hI => exact (by first | (repeat (with_reducible first | exact HI.out | refine IsB.alloc ?_ _ | refine IsB.drewN ?_ _ | refine IsB.drew ?_ | exact isb_set4 HI.out BK217.out (by decide) _ _ _ _); done) | exact HI.out)); (case hB => exact (below_size (bz1 HB.out GE217.out))); rintro e w0_ ⟨rfl, hi_, hb_, hk_⟩; refine ⟨_, rfl, ?_⟩; have n0_ := Aside0.mk ((hk_ gb217 #[.int .i64 ((rd_T43 l0 x8_1).f0), .string ((rd_T43 l0 x8_1).f1), .int .i64 ((rd_T43 l0 x8_1).f2), .int .i64 ((rd_T43 l0 x8_1).f3)] 43 (by refine kq ?_; refine blk_put (t := 43) (cs := #[.int .i64 ((rd_T43 l0 x8_1).f0), .string ((rd_T43 l0 x8_1).f1), .int .i64 ((rd_T43 l0 x8_1).f2), .int .i64 0]) ?_ 3 _ rfl; refine kq ?_; refine blk_put (t := 43) (cs := #[.int .i64 ((rd_T43 l0 x8_1).f0), .string ((rd_T43 l0 x8_1).f1), .int .i64 0, .int .i64 0]) ?_ 2 _ rfl; refine kq ?_; refine blk_put (t := 43) (cs := #[.int .i64 ((rd_T43 l0 x8_1).f0), .string (⟨#[]⟩ : ByteArray), .int .i64 0, .int .i64 0]) ?_ 1 _ rfl; refine kq ?_; refine blk_put (t := 43) (cs := #[.int .i64 0, .string (⟨#[]⟩ : ByteArray), .int .i64 0, .int .i64 0]) ?_ 0 _ rfl; refine kq ?_; exact BK217.out) (by decide)).trans (by refine kq ?_; refine blk_put (t := 43) (cs := #[.int .i64 ((rd_T43 l0 x8_1).f0), .string ((rd_T43 l0 x8_1).f1), .int .i64 ((rd_T43 l0 x8_1).f2), .int .i64 0]) ?_ 3 _ rfl; refine kq ?_; refine blk_put (t := 43) (cs := #[.int .i64 ((rd_T43 l0 x8_1).f0), .string ((rd_T43 l0 x8_1).f1), .int .i64 0, .int .i64 0]) ?_ 2 _ rfl; refine kq ?_; refine blk_put (t := 43) (cs := #[.int .i64 ((rd_T43 l0 x8_1).f0), .string (⟨#[]⟩ : ByteArray), .int .i64 0, .int .i64 0]) ?_ 1 _ rfl; refine kq ?_; refine blk_put (t := 43) (cs := #[.int .i64 0, .string (⟨#[]⟩ : ByteArray), .int .i64 0, .int .i64 0]) ?_ 0 _ rfl; refine kq ?_; exact BK217.out)); have n1_ := Aside0.mk (Below.trans (bz1 HB.out GE217.out) hb_); clear HI; have HI := Aside0.mk hi_; clear HB; have HB := n1_; clear BK217; have BKF := n0_; clear n0_ n1_; clear hi_ hb_ hk_; have hcy0_0 := (blk_cell BKF.out 0).trans rfl; have hcy0_1 := (blk_cell BKF.out 1).trans rfl) | ((with_reducible refine gate_callee (f := 47) rfl ?_); refine goesL_ (some 34) rfl rfl Tryd.func47 (by kernel_rfl) rfl #[.pointer (some ⟨gB, 0, none⟩), .string ((rd_T43 l0 x8_1).f1)] rfl lz ?_; (refine (write_string w.heap.size gB (x3_1 ++ (⟨#[32]⟩ : ByteArray)) ((rd_T43 l0 x8_1).f1) _ ?hI (of_eq_true c21b0) ?hB).mono ?_); (case hI => exact (by first | (repeat (with_reducible first | exact HI.out | refine IsB.alloc ?_ _ | refine IsB.drewN ?_ _ | refine IsB.drew ?_); done) | exact HI.out)); (case hB => exact (below_size (bz1 HB.out GE217.out))); rintro e w1_ ⟨rfl, hi_, hb_, hk_⟩; refine ⟨_, rfl, ?_⟩; have n0_ := Aside0.mk ((hk_ gb217 #[.int .i64 ((rd_T43 l0 x8_1).f0), .string ((rd_T43 l0 x8_1).f1), .int .i64 ((rd_T43 l0 x8_1).f2), .int .i64 ((rd_T43 l0 x8_1).f3)] 43 (kz BKF.out) (by decide)).trans (kz BKF.out)); have n1_ := Aside0.mk (Below.trans (bz1 HB.out GE217.out) hb_); clear HI; have HI := Aside0.mk hi_; clear HB; have HB := n1_; clear BKF; have BKF := n0_; clear n0_ n1_; clear hi_ hb_ hk_; have hcy1_0 := (blk_cell BKF.out 0).trans rfl; have hcy1_1 := (blk_cell BKF.out 1).trans rfl))
        go_roundg k1
        case measure => have := HK1.out; omega
        case rel => exact ⟨((x3_1 ++ (⟨#[32]⟩ : ByteArray)) ++ ((rd_T43 l0 x8_1).f1)), (wrap64 (x8_1 + 1)), ez, H', ⟨by have := HK1.out; omega⟩, ⟨(by first | (repeat (with_reducible first | exact HI.out | refine IsB.alloc ?_ _ | refine IsB.drewN ?_ _ | refine IsB.drew ?_); done) | exact HI.out)⟩, ⟨(bz1 HB.out GE217.out)⟩⟩
     ·rw [if_neg c8] at H
      have c8b0 : decide (0 < x8_1) = false := decide_eq_false c8
      clear c8
      replace H := iz H
      obtain ⟨c24, H⟩ := H
      have c24b0 := eq_true c24
      have c24b1 : decide (x3_1.size + ((rd_T43 l0 x8_1).f1).size <= 140737488355328) = true := decide_eq_true c24
      try have c24b2 : (140737488355328 < x3_1.size + ((rd_T43 l0 x8_1).f1).size) = False := eq_false (Nat.not_lt.2 c24)
      have H' := Aside0.mk H
      clear H
      have p216 : 0 <= (x8_1 : Int) := oz
      have q216 : x8_1 < (l0.length : Int) := oz
      obtain ⟨ad216, e216, hx216_0, hx216_1, hx216_2, hx216_3⟩ := at_T43 (Kd.C_below HR0.out HB.out) x8_1 p216 q216
      cases e216
      replace p216 := eq_true p216
      replace q216 := eq_true q216
      go_wp2_with (first | ((with_reducible refine gate_dst (N := 5) rfl ?_); refine box_event ?hg (N := 5) ?hd (cs := #[.int .i64 0, .string (⟨#[]⟩ : ByteArray), .int .i64 0, .int .i64 0]) (t := 43) ?hr ?_; (case hd => rfl); (case hg => rfl); (case hr => exact vz); intro gb217 hg w25 hbox hb; have BK217 := Aside0.mk (hbox); have GW217 := Aside0.mk ((by rw [hg]; exact (below_size (bz0 HB.out)) : w.heap.size <= gb217)); have GE217 := GW217; replace HB := Aside0.mk (below_step (bz0 HB.out) hb); have HI2 := Aside0.mk (IsB.below (by first | (repeat (with_reducible first | exact HI.out | refine IsB.alloc ?_ _ | refine IsB.drewN ?_ _ | refine IsB.drew ?_); done) | exact HI.out) hb); clear HI; have HI := HI2; clear HI2; clear hb hbox hg; obtain ⟨hcz26_0, hcz26_1, hcz26_2, hcz26_3⟩ := cz4 BK217.out; obtain ⟨hfz26_0, hfz26_1, hfz26_2, hfz26_3⟩ := fz4 BK217.out) | ((with_reducible refine gate_callee (f := 47) rfl ?_); refine goesL_ (some 34) rfl rfl Tryd.func47 (by kernel_rfl) rfl #[.pointer (some ⟨gB, 0, none⟩), .string ((rd_T43 l0 x8_1).f1)] rfl lz ?_; (refine (write_string w.heap.size gB x3_1 ((rd_T43 l0 x8_1).f1) _ ?hI (of_eq_true c24b0) ?hB).mono ?_); (case hI => exact (by first | (repeat (with_reducible first | exact HI.out | refine IsB.alloc ?_ _ | refine IsB.drewN ?_ _ | refine IsB.drew ?_ | exact isb_set4 HI.out BK217.out (by decide) _ _ _ _); done) | exact HI.out)); (case hB => exact (below_size (bz1 HB.out GE217.out))); rintro e w0_ ⟨rfl, hi_, hb_, hk_⟩; refine ⟨_, rfl, ?_⟩; have n0_ := Aside0.mk ((hk_ gb217 #[.int .i64 ((rd_T43 l0 x8_1).f0), .string ((rd_T43 l0 x8_1).f1), .int .i64 ((rd_T43 l0 x8_1).f2), .int .i64 ((rd_T43 l0 x8_1).f3)] 43 (by refine kq ?_; refine blk_put (t := 43) (cs := #[.int .i64 ((rd_T43 l0 x8_1).f0), .string ((rd_T43 l0 x8_1).f1), .int .i64 ((rd_T43 l0 x8_1).f2), .int .i64 0]) ?_ 3 _ rfl; refine kq ?_; refine blk_put (t := 43) (cs := #[.int .i64 ((rd_T43 l0 x8_1).f0), .string ((rd_T43 l0 x8_1).f1), .int .i64 0, .int .i64 0]) ?_ 2 _ rfl; refine kq ?_; refine blk_put (t := 43) (cs := #[.int .i64 ((rd_T43 l0 x8_1).f0), .string (⟨#[]⟩ : ByteArray), .int .i64 0, .int .i64 0]) ?_ 1 _ rfl; refine kq ?_; refine blk_put (t := 43) (cs := #[.int .i64 0, .string (⟨#[]⟩ : ByteArray), .int .i64 0, .int .i64 0]) ?_ 0 _ rfl; refine kq ?_; exact BK217.out) (by decide)).trans (by refine kq ?_; refine blk_put (t := 43) (cs := #[.int .i64 ((rd_T43 l0 x8_1).f0), .string ((rd_T43 l0 x8_1).f1), .int .i64 ((rd_T43 l0 x8_1).f2), .int .i64 0]) ?_ 3 _ rfl; refine kq ?_; refine blk_put (t := 43) (cs := #[.int .i64 ((rd_T43 l0 x8_1).f0), .string ((rd_T43 l0 x8_1).f1), .int .i64 0, .int .i64 0]) ?_ 2 _ rfl; refine kq ?_; refine blk_put (t := 43) (cs := #[.int .i64 ((rd_T43 l0 x8_1).f0), .string (⟨#[]⟩ : ByteArray), .int .i64 0, .int .i64 0]) ?_ 1 _ rfl; refine kq ?_; refine blk_put (t := 43) (cs := #[.int .i64 0, .string (⟨#[]⟩ : ByteArray), .int .i64 0, .int .i64 0]) ?_ 0 _ rfl; refine kq ?_; exact BK217.out)); have n1_ := Aside0.mk (Below.trans (bz1 HB.out GE217.out) hb_); clear HI; have HI := Aside0.mk hi_; clear HB; have HB := n1_; clear BK217; have BKF := n0_; clear n0_ n1_; clear hi_ hb_ hk_; have hcy0_0 := (blk_cell BKF.out 0).trans rfl; have hcy0_1 := (blk_cell BKF.out 1).trans rfl))
      go_roundg k1
      case measure => have := HK1.out; omega
      case rel => exact ⟨(x3_1 ++ ((rd_T43 l0 x8_1).f1)), (wrap64 (x8_1 + 1)), ez, H', ⟨by have := HK1.out; omega⟩, ⟨(by first | (repeat (with_reducible first | exact HI.out | refine IsB.alloc ?_ _ | refine IsB.drewN ?_ _ | refine IsB.drew ?_); done) | exact HI.out)⟩, ⟨(bz1 HB.out GE217.out)⟩⟩
   ·rw [if_neg c2] at H
    have c2b0 := decide_eq_false c2
    clear c2
    obtain rfl := Option.some.inj H
    go_wp2_with (first | ((with_reducible refine gate_callee (f := 48) rfl ?_); refine goesL_ (some 36) rfl rfl Tryd.func48 (by kernel_rfl) rfl #[.pointer (some ⟨gB, 0, none⟩)] rfl lz ?_; (refine (read_string w.heap.size gB r _ ?hI ?hB).mono ?_); (case hI => exact (by first | (repeat (with_reducible first | exact HI.out | refine IsB.alloc ?_ _ | refine IsB.drewN ?_ _ | refine IsB.drew ?_); done) | exact HI.out)); (case hB => exact (below_size (bz0 HB.out))); rintro e w9_ ⟨rfl, hb_⟩; refine ⟨_, rfl, ?_⟩; have n1_ := Aside0.mk (Below.trans (bz0 HB.out) hb_); clear HB; have HB := n1_; clear n1_; clear hb_) | ((with_reducible refine gate_callee (f := 48) rfl ?_); refine goesL_ (some 36) rfl rfl Tryd.func48 (by kernel_rfl) rfl #[.pointer (some ⟨gB, 0, none⟩)] rfl lz ?_; (refine (read_string w.heap.size gB x3_1 _ ?hI ?hB).mono ?_); (case hI => exact (by first | (repeat (with_reducible first | exact HI.out | refine IsB.alloc ?_ _ | refine IsB.drewN ?_ _ | refine IsB.drew ?_); done) | exact HI.out)); (case hB => exact (below_size (bz0 HB.out))); rintro e w9_ ⟨rfl, hb_⟩; refine ⟨_, rfl, ?_⟩; have n1_ := Aside0.mk (Below.trans (bz0 HB.out) hb_); clear HB; have HB := n1_; clear n1_; clear hb_))
    go_ret
    exact ⟨gz, (bz0 HB.out)⟩
end Go.Proofs.YtdjamdnjkdllgaaDoor.PFnLexed
