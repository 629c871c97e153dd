/- PFnExactCanonx7, of the words and walks that the law FnExactCanon needs; made by this session's program out of printed texts. -/

import Derived.Test.YtmilegjmiiccdaaDoorVECanonPx0
import Derived.Test.YtmilegjmiiccdaaDoorVECanonPx4
import Derived.Test.YtmilegjmiiccdaaDoorVECanonPx6
namespace Go.Proofs.YtmilegjmiiccdaaDoor.PFnExactCanon
open Go.RowKit Go.Proofs.YtmilegjmiiccdaaDoorW.PrintWords Go.Proofs.YtmilegjmiiccdaaDoorW.PrintLast Go.Proofs.YtmilegjmiiccdaaDoorW.PrintMore
attribute [local go_sem] max2_int min2_int max_two min_two max_three min_three max_four min_four
set_option linter.unusedVariables false
set_option linter.unusedSimpArgs false
def spec_ParentOf.l0 : Nat -> List (S43) -> Int -> Int -> Option (Int)
 | 0, _, _, _ => none
 | k + 1, x0, x1, x5 => if x5 < (x0.length : Int) then (if 0 <= x5 then ((spec_Kids.f k ((rd_T43 x0 x5).f0) ((rd_T43 x0 x5).f1) ((rd_T43 x0 x5).f2) ((rd_T43 x0 x5).f3) ((rd_T43 x0 x5).f4) ((rd_T43 x0 x5).f5) ((rd_T43 x0 x5).f6)).bind fun t221 => ((spec_l4Has.f k t221 x1).bind fun t224 => (if t224 = true then (some x5) else (spec_ParentOf.l0 k x0 x1 (wrap64 (x5 + 1)))))) else (none)) else (some (-1))
def spec_ParentOf.f (k : Nat) (l0 : List (S43)) (a1 : Int) : Option (Int) := (spec_NodesOk.f k l0).bind fun t219 => (if t219 = true then (spec_ParentOf.l0 k l0 a1 0) else (some (-1)))
theorem spec_ParentOf.mono_l : ∀ k, (∀ y0 y1 y2, LeO (spec_ParentOf.l0 k y0 y1 y2) (spec_ParentOf.l0 (k + 1) y0 y1 y2))
 | 0 => fun _ _ _ r h => by simp [spec_ParentOf.l0] at h
 | k + 1 => by
  have ih0 := spec_ParentOf.mono_l k
  ·intro y0 y1 y2
   unfold spec_ParentOf.l0
   with_reducible repeat' first | exact ih0 _ _ _ | exact spec_Kids.mono _ _ _ _ _ _ _ _ | exact spec_NodesOk.mono _ _ | exact spec_l4Has.mono _ _ _ | exact lrz _ | exact lnz _ | refine liz ?_ ?_ | refine lbz ?_ fun _ => ?_
theorem spec_ParentOf.mono : ∀ a0 a1 k, LeO (spec_ParentOf.f k a0 a1) (spec_ParentOf.f (k + 1) a0 a1) := by
 intro a0 a1 k
 have ih0 := spec_ParentOf.mono_l k
 unfold spec_ParentOf.f
 with_reducible repeat' first | exact ih0 _ _ _ | exact spec_Kids.mono _ _ _ _ _ _ _ _ | exact spec_NodesOk.mono _ _ | exact spec_l4Has.mono _ _ _ | exact lrz _ | exact lnz _ | refine liz ?_ ?_ | refine lbz ?_ fun _ => ?_
set_option maxHeartbeats 8000000 in
set_option maxRecDepth 100000 in
theorem spec_ParentOf.calls (k : Nat) (A0 : Option Addr) (c0 : Nat) (l0 : List (S43)) (a1 : Int) (r : Int) (w : World) (hr0 : Kd.C k43 w A0 l0.length l0) (hc0 : l0.length <= c0) (h : spec_ParentOf.f k l0 a1 = some r) :
  Calls Tryd.prog 41 #[.slice A0 l0.length c0, .int .i64 a1] w fun e w' => e = .returned (.int .i64 r) /\ Below w.heap.size w w' := by
 have hu43 := Tryd.underlying43
 have HR0 := Aside0.mk hr0
 have HC0 := Aside0.mk hc0
 clear hr0 hc0
 have HB := Aside0.mk (Below.refl w.heap.size w)
 have H : ((spec_NodesOk.f k l0).bind fun t219 => (if t219 = true then (spec_ParentOf.l0 k l0 a1 0) else (some (-1)))) = some r := h
 clear h
 replace H := bi H
 obtain ⟨t219, A30, H⟩ := H
 try dsimp only at H
 have A3 := Aside0.mk A30
 clear A30
 by_cases c4 : t219 = true
 ·subst c4
  have H1 := hp H
  clear H
  have H := H1
  clear H1
  have H' := Aside0.mk H
  clear H
  go_enter Tryd.func41, Tryd.ntmps41
  go_wp2_with (first | ((with_reducible refine gate_callee (f := 33) rfl ?_); refine goesL_ (some 7) rfl rfl Tryd.func33 (by kernel_rfl) rfl #[.slice A0 l0.length c0] rfl lz ?_; (with_reducible refine (spec_NodesOk.calls k _ _ l0 true _ ?side1 ?side2 A3.out).mono ?_); (case side1 => repeat (first | exact HR0.out | (with_reducible refine Kd.C_alloc ?_ _) | (with_reducible refine Kd.C_drewN ?_ _) | (with_reducible refine Kd.C_drew ?_))); (case side2 => exact HC0.out); rintro e w5 ⟨rfl, hb⟩; refine ⟨_, rfl, ?_⟩; replace HB := Aside0.mk (below_step (bz0 HB.out) hb); (try clear hb); (try clear hi)))
  go_loopg [5] k (fun kq v5 w' => ∃ (x5_1 : Int), v5 = .int .i64 x5_1 /\ Aside0 (spec_ParentOf.l0 kq l0 a1 x5_1 = some r) /\ Aside0 (kq <= k) /\ Aside0 (Below w.heap.size w w'))
  case atStart => exact ⟨(0), ez, H', ⟨Nat.le_refl _⟩, ⟨(bz0 HB.out)⟩⟩
  case round =>
   clear H'
   try clear p2
   try clear c3
   try clear c4
   obtain ⟨x5_1, rfl, HA, HK1, HB⟩ := hrel
   cases gk with
   | zero => exact absurd HA.out (by simp [spec_ParentOf.l0])
   | succ k1 =>
    have H := HA.out
    clear HA
    simp only [spec_ParentOf.l0] at H
    by_cases c6 : x5_1 < (l0.length : Int)
    ·rw [if_pos c6] at H
     have c6b0 := decide_eq_true c6
     clear c6
     replace H := iz H
     obtain ⟨c7, H⟩ := H
     have c7b0 := decide_eq_true c7
     clear c7
     replace H := bi H
     obtain ⟨t221, A80, H⟩ := H
     try dsimp only at H
     have A8 := Aside0.mk A80
     clear A80
     replace H := bi H
     obtain ⟨t224, A90, H⟩ := H
     try dsimp only at H
     have A9 := Aside0.mk A90
     clear A90
     by_cases c10 : t224 = true
     ·subst c10
      have H1 := hp H
      clear H
      have H := H1
      clear H1
      obtain rfl := Option.some.inj H
      have p220 : 0 <= (x5_1 : Int) := oz
      have q220 : x5_1 < (l0.length : Int) := oz
      obtain ⟨ad220, e220, hx220_0, hx220_1, hx220_2, hx220_3, hx220_4, hx220_5, hx220_6⟩ := at_T43 (Kd.C_below HR0.out HB.out) x5_1 p220 q220
      cases e220
      replace p220 := eq_true p220
      replace q220 := eq_true q220
      go_wp2_with (first | ((with_reducible refine gate_callee (f := 67) rfl ?_); refine goesL_ (some 19) rfl rfl Tryd.func67 (by kernel_rfl) rfl #[.agg #[.int .i64 ((rd_T43 l0 x5_1).f0), .int .i64 ((rd_T43 l0 x5_1).f1), .int .i64 ((rd_T43 l0 x5_1).f2), .int .i64 ((rd_T43 l0 x5_1).f3), .int .i64 ((rd_T43 l0 x5_1).f4), .string ((rd_T43 l0 x5_1).f5), .string ((rd_T43 l0 x5_1).f6)]] rfl lz ?_; (with_reducible refine (spec_Kids.calls k1 ((rd_T43 l0 x5_1).f0) ((rd_T43 l0 x5_1).f1) ((rd_T43 l0 x5_1).f2) ((rd_T43 l0 x5_1).f3) ((rd_T43 l0 x5_1).f4) ((rd_T43 l0 x5_1).f5) ((rd_T43 l0 x5_1).f6) t221 _ A8.out).mono ?_); rintro e w11 ⟨v222, rfl, ho0, hb⟩; refine ⟨_, rfl, ?_⟩; have HO223 := Aside0.mk (Kd.R_lower ho0 (below_size (bz0 HB.out))); replace HB := Aside0.mk (below_step (bz0 HB.out) hb); (try clear hb); (try clear ho0); obtain ⟨Ao12, co12, eo12⟩ := Kd.R_slice HO223.out; subst eo12) | ((with_reducible refine gate_callee (f := 75) rfl ?_); refine goesL_ (some 21) rfl rfl Tryd.func75 (by kernel_rfl) rfl #[.slice Ao12 t221.length co12, .int .i64 a1] rfl lz ?_; (with_reducible refine (spec_l4Has.calls k1 _ _ t221 a1 true _ ?side1 ?side2 A9.out).mono ?_); (case side1 => exact cz (Kd.R_reads' HO223.out).2.2); (case side2 => exact (Kd.R_reads' HO223.out).2.1); rintro e w' ⟨rfl, ⟨nd, rfl⟩⟩; refine ⟨_, rfl, ?_⟩))
      go_ret
      exact ⟨gz, (bz0 HB.out)⟩
     ·replace c10 := Bool.eq_false_iff.mpr c10
      subst c10
      have H1 := hq H
      clear H
      have H := H1
      clear H1
      have H' := Aside0.mk H
      clear H
      have p220 : 0 <= (x5_1 : Int) := oz
      have q220 : x5_1 < (l0.length : Int) := oz
      obtain ⟨ad220, e220, hx220_0, hx220_1, hx220_2, hx220_3, hx220_4, hx220_5, hx220_6⟩ := at_T43 (Kd.C_below HR0.out HB.out) x5_1 p220 q220
      cases e220
      replace p220 := eq_true p220
      replace q220 := eq_true q220
      go_wp2_with (first | ((with_reducible refine gate_callee (f := 67) rfl ?_); refine goesL_ (some 19) rfl rfl Tryd.func67 (by kernel_rfl) rfl #[.agg #[.int .i64 ((rd_T43 l0 x5_1).f0), .int .i64 ((rd_T43 l0 x5_1).f1), .int .i64 ((rd_T43 l0 x5_1).f2), .int .i64 ((rd_T43 l0 x5_1).f3), .int .i64 ((rd_T43 l0 x5_1).f4), .string ((rd_T43 l0 x5_1).f5), .string ((rd_T43 l0 x5_1).f6)]] rfl lz ?_; (with_reducible refine (spec_Kids.calls k1 ((rd_T43 l0 x5_1).f0) ((rd_T43 l0 x5_1).f1) ((rd_T43 l0 x5_1).f2) ((rd_T43 l0 x5_1).f3) ((rd_T43 l0 x5_1).f4) ((rd_T43 l0 x5_1).f5) ((rd_T43 l0 x5_1).f6) t221 _ A8.out).mono ?_); rintro e w13 ⟨v222, rfl, ho0, hb⟩; refine ⟨_, rfl, ?_⟩; have HO223 := Aside0.mk (Kd.R_lower ho0 (below_size (bz0 HB.out))); replace HB := Aside0.mk (below_step (bz0 HB.out) hb); (try clear hb); (try clear ho0); obtain ⟨Ao14, co14, eo14⟩ := Kd.R_slice HO223.out; subst eo14) | ((with_reducible refine gate_callee (f := 75) rfl ?_); refine goesL_ (some 21) rfl rfl Tryd.func75 (by kernel_rfl) rfl #[.slice Ao14 t221.length co14, .int .i64 a1] rfl lz ?_; (with_reducible refine (spec_l4Has.calls k1 _ _ t221 a1 false _ ?side1 ?side2 A9.out).mono ?_); (case side1 => exact cz (Kd.R_reads' HO223.out).2.2); (case side2 => exact (Kd.R_reads' HO223.out).2.1); rintro e w' ⟨rfl, ⟨nd, rfl⟩⟩; refine ⟨_, rfl, ?_⟩))
      go_roundg k1
      case measure => have := HK1.out; omega
      case rel => exact ⟨(wrap64 (x5_1 + 1)), ez, H', ⟨by have := HK1.out; omega⟩, ⟨(bz0 HB.out)⟩⟩
    ·rw [if_neg c6] at H
     have c6b0 := decide_eq_false c6
     clear c6
     obtain rfl := Option.some.inj H
     go_wp2
     go_ret
     exact ⟨gz, (bz0 HB.out)⟩
 ·replace c4 := Bool.eq_false_iff.mpr c4
  subst c4
  have H1 := hq H
  clear H
  have H := H1
  clear H1
  obtain rfl := Option.some.inj H
  go_enter Tryd.func41, Tryd.ntmps41
  go_wp2_with (first | ((with_reducible refine gate_callee (f := 33) rfl ?_); refine goesL_ (some 7) rfl rfl Tryd.func33 (by kernel_rfl) rfl #[.slice A0 l0.length c0] rfl lz ?_; (with_reducible refine (spec_NodesOk.calls k _ _ l0 false _ ?side1 ?side2 A3.out).mono ?_); (case side1 => repeat (first | exact HR0.out | (with_reducible refine Kd.C_alloc ?_ _) | (with_reducible refine Kd.C_drewN ?_ _) | (with_reducible refine Kd.C_drew ?_))); (case side2 => exact HC0.out); rintro e w15 ⟨rfl, hb⟩; refine ⟨_, rfl, ?_⟩; replace HB := Aside0.mk (below_step (bz0 HB.out) hb); (try clear hb); (try clear hi)))
  go_ret
  exact ⟨gz, (bz0 HB.out)⟩
def spec_l6Bound.j0 : Nat -> Int -> Int -> Bool -> Int -> Int -> Int -> Int -> Int -> ByteArray -> ByteArray -> Option (List ByteArray × List Int)
 | 0, _, _, _, _, _, _, _, _, _, _ => none
 | k + 1, x1, x7, x14, x226000, x226001, x226002, x226003, x226004, x226005, x226006 => if x14 = true then (if x1 = x226002 then (some ((([x226005] : List ByteArray)), (([0] : List Int)))) else (some ((([] : List ByteArray)), (([] : List Int))))) else (if x7 = 6 then (if x1 = x226001 then (some ((([x226006, x226005] : List ByteArray)), (([1, 0] : List Int)))) else (some ((([x226005] : List ByteArray)), (([0] : List Int))))) else (if x7 = 14 then (if x1 = x226003 then (some ((([x226006, x226005] : List ByteArray)), (([1, 0] : List Int)))) else (some ((([] : List ByteArray)), (([] : List Int))))) else (some ((([] : List ByteArray)), (([] : List Int))))))
def spec_l6Bound.f (k : Nat) (a0_0 : Int) (a0_1 : Int) (a0_2 : Int) (a0_3 : Int) (a0_4 : Int) (a0_5 : ByteArray) (a0_6 : ByteArray) (a1 : Int) : Option (List ByteArray × List Int) := if a0_0 = 3 then (some ((([a0_5] : List ByteArray)), (([0] : List Int)))) else (if a0_0 = 5 then (spec_l6Bound.j0 k a1 a0_0 (a0_0 == 5) a0_0 a0_1 a0_2 a0_3 a0_4 a0_5 a0_6) else (spec_l6Bound.j0 k a1 a0_0 (a0_0 == 19) a0_0 a0_1 a0_2 a0_3 a0_4 a0_5 a0_6))
theorem spec_l6Bound.mono_l : ∀ k, (∀ y0 y1 y2 y3 y4 y5 y6 y7 y8 y9, LeO (spec_l6Bound.j0 k y0 y1 y2 y3 y4 y5 y6 y7 y8 y9) (spec_l6Bound.j0 (k + 1) y0 y1 y2 y3 y4 y5 y6 y7 y8 y9))
 | 0 => fun _ _ _ _ _ _ _ _ _ _ r h => by simp [spec_l6Bound.j0] at h
 | k + 1 => by
  have ih0 := spec_l6Bound.mono_l k
  ·intro y0 y1 y2 y3 y4 y5 y6 y7 y8 y9
   unfold spec_l6Bound.j0
   with_reducible repeat' first | exact ih0 _ _ _ _ _ _ _ _ _ _ | exact lrz _ | exact lnz _ | refine liz ?_ ?_ | refine lbz ?_ fun _ => ?_
theorem spec_l6Bound.mono : ∀ a0 a1 a2 a3 a4 a5 a6 a7 k, LeO (spec_l6Bound.f k a0 a1 a2 a3 a4 a5 a6 a7) (spec_l6Bound.f (k + 1) a0 a1 a2 a3 a4 a5 a6 a7) := by
 intro a0 a1 a2 a3 a4 a5 a6 a7 k
 have ih0 := spec_l6Bound.mono_l k
 unfold spec_l6Bound.f
 with_reducible repeat' first | exact ih0 _ _ _ _ _ _ _ _ _ _ | exact lrz _ | exact lnz _ | refine liz ?_ ?_ | refine lbz ?_ fun _ => ?_
set_option maxHeartbeats 8000000 in
set_option maxRecDepth 100000 in
theorem spec_l6Bound.calls (k : Nat) (a0_0 : Int) (a0_1 : Int) (a0_2 : Int) (a0_3 : Int) (a0_4 : Int) (a0_5 : ByteArray) (a0_6 : ByteArray) (a1 : Int) (r1 : List ByteArray) (r2 : List Int) (w : World) (h : spec_l6Bound.f k a0_0 a0_1 a0_2 a0_3 a0_4 a0_5 a0_6 a1 = some (r1, r2)) :
  Calls Tryd.prog 42 #[.agg #[.int .i64 a0_0, .int .i64 a0_1, .int .i64 a0_2, .int .i64 a0_3, .int .i64 a0_4, .string a0_5, .string a0_6], .int .i64 a1] w fun e w' => ∃ v0_ v1_ : Value, e = .returned (.tuple #[v0_, v1_]) /\ Kd.R Kd.string 9 w' w.heap.size (fun _ => True) v0_ r1 /\ Kd.R (Kd.int .i64) 3 w' w.heap.size (fun _ => True) v1_ r2 /\ Below w.heap.size w w' := by
 have hu43 := Tryd.underlying43
 have HB := Aside0.mk (Below.refl w.heap.size w)
 have H : (if a0_0 = 3 then (some ((([a0_5] : List ByteArray)), (([0] : List Int)))) else (if a0_0 = 5 then (spec_l6Bound.j0 k a1 a0_0 (a0_0 == 5) a0_0 a0_1 a0_2 a0_3 a0_4 a0_5 a0_6) else (spec_l6Bound.j0 k a1 a0_0 (a0_0 == 19) a0_0 a0_1 a0_2 a0_3 a0_4 a0_5 a0_6))) = some (r1, r2) := h
 clear h
 by_cases c3 : a0_0 = 3
 ·rw [if_pos c3] at H
  have c3b0 : (a0_0 == 3) = true := beq_iff_eq.mpr c3
  have c3b1 : (a0_0 != 3) = false := bne_eq_false_iff_eq.mpr c3
  clear c3
  obtain ⟨y226, hy226⟩ : ∃ y_ : List ByteArray, y_ = (([a0_5] : List ByteArray)) := ⟨_, rfl⟩
  replace H : (some (y226, (([0] : List Int)))) = some (r1, r2) := yz hy226 H
  have Ny226 := Aside0.mk hy226
  clear hy226
  obtain ⟨y229, hy229⟩ : ∃ y_ : List Int, y_ = (([0] : List Int)) := ⟨_, rfl⟩
  replace H : (some (y226, y229)) = some (r1, r2) := yz hy229 H
  have Ny229 := Aside0.mk hy229
  clear hy229
  simp only [Option.some.injEq, Prod.mk.injEq] at H
  obtain ⟨rfl, rfl⟩ := H
  go_enter Tryd.func42, Tryd.ntmps42
  go_wp2_with (first | ((with_reducible refine gate_dst (N := 2) rfl ?_); refine box_event ?hg (N := 2) ?hd (cs := #[.int .i64 a0_0, .int .i64 a0_1, .int .i64 a0_2, .int .i64 a0_3, .int .i64 a0_4, .string a0_5, .string a0_6]) (t := 43) ?hr ?_; (case hd => rfl); (case hg => rfl); (case hr => exact vz); intro gb225 hg w4 hbox hb; have BK225 := Aside0.mk (hbox); have GW225 := Aside0.mk ((by rw [hg]; exact (below_size (bz0 HB.out)) : w.heap.size <= gb225)); have GE225 := Aside0.mk ((by rw [hg]; exact (below_size (bz0 HB.out)) : w.heap.size <= gb225)); replace HB := Aside0.mk (below_step (bz0 HB.out) hb); clear hb hbox hg; obtain ⟨hcz5_0, hcz5_1, hcz5_2, hcz5_3, hcz5_4, hcz5_5, hcz5_6⟩ := cz7 BK225.out; obtain ⟨hfz5_0, hfz5_1, hfz5_2, hfz5_3, hfz5_4, hfz5_5, hfz5_6⟩ := fz7 BK225.out) | ((with_reducible refine gate_dst (N := 12) rfl ?_); refine Kd.R_lit Kd.string _ 9 ?hg (N := 12) ?hd (xs := ([a0_5] : List ByteArray)) (inner := [.string a0_5]) (ok := fun _ => True) (okp := fun _ => True) ?hr ?hp (fun _ hk => hk) trivial (Below.refl _ _) (Nat.le_refl _) (by simp) ?_; (case hd => rfl); (case hg => rfl); (case hr => exact vz); (case hp => exact (Reps.one (show Kd.M Kd.string _ _ _ a0_5 [.string a0_5] from rfl) (Reps.none _ _))); intro v227 w6 ho7 hb hg_ hnew_; clear hg_ hnew_; (first | rw [<- Ny226.out] at ho7 | (simp only [Int.reduceToNat] at ho7; rw [<- Ny226.out] at ho7)); have HO228 := Aside0.mk (Kd.R_lower ho7 (below_size (bz1 HB.out GE225.out))); replace BK225 := Aside0.mk (blk_below (kz BK225.out) hb); replace HB := Aside0.mk (below_step (bz1 HB.out GE225.out) hb); clear hb ho7) | ((with_reducible refine gate_dst (N := 13) rfl ?_); refine Kd.R_lit (Kd.int .i64) _ 3 ?hg (N := 13) ?hd (xs := ([0] : List Int)) (inner := [.int .i64 0]) (ok := fun _ => True) (okp := fun _ => True) ?hr ?hp (fun _ hk => hk) trivial (Below.refl _ _) (Nat.le_refl _) (by simp) ?_; (case hd => rfl); (case hg => rfl); (case hr => exact vz); (case hp => exact (Reps.one (show Kd.M (Kd.int .i64) _ _ _ 0 [.int .i64 0] from rfl) (Reps.none _ _))); intro v230 w8 ho9 hb hg_ hnew_; clear hg_ hnew_; (first | rw [<- Ny229.out] at ho9 | (simp only [Int.reduceToNat] at ho9; rw [<- Ny229.out] at ho9)); replace HO228 := qz HO228 hb; have HO231 := Aside0.mk (Kd.R_lower ho9 (below_size (bz1 HB.out GE225.out))); replace BK225 := Aside0.mk (blk_below (kz BK225.out) hb); replace HB := Aside0.mk (below_step (bz1 HB.out GE225.out) hb); clear hb ho9))
  go_ret2
  exact ⟨_, _, gz, by refine rq ?_; exact HO228.out, by refine rq ?_; exact HO231.out, (bz1 HB.out GE225.out)⟩
 ·rw [if_neg c3] at H
  have c3b0 : (a0_0 == 3) = false := beq_eq_false_iff_ne.mpr c3
  have c3b1 : (a0_0 != 3) = true := bne_iff_ne.mpr c3
  have HC10 := Aside0.mk H
  clear H
  go_enter Tryd.func42, Tryd.ntmps42
  go_upto_if 14 with (first | ((with_reducible refine gate_dst (N := 2) rfl ?_); refine box_event ?hg (N := 2) ?hd (cs := #[.int .i64 a0_0, .int .i64 a0_1, .int .i64 a0_2, .int .i64 a0_3, .int .i64 a0_4, .string a0_5, .string a0_6]) (t := 43) ?hr ?_; (case hd => rfl); (case hg => rfl); (case hr => exact vz); intro gb225 hg w11 hbox hb; have BK225 := Aside0.mk (hbox); have GW225 := Aside0.mk ((by rw [hg]; exact (below_size (bz0 HB.out)) : w.heap.size <= gb225)); have GE225 := Aside0.mk ((by rw [hg]; exact (below_size (bz0 HB.out)) : w.heap.size <= gb225)); replace HB := Aside0.mk (below_step (bz0 HB.out) hb); clear hb hbox hg; obtain ⟨hcz12_0, hcz12_1, hcz12_2, hcz12_3, hcz12_4, hcz12_5, hcz12_6⟩ := cz7 BK225.out; obtain ⟨hfz12_0, hfz12_1, hfz12_2, hfz12_3, hfz12_4, hfz12_5, hfz12_6⟩ := fz7 BK225.out))
  (try simp only [Act.put, sz1, sz2, sz3])
  go_cut [14] (fun v14 wc => ∃ (kq : Nat) (x14_9 : Bool), v14 = .bool x14_9 /\ Aside0 (spec_l6Bound.j0 kq a1 a0_0 x14_9 a0_0 a0_1 a0_2 a0_3 a0_4 a0_5 a0_6 = some (r1, r2)) /\ Aside0 (kq <= k) /\ Aside0 (wc.heap[gb225]? = some (.cells #[.int .i64 a0_0, .int .i64 a0_1, .int .i64 a0_2, .int .i64 a0_3, .int .i64 a0_4, .string a0_5, .string a0_6] 43 (0, 0))) /\ Aside0 (Below w.heap.size w wc))
  case first =>
   have H := HC10.out
   clear HC10
   by_cases c13 : a0_0 = 5
   ·rw [if_pos c13] at H
    have c13b0 : (a0_0 == 5) = true := beq_iff_eq.mpr c13
    have c13b1 : (a0_0 != 5) = false := bne_eq_false_iff_eq.mpr c13
    clear c13
    (first | rw [c13b0] | (simp only [i64_w, i32_w]; rw [c13b0]) | skip)
    have H' := Aside0.mk H
    clear H
    go_wp2
    go_meet
    case rel => exact ⟨_, ((a0_0 == 5)), ez, H', ⟨by first | omega | exact Nat.le_refl _⟩, ⟨by refine kq ?_; exact BK225.out⟩, ⟨(bz1 HB.out GE225.out)⟩⟩
   ·rw [if_neg c13] at H
    have c13b0 : (a0_0 == 5) = false := beq_eq_false_iff_ne.mpr c13
    have c13b1 : (a0_0 != 5) = true := bne_iff_ne.mpr c13
    (first | rw [c13b0] | (simp only [i64_w, i32_w]; rw [c13b0]) | skip)
    have H' := Aside0.mk H
    clear H
    go_wp2
    go_meet
    case rel => exact ⟨_, ((a0_0 == 19)), ez, H', ⟨by first | omega | exact Nat.le_refl _⟩, ⟨by refine kq ?_; exact BK225.out⟩, ⟨(bz1 HB.out GE225.out)⟩⟩
  case rest =>
   clear HC10
   try clear c1
   try clear p2
   try clear c3
   try clear c3b0
   try clear c3b1
   try clear c4
   try clear c13
   try clear c13b0
   try clear c13b1
   try clear hcz12_0 hcz12_1 hcz12_2 hcz12_3 hcz12_4 hcz12_5 hcz12_6
   try clear hcz5_0 hcz5_1 hcz5_2 hcz5_3 hcz5_4 hcz5_5 hcz5_6
   try clear hfz12_0 hfz12_1 hfz12_2 hfz12_3 hfz12_4 hfz12_5 hfz12_6
   try clear hfz5_0 hfz5_1 hfz5_2 hfz5_3 hfz5_4 hfz5_5 hfz5_6
   obtain ⟨kq, x14_9, rfl, HA, HJ9, BK225, HB⟩ := hcut
   cases kq with
   | zero => exact absurd HA.out (by simp [spec_l6Bound.j0])
   | succ kj9 =>
    have H := HA.out
    clear HA
    simp only [spec_l6Bound.j0] at H
    by_cases c14 : x14_9 = true
    ·subst c14
     have H1 := hp H
     clear H
     have H := H1
     clear H1
     by_cases c15 : a1 = a0_2
     ·rw [if_pos c15] at H
      have c15b0 : (a1 == a0_2) = true := beq_iff_eq.mpr c15
      have c15b1 : (a1 != a0_2) = false := bne_eq_false_iff_eq.mpr c15
      clear c15
      obtain ⟨y232, hy232⟩ : ∃ y_ : List ByteArray, y_ = (([a0_5] : List ByteArray)) := ⟨_, rfl⟩
      replace H : (some (y232, (([0] : List Int)))) = some (r1, r2) := yz hy232 H
      have Ny232 := Aside0.mk hy232
      clear hy232
      obtain ⟨y235, hy235⟩ : ∃ y_ : List Int, y_ = (([0] : List Int)) := ⟨_, rfl⟩
      replace H : (some (y232, y235)) = some (r1, r2) := yz hy235 H
      have Ny235 := Aside0.mk hy235
      clear hy235
      simp only [Option.some.injEq, Prod.mk.injEq] at H
      obtain ⟨rfl, rfl⟩ := H
      obtain ⟨hcz16_0, hcz16_1, hcz16_2, hcz16_3, hcz16_4, hcz16_5, hcz16_6⟩ := cz7 BK225.out
      obtain ⟨hfz16_0, hfz16_1, hfz16_2, hfz16_3, hfz16_4, hfz16_5, hfz16_6⟩ := fz7 BK225.out
      go_wp2_with (first | ((with_reducible refine gate_dst (N := 23) rfl ?_); refine Kd.R_lit Kd.string _ 9 ?hg (N := 23) ?hd (xs := ([a0_5] : List ByteArray)) (inner := [.string a0_5]) (ok := fun _ => True) (okp := fun _ => True) ?hr ?hp (fun _ hk => hk) trivial (Below.refl _ _) (Nat.le_refl _) (by simp) ?_; (case hd => rfl); (case hg => rfl); (case hr => exact vz); (case hp => exact (Reps.one (show Kd.M Kd.string _ _ _ a0_5 [.string a0_5] from rfl) (Reps.none _ _))); intro v233 w17 ho18 hb hg_ hnew_; clear hg_ hnew_; (first | rw [<- Ny232.out] at ho18 | (simp only [Int.reduceToNat] at ho18; rw [<- Ny232.out] at ho18)); have HO234 := Aside0.mk (Kd.R_lower ho18 (below_size (bz1 HB.out GE225.out))); replace BK225 := Aside0.mk (blk_below (kz BK225.out) hb); replace HB := Aside0.mk (below_step (bz1 HB.out GE225.out) hb); clear hb ho18) | ((with_reducible refine gate_dst (N := 24) rfl ?_); refine Kd.R_lit (Kd.int .i64) _ 3 ?hg (N := 24) ?hd (xs := ([0] : List Int)) (inner := [.int .i64 0]) (ok := fun _ => True) (okp := fun _ => True) ?hr ?hp (fun _ hk => hk) trivial (Below.refl _ _) (Nat.le_refl _) (by simp) ?_; (case hd => rfl); (case hg => rfl); (case hr => exact vz); (case hp => exact (Reps.one (show Kd.M (Kd.int .i64) _ _ _ 0 [.int .i64 0] from rfl) (Reps.none _ _))); intro v236 w19 ho20 hb hg_ hnew_; clear hg_ hnew_; (first | rw [<- Ny235.out] at ho20 | (simp only [Int.reduceToNat] at ho20; rw [<- Ny235.out] at ho20)); replace HO234 := qz HO234 hb; have HO237 := Aside0.mk (Kd.R_lower ho20 (below_size (bz1 HB.out GE225.out))); replace BK225 := Aside0.mk (blk_below (kz BK225.out) hb); replace HB := Aside0.mk (below_step (bz1 HB.out GE225.out) hb); clear hb ho20))
      go_ret2
      exact ⟨_, _, gz, by refine rq ?_; exact HO234.out, by refine rq ?_; exact HO237.out, (bz1 HB.out GE225.out)⟩
     ·rw [if_neg c15] at H
      have c15b0 : (a1 == a0_2) = false := beq_eq_false_iff_ne.mpr c15
      have c15b1 : (a1 != a0_2) = true := bne_iff_ne.mpr c15
      obtain ⟨y238, hy238⟩ : ∃ y_ : List ByteArray, y_ = (([] : List ByteArray)) := ⟨_, rfl⟩
      replace H : (some (y238, (([] : List Int)))) = some (r1, r2) := yz hy238 H
      have Ny238 := Aside0.mk hy238
      clear hy238
      obtain ⟨y241, hy241⟩ : ∃ y_ : List Int, y_ = (([] : List Int)) := ⟨_, rfl⟩
      replace H : (some (y238, y241)) = some (r1, r2) := yz hy241 H
      have Ny241 := Aside0.mk hy241
      clear hy241
      simp only [Option.some.injEq, Prod.mk.injEq] at H
      obtain ⟨rfl, rfl⟩ := H
      obtain ⟨hcz21_0, hcz21_1, hcz21_2, hcz21_3, hcz21_4, hcz21_5, hcz21_6⟩ := cz7 BK225.out
      obtain ⟨hfz21_0, hfz21_1, hfz21_2, hfz21_3, hfz21_4, hfz21_5, hfz21_6⟩ := fz7 BK225.out
      go_wp2_with (first | ((with_reducible refine gate_dst (N := 53) rfl ?_); refine Kd.R_lit Kd.string _ 9 ?hg (N := 53) ?hd (xs := ([] : List ByteArray)) (inner := []) (ok := fun _ => True) (okp := fun _ => True) ?hr ?hp (fun _ hk => hk) trivial (Below.refl _ _) (Nat.le_refl _) (by simp) ?_; (case hd => rfl); (case hg => rfl); (case hr => exact vz); (case hp => exact (Reps.none _ _)); intro v239 w22 ho23 hb hg_ hnew_; clear hg_ hnew_; (first | rw [<- Ny238.out] at ho23 | (simp only [Int.reduceToNat] at ho23; rw [<- Ny238.out] at ho23)); have HO240 := Aside0.mk (Kd.R_lower ho23 (below_size (bz1 HB.out GE225.out))); replace BK225 := Aside0.mk (blk_below (kz BK225.out) hb); replace HB := Aside0.mk (below_step (bz1 HB.out GE225.out) hb); clear hb ho23) | ((with_reducible refine gate_dst (N := 54) rfl ?_); refine Kd.R_lit (Kd.int .i64) _ 3 ?hg (N := 54) ?hd (xs := ([] : List Int)) (inner := []) (ok := fun _ => True) (okp := fun _ => True) ?hr ?hp (fun _ hk => hk) trivial (Below.refl _ _) (Nat.le_refl _) (by simp) ?_; (case hd => rfl); (case hg => rfl); (case hr => exact vz); (case hp => exact (Reps.none _ _)); intro v242 w24 ho25 hb hg_ hnew_; clear hg_ hnew_; (first | rw [<- Ny241.out] at ho25 | (simp only [Int.reduceToNat] at ho25; rw [<- Ny241.out] at ho25)); replace HO240 := qz HO240 hb; have HO243 := Aside0.mk (Kd.R_lower ho25 (below_size (bz1 HB.out GE225.out))); replace BK225 := Aside0.mk (blk_below (kz BK225.out) hb); replace HB := Aside0.mk (below_step (bz1 HB.out GE225.out) hb); clear hb ho25))
      go_ret2
      exact ⟨_, _, gz, by refine rq ?_; exact HO240.out, by refine rq ?_; exact HO243.out, (bz1 HB.out GE225.out)⟩
    ·replace c14 := Bool.eq_false_iff.mpr c14
     subst c14
     have H1 := hq H
     clear H
     have H := H1
     clear H1
     by_cases c26 : a0_0 = 6
     ·rw [if_pos c26] at H
      have c26b0 : (a0_0 == 6) = true := beq_iff_eq.mpr c26
      have c26b1 : (a0_0 != 6) = false := bne_eq_false_iff_eq.mpr c26
      clear c26
      by_cases c27 : a1 = a0_1
      ·rw [if_pos c27] at H
       have c27b0 : (a1 == a0_1) = true := beq_iff_eq.mpr c27
       have c27b1 : (a1 != a0_1) = false := bne_eq_false_iff_eq.mpr c27
       clear c27
       obtain ⟨y244, hy244⟩ : ∃ y_ : List ByteArray, y_ = (([a0_6, a0_5] : List ByteArray)) := ⟨_, rfl⟩
       replace H : (some (y244, (([1, 0] : List Int)))) = some (r1, r2) := yz hy244 H
       have Ny244 := Aside0.mk hy244
       clear hy244
       obtain ⟨y247, hy247⟩ : ∃ y_ : List Int, y_ = (([1, 0] : List Int)) := ⟨_, rfl⟩
       replace H : (some (y244, y247)) = some (r1, r2) := yz hy247 H
       have Ny247 := Aside0.mk hy247
       clear hy247
       simp only [Option.some.injEq, Prod.mk.injEq] at H
       obtain ⟨rfl, rfl⟩ := H
       obtain ⟨hcz28_0, hcz28_1, hcz28_2, hcz28_3, hcz28_4, hcz28_5, hcz28_6⟩ := cz7 BK225.out
       obtain ⟨hfz28_0, hfz28_1, hfz28_2, hfz28_3, hfz28_4, hfz28_5, hfz28_6⟩ := fz7 BK225.out
       go_wp2_with (first | ((with_reducible refine gate_dst (N := 35) rfl ?_); refine Kd.R_lit Kd.string _ 9 ?hg (N := 35) ?hd (xs := ([a0_6, a0_5] : List ByteArray)) (inner := [.string a0_6, .string a0_5]) (ok := fun _ => True) (okp := fun _ => True) ?hr ?hp (fun _ hk => hk) trivial (Below.refl _ _) (Nat.le_refl _) (by simp) ?_; (case hd => rfl); (case hg => rfl); (case hr => exact vz); (case hp => exact (Reps.one (show Kd.M Kd.string _ _ _ a0_6 [.string a0_6] from rfl) (Reps.one (show Kd.M Kd.string _ _ _ a0_5 [.string a0_5] from rfl) (Reps.none _ _)))); intro v245 w29 ho30 hb hg_ hnew_; clear hg_ hnew_; (first | rw [<- Ny244.out] at ho30 | (simp only [Int.reduceToNat] at ho30; rw [<- Ny244.out] at ho30)); have HO246 := Aside0.mk (Kd.R_lower ho30 (below_size (bz1 HB.out GE225.out))); replace BK225 := Aside0.mk (blk_below (kz BK225.out) hb); replace HB := Aside0.mk (below_step (bz1 HB.out GE225.out) hb); clear hb ho30) | ((with_reducible refine gate_dst (N := 36) rfl ?_); refine Kd.R_lit (Kd.int .i64) _ 3 ?hg (N := 36) ?hd (xs := ([1, 0] : List Int)) (inner := [.int .i64 1, .int .i64 0]) (ok := fun _ => True) (okp := fun _ => True) ?hr ?hp (fun _ hk => hk) trivial (Below.refl _ _) (Nat.le_refl _) (by simp) ?_; (case hd => rfl); (case hg => rfl); (case hr => exact vz); (case hp => exact (Reps.one (show Kd.M (Kd.int .i64) _ _ _ 1 [.int .i64 1] from rfl) (Reps.one (show Kd.M (Kd.int .i64) _ _ _ 0 [.int .i64 0] from rfl) (Reps.none _ _)))); intro v248 w31 ho32 hb hg_ hnew_; clear hg_ hnew_; (first | rw [<- Ny247.out] at ho32 | (simp only [Int.reduceToNat] at ho32; rw [<- Ny247.out] at ho32)); replace HO246 := qz HO246 hb; have HO249 := Aside0.mk (Kd.R_lower ho32 (below_size (bz1 HB.out GE225.out))); replace BK225 := Aside0.mk (blk_below (kz BK225.out) hb); replace HB := Aside0.mk (below_step (bz1 HB.out GE225.out) hb); clear hb ho32))
       go_ret2
       exact ⟨_, _, gz, by refine rq ?_; exact HO246.out, by refine rq ?_; exact HO249.out, (bz1 HB.out GE225.out)⟩
      ·rw [if_neg c27] at H
       have c27b0 : (a1 == a0_1) = false := beq_eq_false_iff_ne.mpr c27
       have c27b1 : (a1 != a0_1) = true := bne_iff_ne.mpr c27
       obtain ⟨y250, hy250⟩ : ∃ y_ : List ByteArray, y_ = (([a0_5] : List ByteArray)) := ⟨_, rfl⟩
       replace H : (some (y250, (([0] : List Int)))) = some (r1, r2) := yz hy250 H
       have Ny250 := Aside0.mk hy250
       clear hy250
       obtain ⟨y253, hy253⟩ : ∃ y_ : List Int, y_ = (([0] : List Int)) := ⟨_, rfl⟩
       replace H : (some (y250, y253)) = some (r1, r2) := yz hy253 H
       have Ny253 := Aside0.mk hy253
       clear hy253
       simp only [Option.some.injEq, Prod.mk.injEq] at H
       obtain ⟨rfl, rfl⟩ := H
       obtain ⟨hcz33_0, hcz33_1, hcz33_2, hcz33_3, hcz33_4, hcz33_5, hcz33_6⟩ := cz7 BK225.out
       obtain ⟨hfz33_0, hfz33_1, hfz33_2, hfz33_3, hfz33_4, hfz33_5, hfz33_6⟩ := fz7 BK225.out
       go_wp2_with (first | ((with_reducible refine gate_dst (N := 39) rfl ?_); refine Kd.R_lit Kd.string _ 9 ?hg (N := 39) ?hd (xs := ([a0_5] : List ByteArray)) (inner := [.string a0_5]) (ok := fun _ => True) (okp := fun _ => True) ?hr ?hp (fun _ hk => hk) trivial (Below.refl _ _) (Nat.le_refl _) (by simp) ?_; (case hd => rfl); (case hg => rfl); (case hr => exact vz); (case hp => exact (Reps.one (show Kd.M Kd.string _ _ _ a0_5 [.string a0_5] from rfl) (Reps.none _ _))); intro v251 w34 ho35 hb hg_ hnew_; clear hg_ hnew_; (first | rw [<- Ny250.out] at ho35 | (simp only [Int.reduceToNat] at ho35; rw [<- Ny250.out] at ho35)); have HO252 := Aside0.mk (Kd.R_lower ho35 (below_size (bz1 HB.out GE225.out))); replace BK225 := Aside0.mk (blk_below (kz BK225.out) hb); replace HB := Aside0.mk (below_step (bz1 HB.out GE225.out) hb); clear hb ho35) | ((with_reducible refine gate_dst (N := 40) rfl ?_); refine Kd.R_lit (Kd.int .i64) _ 3 ?hg (N := 40) ?hd (xs := ([0] : List Int)) (inner := [.int .i64 0]) (ok := fun _ => True) (okp := fun _ => True) ?hr ?hp (fun _ hk => hk) trivial (Below.refl _ _) (Nat.le_refl _) (by simp) ?_; (case hd => rfl); (case hg => rfl); (case hr => exact vz); (case hp => exact (Reps.one (show Kd.M (Kd.int .i64) _ _ _ 0 [.int .i64 0] from rfl) (Reps.none _ _))); intro v254 w36 ho37 hb hg_ hnew_; clear hg_ hnew_; (first | rw [<- Ny253.out] at ho37 | (simp only [Int.reduceToNat] at ho37; rw [<- Ny253.out] at ho37)); replace HO252 := qz HO252 hb; have HO255 := Aside0.mk (Kd.R_lower ho37 (below_size (bz1 HB.out GE225.out))); replace BK225 := Aside0.mk (blk_below (kz BK225.out) hb); replace HB := Aside0.mk (below_step (bz1 HB.out GE225.out) hb); clear hb ho37))
       go_ret2
       exact ⟨_, _, gz, by refine rq ?_; exact HO252.out, by refine rq ?_; exact HO255.out, (bz1 HB.out GE225.out)⟩
     ·rw [if_neg c26] at H
      have c26b0 : (a0_0 == 6) = false := beq_eq_false_iff_ne.mpr c26
      have c26b1 : (a0_0 != 6) = true := bne_iff_ne.mpr c26
      by_cases c38 : a0_0 = 14
      ·rw [if_pos c38] at H
       have c38b0 : (a0_0 == 14) = true := beq_iff_eq.mpr c38
       have c38b1 : (a0_0 != 14) = false := bne_eq_false_iff_eq.mpr c38
       clear c38
       by_cases c39 : a1 = a0_3
       ·rw [if_pos c39] at H
        have c39b0 : (a1 == a0_3) = true := beq_iff_eq.mpr c39
        have c39b1 : (a1 != a0_3) = false := bne_eq_false_iff_eq.mpr c39
        clear c39
        obtain ⟨y256, hy256⟩ : ∃ y_ : List ByteArray, y_ = (([a0_6, a0_5] : List ByteArray)) := ⟨_, rfl⟩
        replace H : (some (y256, (([1, 0] : List Int)))) = some (r1, r2) := yz hy256 H
        have Ny256 := Aside0.mk hy256
        clear hy256
        obtain ⟨y259, hy259⟩ : ∃ y_ : List Int, y_ = (([1, 0] : List Int)) := ⟨_, rfl⟩
        replace H : (some (y256, y259)) = some (r1, r2) := yz hy259 H
        have Ny259 := Aside0.mk hy259
        clear hy259
        simp only [Option.some.injEq, Prod.mk.injEq] at H
        obtain ⟨rfl, rfl⟩ := H
        obtain ⟨hcz40_0, hcz40_1, hcz40_2, hcz40_3, hcz40_4, hcz40_5, hcz40_6⟩ := cz7 BK225.out
        obtain ⟨hfz40_0, hfz40_1, hfz40_2, hfz40_3, hfz40_4, hfz40_5, hfz40_6⟩ := fz7 BK225.out
        go_wp2_with (first | ((with_reducible refine gate_dst (N := 51) rfl ?_); refine Kd.R_lit Kd.string _ 9 ?hg (N := 51) ?hd (xs := ([a0_6, a0_5] : List ByteArray)) (inner := [.string a0_6, .string a0_5]) (ok := fun _ => True) (okp := fun _ => True) ?hr ?hp (fun _ hk => hk) trivial (Below.refl _ _) (Nat.le_refl _) (by simp) ?_; (case hd => rfl); (case hg => rfl); (case hr => exact vz); (case hp => exact (Reps.one (show Kd.M Kd.string _ _ _ a0_6 [.string a0_6] from rfl) (Reps.one (show Kd.M Kd.string _ _ _ a0_5 [.string a0_5] from rfl) (Reps.none _ _)))); intro v257 w41 ho42 hb hg_ hnew_; clear hg_ hnew_; (first | rw [<- Ny256.out] at ho42 | (simp only [Int.reduceToNat] at ho42; rw [<- Ny256.out] at ho42)); have HO258 := Aside0.mk (Kd.R_lower ho42 (below_size (bz1 HB.out GE225.out))); replace BK225 := Aside0.mk (blk_below (kz BK225.out) hb); replace HB := Aside0.mk (below_step (bz1 HB.out GE225.out) hb); clear hb ho42) | ((with_reducible refine gate_dst (N := 52) rfl ?_); refine Kd.R_lit (Kd.int .i64) _ 3 ?hg (N := 52) ?hd (xs := ([1, 0] : List Int)) (inner := [.int .i64 1, .int .i64 0]) (ok := fun _ => True) (okp := fun _ => True) ?hr ?hp (fun _ hk => hk) trivial (Below.refl _ _) (Nat.le_refl _) (by simp) ?_; (case hd => rfl); (case hg => rfl); (case hr => exact vz); (case hp => exact (Reps.one (show Kd.M (Kd.int .i64) _ _ _ 1 [.int .i64 1] from rfl) (Reps.one (show Kd.M (Kd.int .i64) _ _ _ 0 [.int .i64 0] from rfl) (Reps.none _ _)))); intro v260 w43 ho44 hb hg_ hnew_; clear hg_ hnew_; (first | rw [<- Ny259.out] at ho44 | (simp only [Int.reduceToNat] at ho44; rw [<- Ny259.out] at ho44)); replace HO258 := qz HO258 hb; have HO261 := Aside0.mk (Kd.R_lower ho44 (below_size (bz1 HB.out GE225.out))); replace BK225 := Aside0.mk (blk_below (kz BK225.out) hb); replace HB := Aside0.mk (below_step (bz1 HB.out GE225.out) hb); clear hb ho44))
        go_ret2
        exact ⟨_, _, gz, by refine rq ?_; exact HO258.out, by refine rq ?_; exact HO261.out, (bz1 HB.out GE225.out)⟩
       ·rw [if_neg c39] at H
        have c39b0 : (a1 == a0_3) = false := beq_eq_false_iff_ne.mpr c39
        have c39b1 : (a1 != a0_3) = true := bne_iff_ne.mpr c39
        obtain ⟨y262, hy262⟩ : ∃ y_ : List ByteArray, y_ = (([] : List ByteArray)) := ⟨_, rfl⟩
        replace H : (some (y262, (([] : List Int)))) = some (r1, r2) := yz hy262 H
        have Ny262 := Aside0.mk hy262
        clear hy262
        obtain ⟨y265, hy265⟩ : ∃ y_ : List Int, y_ = (([] : List Int)) := ⟨_, rfl⟩
        replace H : (some (y262, y265)) = some (r1, r2) := yz hy265 H
        have Ny265 := Aside0.mk hy265
        clear hy265
        simp only [Option.some.injEq, Prod.mk.injEq] at H
        obtain ⟨rfl, rfl⟩ := H
        obtain ⟨hcz45_0, hcz45_1, hcz45_2, hcz45_3, hcz45_4, hcz45_5, hcz45_6⟩ := cz7 BK225.out
        obtain ⟨hfz45_0, hfz45_1, hfz45_2, hfz45_3, hfz45_4, hfz45_5, hfz45_6⟩ := fz7 BK225.out
        go_wp2_with (first | ((with_reducible refine gate_dst (N := 53) rfl ?_); refine Kd.R_lit Kd.string _ 9 ?hg (N := 53) ?hd (xs := ([] : List ByteArray)) (inner := []) (ok := fun _ => True) (okp := fun _ => True) ?hr ?hp (fun _ hk => hk) trivial (Below.refl _ _) (Nat.le_refl _) (by simp) ?_; (case hd => rfl); (case hg => rfl); (case hr => exact vz); (case hp => exact (Reps.none _ _)); intro v263 w46 ho47 hb hg_ hnew_; clear hg_ hnew_; (first | rw [<- Ny262.out] at ho47 | (simp only [Int.reduceToNat] at ho47; rw [<- Ny262.out] at ho47)); have HO264 := Aside0.mk (Kd.R_lower ho47 (below_size (bz1 HB.out GE225.out))); replace BK225 := Aside0.mk (blk_below (kz BK225.out) hb); replace HB := Aside0.mk (below_step (bz1 HB.out GE225.out) hb); clear hb ho47) | ((with_reducible refine gate_dst (N := 54) rfl ?_); refine Kd.R_lit (Kd.int .i64) _ 3 ?hg (N := 54) ?hd (xs := ([] : List Int)) (inner := []) (ok := fun _ => True) (okp := fun _ => True) ?hr ?hp (fun _ hk => hk) trivial (Below.refl _ _) (Nat.le_refl _) (by simp) ?_; (case hd => rfl); (case hg => rfl); (case hr => exact vz); (case hp => exact (Reps.none _ _)); intro v266 w48 ho49 hb hg_ hnew_; clear hg_ hnew_; (first | rw [<- Ny265.out] at ho49 | (simp only [Int.reduceToNat] at ho49; rw [<- Ny265.out] at ho49)); replace HO264 := qz HO264 hb; have HO267 := Aside0.mk (Kd.R_lower ho49 (below_size (bz1 HB.out GE225.out))); replace BK225 := Aside0.mk (blk_below (kz BK225.out) hb); replace HB := Aside0.mk (below_step (bz1 HB.out GE225.out) hb); clear hb ho49))
        go_ret2
        exact ⟨_, _, gz, by refine rq ?_; exact HO264.out, by refine rq ?_; exact HO267.out, (bz1 HB.out GE225.out)⟩
      ·rw [if_neg c38] at H
       have c38b0 : (a0_0 == 14) = false := beq_eq_false_iff_ne.mpr c38
       have c38b1 : (a0_0 != 14) = true := bne_iff_ne.mpr c38
       obtain ⟨y268, hy268⟩ : ∃ y_ : List ByteArray, y_ = (([] : List ByteArray)) := ⟨_, rfl⟩
       replace H : (some (y268, (([] : List Int)))) = some (r1, r2) := yz hy268 H
       have Ny268 := Aside0.mk hy268
       clear hy268
       obtain ⟨y271, hy271⟩ : ∃ y_ : List Int, y_ = (([] : List Int)) := ⟨_, rfl⟩
       replace H : (some (y268, y271)) = some (r1, r2) := yz hy271 H
       have Ny271 := Aside0.mk hy271
       clear hy271
       simp only [Option.some.injEq, Prod.mk.injEq] at H
       obtain ⟨rfl, rfl⟩ := H
       go_wp2_with (first | ((with_reducible refine gate_dst (N := 53) rfl ?_); refine Kd.R_lit Kd.string _ 9 ?hg (N := 53) ?hd (xs := ([] : List ByteArray)) (inner := []) (ok := fun _ => True) (okp := fun _ => True) ?hr ?hp (fun _ hk => hk) trivial (Below.refl _ _) (Nat.le_refl _) (by simp) ?_; (case hd => rfl); (case hg => rfl); (case hr => exact vz); (case hp => exact (Reps.none _ _)); intro v269 w50 ho51 hb hg_ hnew_; clear hg_ hnew_; (first | rw [<- Ny268.out] at ho51 | (simp only [Int.reduceToNat] at ho51; rw [<- Ny268.out] at ho51)); have HO270 := Aside0.mk (Kd.R_lower ho51 (below_size (bz1 HB.out GE225.out))); replace BK225 := Aside0.mk (blk_below (kz BK225.out) hb); replace HB := Aside0.mk (below_step (bz1 HB.out GE225.out) hb); clear hb ho51) | ((with_reducible refine gate_dst (N := 54) rfl ?_); refine Kd.R_lit (Kd.int .i64) _ 3 ?hg (N := 54) ?hd (xs := ([] : List Int)) (inner := []) (ok := fun _ => True) (okp := fun _ => True) ?hr ?hp (fun _ hk => hk) trivial (Below.refl _ _) (Nat.le_refl _) (by simp) ?_; (case hd => rfl); (case hg => rfl); (case hr => exact vz); (case hp => exact (Reps.none _ _)); intro v272 w52 ho53 hb hg_ hnew_; clear hg_ hnew_; (first | rw [<- Ny271.out] at ho53 | (simp only [Int.reduceToNat] at ho53; rw [<- Ny271.out] at ho53)); replace HO270 := qz HO270 hb; have HO273 := Aside0.mk (Kd.R_lower ho53 (below_size (bz1 HB.out GE225.out))); replace BK225 := Aside0.mk (blk_below (kz BK225.out) hb); replace HB := Aside0.mk (below_step (bz1 HB.out GE225.out) hb); clear hb ho53))
       go_ret2
       exact ⟨_, _, gz, by refine rq ?_; exact HO270.out, by refine rq ?_; exact HO273.out, (bz1 HB.out GE225.out)⟩
end Go.Proofs.YtmilegjmiiccdaaDoor.PFnExactCanon
