/- PFnExactPrintPartx12, of the words and walks that the law FnExactPrintPart needs; made by this session's program out of printed texts. -/

import Derived.Test.YtmilegjmiiccdaaDoorVEPrintPartPx0
import Derived.Test.YtmilegjmiiccdaaDoorVEPrintPartPx1
import Derived.Test.YtmilegjmiiccdaaDoorVEPrintPartPx6
import Derived.Test.YtmilegjmiiccdaaDoorVEPrintPartPx7
import Derived.Test.YtmilegjmiiccdaaDoorVEPrintPartPx9
import Derived.Test.YtmilegjmiiccdaaDoorVEPrintPartPx11
namespace Go.Proofs.YtmilegjmiiccdaaDoor.PFnExactPrintPart
open Go.RowKit Go.Proofs.YtmilegjmiiccdaaDoorW.PrintWords Go.Proofs.YtmilegjmiiccdaaDoorW.PrintLast Go.Proofs.YtmilegjmiiccdaaDoorW.PrintMore
attribute [local go_sem] max2_int min2_int max_two min_two max_three min_three max_four min_four
set_option linter.unusedVariables false
set_option linter.unusedSimpArgs false
mutual
def impl_NodesOk.l0 : Nat -> List (S43) -> List Int -> List (S43) -> Int -> Int -> Option (Bool)
 | 0, _, _, _, _, _ => none
 | k + 1, x0, x3, x16, x17, x18 => if x18 < x17 then (if 0 <= x18 then (if x18 < (x16.length : Int) then ((impl_fieldsOk.f k ((rd_T43 x16 x18).f0) ((rd_T43 x16 x18).f1) ((rd_T43 x16 x18).f2) ((rd_T43 x16 x18).f3) ((rd_T43 x16 x18).f4) ((rd_T43 x16 x18).f5) ((rd_T43 x16 x18).f6)).bind fun t347 => (if t347 = true then ((impl_Kids.f k ((rd_T43 x16 x18).f0) ((rd_T43 x16 x18).f1) ((rd_T43 x16 x18).f2) ((rd_T43 x16 x18).f3) ((rd_T43 x16 x18).f4) ((rd_T43 x16 x18).f5) ((rd_T43 x16 x18).f6)).bind fun t348 => (impl_NodesOk.l1 k x0 x3 x18 t348 x18 (wrap64 ((t348.length : Int) - 1)) x16 x17 x18)) else (some false))) else (none)) else (none)) else (if 0 <= (wrap64 ((x0.length : Int) - 1)) then (if (wrap64 ((x0.length : Int) - 1)) < (x3.length : Int) then (some ((rd x3 (wrap64 ((x0.length : Int) - 1))) == 0)) else (none)) else (none))
def impl_NodesOk.l1 : Nat -> List (S43) -> List Int -> Int -> List Int -> Int -> Int -> List (S43) -> Int -> Int -> Option (Bool)
 | 0, _, _, _, _, _, _, _, _, _ => none
 | k + 1, x0, x3, x4, x6, x7, x8, x16, x17, x18 => if x8 ≥ 0 then (if x7 = 0 then (some false) else (if 0 <= x8 then (if x8 < (x6.length : Int) then (if (rd x6 x8) = (wrap64 (x7 - 1)) then (if 0 <= (wrap64 (x7 - 1)) then (if (wrap64 (x7 - 1)) < (x3.length : Int) then (impl_NodesOk.l1 k x0 x3 x4 x6 (rd x3 (wrap64 (x7 - 1))) (wrap64 (x8 - 1)) x16 x17 x18) else (none)) else (none)) else (some false)) else (none)) else (none))) else (if 0 <= x4 then (if x4 < (x3.length : Int) then (impl_NodesOk.l0 k x0 (x3.set (x4 : Int).toNat x7) x16 x17 (wrap64 (x18 + 1))) else (none)) else (none))
end
def impl_NodesOk.f (k : Nat) (l0 : List (S43)) : Option (Bool) := (impl_in.f (l0.length : Int) 1 150).bind fun t340 => (if t340 = true then (if 0 <= (l0.length : Int) then (if ((l0.length : Int) : Int).toNat <= 35184372088832 then (impl_NodesOk.l0 k l0 (List.replicate ((l0.length : Int) : Int).toNat 0) l0 (l0.length : Int) 0) else (none)) else (none)) else (some false))
theorem impl_NodesOk.mono_l : ∀ k, (∀ y0 y1 y2 y3 y4, LeO (impl_NodesOk.l0 k y0 y1 y2 y3 y4) (impl_NodesOk.l0 (k + 1) y0 y1 y2 y3 y4)) /\ (∀ y0 y1 y2 y3 y4 y5 y6 y7 y8, LeO (impl_NodesOk.l1 k y0 y1 y2 y3 y4 y5 y6 y7 y8) (impl_NodesOk.l1 (k + 1) y0 y1 y2 y3 y4 y5 y6 y7 y8))
 | 0 => ⟨fun _ _ _ _ _ r h => by simp [impl_NodesOk.l0] at h, fun _ _ _ _ _ _ _ _ _ r h => by simp [impl_NodesOk.l1] at h⟩
 | k + 1 => by
  obtain ⟨ih0, ih1⟩ := impl_NodesOk.mono_l k
  refine ⟨?_, ?_⟩
  ·intro y0 y1 y2 y3 y4
   unfold impl_NodesOk.l0
   with_reducible repeat' first | exact ih0 _ _ _ _ _ | exact ih1 _ _ _ _ _ _ _ _ _ | exact impl_Kids.mono _ _ _ _ _ _ _ _ | exact impl_fieldsOk.mono _ _ _ _ _ _ _ _ | exact lrz _ | exact lnz _ | refine liz ?_ ?_ | refine lbz ?_ fun _ => ?_
  ·intro y0 y1 y2 y3 y4 y5 y6 y7 y8
   unfold impl_NodesOk.l1
   with_reducible repeat' first | exact ih0 _ _ _ _ _ | exact ih1 _ _ _ _ _ _ _ _ _ | exact impl_Kids.mono _ _ _ _ _ _ _ _ | exact impl_fieldsOk.mono _ _ _ _ _ _ _ _ | exact lrz _ | exact lnz _ | refine liz ?_ ?_ | refine lbz ?_ fun _ => ?_
theorem impl_NodesOk.mono : ∀ a0 k, LeO (impl_NodesOk.f k a0) (impl_NodesOk.f (k + 1) a0) := by
 intro a0 k
 obtain ⟨ih0, ih1⟩ := impl_NodesOk.mono_l k
 unfold impl_NodesOk.f
 with_reducible repeat' first | exact ih0 _ _ _ _ _ | exact ih1 _ _ _ _ _ _ _ _ _ | exact impl_Kids.mono _ _ _ _ _ _ _ _ | exact impl_fieldsOk.mono _ _ _ _ _ _ _ _ | exact lrz _ | exact lnz _ | refine liz ?_ ?_ | refine lbz ?_ fun _ => ?_
set_option maxHeartbeats 8000000 in
set_option maxRecDepth 100000 in
theorem impl_NodesOk.calls (k : Nat) (A0 : Option Addr) (c0 : Nat) (l0 : List (S43)) (r : Bool) (w : World) (hr0 : Kd.C k43 w A0 l0.length l0) (hc0 : l0.length <= c0) (h : impl_NodesOk.f k l0 = some r) :
  Calls Tryd.prog 36 #[.slice A0 l0.length c0] w fun e w' => e = .returned (.bool r) /\ Below w.heap.size w w' := by
 have hu43 := Tryd.underlying43
 have HR0 := Aside0.mk hr0
 have HC0 := Aside0.mk hc0
 clear hr0 hc0
 have HB := Aside0.mk (Below.refl w.heap.size w)
 have H : ((impl_in.f (l0.length : Int) 1 150).bind fun t340 => (if t340 = true then (if 0 <= (l0.length : Int) then (if ((l0.length : Int) : Int).toNat <= 35184372088832 then (impl_NodesOk.l0 k l0 (List.replicate ((l0.length : Int) : Int).toNat 0) l0 (l0.length : Int) 0) else (none)) else (none)) else (some false))) = some r := h
 clear h
 replace H := bi H
 obtain ⟨t340, A20, H⟩ := H
 try dsimp only at H
 have A2 := Aside0.mk A20
 clear A20
 by_cases c3 : t340 = true
 ·subst c3
  have H1 := hp H
  clear H
  have H := H1
  clear H1
  replace H := iz H
  obtain ⟨c4, H⟩ := H
  have c4b0 := eq_true c4
  have c4b1 : decide (0 <= (l0.length : Int)) = true := decide_eq_true c4
  clear c4
  replace H := iz H
  obtain ⟨c5, H⟩ := H
  have c5b0 := eq_true c5
  have c5b1 : decide (((l0.length : Int) : Int).toNat <= 35184372088832) = true := decide_eq_true c5
  clear c5
  obtain ⟨y341, hy341⟩ : ∃ y_ : List Int, y_ = (List.replicate ((l0.length : Int) : Int).toNat 0) := ⟨_, rfl⟩
  replace H : (impl_NodesOk.l0 k l0 y341 l0 (l0.length : Int) 0) = some r := yz hy341 H
  have Ny341 := Aside0.mk hy341
  clear hy341
  have H' := Aside0.mk H
  clear H
  go_enter Tryd.func36, Tryd.ntmps36
  go_wp2_with (first | ((with_reducible refine gate_callee (f := 44) rfl ?_); refine goesL_ (some 11) rfl rfl Tryd.func44 (by kernel_rfl) rfl #[.int .i64 (l0.length : Int), .int .i64 1, .int .i64 150] rfl lz ?_; (with_reducible refine (impl_in.calls (l0.length : Int) 1 150 true _ A2.out).mono ?_); rintro e w' ⟨rfl, ⟨nd, rfl⟩⟩; refine ⟨_, rfl, ?_⟩) | ((with_reducible refine gate_dst (N := 15) rfl ?_); refine Kd.R_make (Kd.int .i64) _ 3 rfl (N := 15) rfl 47 _ _ rfl (l0.length : Int) rfl rfl Tryd.underlying47 (.int .i64 0) 8 info3 rfl (by decide) (by omega) 0 (ok := fun _ => True) (okp := fun _ => True) rfl (fun _ hk => hk) trivial (of_decide_eq_true az) (Nat.le_trans (Nat.mul_le_mul_right _ (of_decide_eq_true az : (l0.length : Int).toNat <= 35184372088832)) (by omega)) (Below.refl _ _) (Nat.le_refl _) ?_; intro v342 w6 ho7 hb hg_ hnew_; clear hg_ hnew_; (first | rw [<- Ny341.out] at ho7 | (simp only [Int.reduceToNat] at ho7; rw [<- Ny341.out] at ho7)); have HO343 := Aside0.mk (Kd.R_lower ho7 (below_size (bz0 HB.out))); replace HB := Aside0.mk (below_step (bz0 HB.out) hb); clear hb ho7))
  go_loopg [18] k (fun kq v18 w' => ∃ (x3_1 : List Int) (x18_1 : Int), v18 = .int .i64 x18_1 /\ Aside0 (impl_NodesOk.l0 kq l0 x3_1 l0 (l0.length : Int) x18_1 = some r) /\ Aside0 (kq <= k) /\ Aside0 (Kd.R (Kd.int .i64) 3 w' w.heap.size (fun _ => True) v342 x3_1) /\ Aside0 (Below w.heap.size w w'))
  case atStart => exact ⟨(y341), (0), ez, H', ⟨Nat.le_refl _⟩, ⟨by refine rq ?_; exact HO343.out⟩, ⟨(bz0 HB.out)⟩⟩
  case round =>
   clear H'
   try clear p2
   try clear c3
   try clear c4
   try clear c4b0
   try clear c4b1
   try clear c5
   try clear c5b0
   try clear c5b1
   obtain ⟨x3_1, x18_1, rfl, HA, HK1, HO_3, HB⟩ := hrel
   cases gk with
   | zero => exact absurd HA.out (by simp [impl_NodesOk.l0])
   | succ k1 =>
    have H := HA.out
    clear HA
    simp only [impl_NodesOk.l0] at H
    by_cases c8 : x18_1 < (l0.length : Int)
    ·rw [if_pos c8] at H
     have c8b0 := decide_eq_true c8
     clear c8
     replace H := iz H
     obtain ⟨c9, H⟩ := H
     have c9b0 := decide_eq_true c9
     clear c9
     replace H := iz H
     obtain ⟨c10, H⟩ := H
     have c10b0 := decide_eq_true c10
     clear c10
     replace H := bi H
     obtain ⟨t347, A110, H⟩ := H
     try dsimp only at H
     have A11 := Aside0.mk A110
     clear A110
     by_cases c12 : t347 = true
     ·subst c12
      have H1 := hp H
      clear H
      have H := H1
      clear H1
      replace H := bi H
      obtain ⟨t348, A130, H⟩ := H
      try dsimp only at H
      have A13 := Aside0.mk A130
      clear A130
      have H' := Aside0.mk H
      clear H
      have p345 : 0 <= (x18_1 : Int) := oz
      have q345 : x18_1 < (l0.length : Int) := oz
      obtain ⟨ad345, e345, hx345_0, hx345_1, hx345_2, hx345_3, hx345_4, hx345_5, hx345_6⟩ := at_T43 (Kd.C_below HR0.out HB.out) x18_1 p345 q345
      cases e345
      replace p345 := eq_true p345
      replace q345 := eq_true q345
      go_wp2_with (first | ((with_reducible refine gate_dst (N := 5) rfl ?_); refine box_event ?hg (N := 5) ?hd (cs := #[.int .i64 0, .int .i64 0, .int .i64 0, .int .i64 0, .int .i64 0, .string (⟨#[]⟩ : ByteArray), .string (⟨#[]⟩ : ByteArray)]) (t := 43) ?hr ?_; (case hd => rfl); (case hg => rfl); (case hr => exact vz); intro gb346 hg w14 hbox hb; replace HO_3 := qz HO_3 hb; have BK346 := Aside0.mk (hbox); have GW346 := Aside0.mk ((by rw [hg]; exact (below_size (bz0 HB.out)) : w.heap.size <= gb346)); have GE346 := Aside0.mk ((by rw [hg]; exact (below_size (bz0 HB.out)) : w.heap.size <= gb346)); replace HB := Aside0.mk (below_step (bz0 HB.out) hb); clear hb hbox hg; obtain ⟨hcz15_0, hcz15_1, hcz15_2, hcz15_3, hcz15_4, hcz15_5, hcz15_6⟩ := cz7 BK346.out; obtain ⟨hfz15_0, hfz15_1, hfz15_2, hfz15_3, hfz15_4, hfz15_5, hfz15_6⟩ := fz7 BK346.out) | ((with_reducible refine gate_callee (f := 68) rfl ?_); refine goesL_ (some 24) rfl rfl Tryd.func68 (by kernel_rfl) rfl #[.agg #[.int .i64 ((rd_T43 l0 x18_1).f0), .int .i64 ((rd_T43 l0 x18_1).f1), .int .i64 ((rd_T43 l0 x18_1).f2), .int .i64 ((rd_T43 l0 x18_1).f3), .int .i64 ((rd_T43 l0 x18_1).f4), .string ((rd_T43 l0 x18_1).f5), .string ((rd_T43 l0 x18_1).f6)]] rfl lz ?_; (with_reducible refine (impl_fieldsOk.calls k1 ((rd_T43 l0 x18_1).f0) ((rd_T43 l0 x18_1).f1) ((rd_T43 l0 x18_1).f2) ((rd_T43 l0 x18_1).f3) ((rd_T43 l0 x18_1).f4) ((rd_T43 l0 x18_1).f5) ((rd_T43 l0 x18_1).f6) true _ A11.out).mono ?_); rintro e w16 ⟨rfl, hb⟩; refine ⟨_, rfl, ?_⟩; replace HO_3 := Aside0.mk (Kd.R_below (by refine rq ?_; exact (Kd.R_mono (Kd.R_far (p := ⟨gb346, 6, none⟩) (Kd.R_far (p := ⟨gb346, 5, none⟩) (Kd.R_far (p := ⟨gb346, 4, none⟩) (Kd.R_far (p := ⟨gb346, 3, none⟩) (Kd.R_far (p := ⟨gb346, 2, none⟩) (Kd.R_far (p := ⟨gb346, 1, none⟩) (Kd.R_far (p := ⟨gb346, 0, none⟩) (Kd.R_types HO_3.out BK346.out (by decide)) (fun _ hk => hk.2) (.int .i64 ((rd_T43 l0 x18_1).f0))) (fun _ hk => hk.2) (.int .i64 ((rd_T43 l0 x18_1).f1))) (fun _ hk => hk.2) (.int .i64 ((rd_T43 l0 x18_1).f2))) (fun _ hk => hk.2) (.int .i64 ((rd_T43 l0 x18_1).f3))) (fun _ hk => hk.2) (.int .i64 ((rd_T43 l0 x18_1).f4))) (fun _ hk => hk.2) (.string ((rd_T43 l0 x18_1).f5))) (fun _ hk => hk.2) (.string ((rd_T43 l0 x18_1).f6))) (fun _ h_ => h_.1))) hb); replace BK346 := Aside0.mk (blk_below (g := gb346) (o := .cells #[.int .i64 ((rd_T43 l0 x18_1).f0), .int .i64 ((rd_T43 l0 x18_1).f1), .int .i64 ((rd_T43 l0 x18_1).f2), .int .i64 ((rd_T43 l0 x18_1).f3), .int .i64 ((rd_T43 l0 x18_1).f4), .string ((rd_T43 l0 x18_1).f5), .string ((rd_T43 l0 x18_1).f6)] 43 (0, 0)) (by refine kq ?_; refine blk_put (cs := #[.int .i64 ((rd_T43 l0 x18_1).f0), .int .i64 ((rd_T43 l0 x18_1).f1), .int .i64 ((rd_T43 l0 x18_1).f2), .int .i64 ((rd_T43 l0 x18_1).f3), .int .i64 ((rd_T43 l0 x18_1).f4), .string ((rd_T43 l0 x18_1).f5), .string (⟨#[]⟩ : ByteArray)]) ?_ 6 _ rfl; refine kq ?_; refine blk_put (cs := #[.int .i64 ((rd_T43 l0 x18_1).f0), .int .i64 ((rd_T43 l0 x18_1).f1), .int .i64 ((rd_T43 l0 x18_1).f2), .int .i64 ((rd_T43 l0 x18_1).f3), .int .i64 ((rd_T43 l0 x18_1).f4), .string (⟨#[]⟩ : ByteArray), .string (⟨#[]⟩ : ByteArray)]) ?_ 5 _ rfl; refine kq ?_; refine blk_put (cs := #[.int .i64 ((rd_T43 l0 x18_1).f0), .int .i64 ((rd_T43 l0 x18_1).f1), .int .i64 ((rd_T43 l0 x18_1).f2), .int .i64 ((rd_T43 l0 x18_1).f3), .int .i64 0, .string (⟨#[]⟩ : ByteArray), .string (⟨#[]⟩ : ByteArray)]) ?_ 4 _ rfl; refine kq ?_; refine blk_put (cs := #[.int .i64 ((rd_T43 l0 x18_1).f0), .int .i64 ((rd_T43 l0 x18_1).f1), .int .i64 ((rd_T43 l0 x18_1).f2), .int .i64 0, .int .i64 0, .string (⟨#[]⟩ : ByteArray), .string (⟨#[]⟩ : ByteArray)]) ?_ 3 _ rfl; refine kq ?_; refine blk_put (cs := #[.int .i64 ((rd_T43 l0 x18_1).f0), .int .i64 ((rd_T43 l0 x18_1).f1), .int .i64 0, .int .i64 0, .int .i64 0, .string (⟨#[]⟩ : ByteArray), .string (⟨#[]⟩ : ByteArray)]) ?_ 2 _ rfl; refine kq ?_; refine blk_put (cs := #[.int .i64 ((rd_T43 l0 x18_1).f0), .int .i64 0, .int .i64 0, .int .i64 0, .int .i64 0, .string (⟨#[]⟩ : ByteArray), .string (⟨#[]⟩ : ByteArray)]) ?_ 1 _ rfl; refine kq ?_; refine blk_put (cs := #[.int .i64 0, .int .i64 0, .int .i64 0, .int .i64 0, .int .i64 0, .string (⟨#[]⟩ : ByteArray), .string (⟨#[]⟩ : ByteArray)]) ?_ 0 _ rfl; refine kq ?_; exact BK346.out) hb); replace HB := Aside0.mk (below_step (bz1 HB.out GE346.out) hb); (try clear hb); (try clear hk); obtain ⟨hcz17_0, hcz17_1, hcz17_2, hcz17_3, hcz17_4, hcz17_5, hcz17_6⟩ := cz7 BK346.out; obtain ⟨hfz17_0, hfz17_1, hfz17_2, hfz17_3, hfz17_4, hfz17_5, hfz17_6⟩ := fz7 BK346.out) | ((with_reducible refine gate_callee (f := 69) rfl ?_); refine goesL_ (some 27) rfl rfl Tryd.func69 (by kernel_rfl) rfl #[.agg #[.int .i64 ((rd_T43 l0 x18_1).f0), .int .i64 ((rd_T43 l0 x18_1).f1), .int .i64 ((rd_T43 l0 x18_1).f2), .int .i64 ((rd_T43 l0 x18_1).f3), .int .i64 ((rd_T43 l0 x18_1).f4), .string ((rd_T43 l0 x18_1).f5), .string ((rd_T43 l0 x18_1).f6)]] rfl lz ?_; (with_reducible refine (impl_Kids.calls k1 ((rd_T43 l0 x18_1).f0) ((rd_T43 l0 x18_1).f1) ((rd_T43 l0 x18_1).f2) ((rd_T43 l0 x18_1).f3) ((rd_T43 l0 x18_1).f4) ((rd_T43 l0 x18_1).f5) ((rd_T43 l0 x18_1).f6) t348 _ A13.out).mono ?_); rintro e w18 ⟨v349, rfl, ho0, hb⟩; refine ⟨_, rfl, ?_⟩; have HO350 := Aside0.mk (Kd.V_lower (Kd.V_mono (ok' := fun k_ => some k_ ≠ (v342 : Value).ownBlock /\ k_ ≠ gb346) ho0 (fun k_ hk_ => ⟨(Kd.fresh' (Kd.R_lt (rz HO_3.out)) k_ hk_), (Kd.freshB (g := gb346) (o := .cells #[.int .i64 ((rd_T43 l0 x18_1).f0), .int .i64 ((rd_T43 l0 x18_1).f1), .int .i64 ((rd_T43 l0 x18_1).f2), .int .i64 ((rd_T43 l0 x18_1).f3), .int .i64 ((rd_T43 l0 x18_1).f4), .string ((rd_T43 l0 x18_1).f5), .string ((rd_T43 l0 x18_1).f6)] 43 (0, 0)) (kz BK346.out) k_ hk_)⟩)) (below_size (bz1 HB.out GE346.out))); replace HO_3 := qz HO_3 hb; replace BK346 := Aside0.mk (blk_below (kz BK346.out) hb); replace HB := Aside0.mk (below_step (bz1 HB.out GE346.out) hb); (try clear hb); (try clear hk); (try clear ho0); obtain ⟨Ao19, co19, eo19⟩ := Kd.V_slice HO350.out; subst eo19))
      (try simp only [Act.put, sz1, sz2, sz3])
      go_loopg [7, 8] k1 (fun kq v7 v8 w' => ∃ (x7_2 : Int) (x8_2 : Int), v7 = .int .i64 x7_2 /\ v8 = .int .i64 x8_2 /\ Aside0 (impl_NodesOk.l1 kq l0 x3_1 x18_1 t348 x7_2 x8_2 l0 (l0.length : Int) x18_1 = some r) /\ Aside0 (kq <= k1) /\ Aside0 (Kd.R (Kd.int .i64) 3 w' w.heap.size (fun _ => True) v342 x3_1) /\ Aside0 (Kd.V (Kd.int .i64) 3 w' w.heap.size (fun k_ => some k_ ≠ (v342 : Value).ownBlock /\ k_ ≠ gb346) (.slice Ao19 t348.length co19) t348) /\ Aside0 (w'.heap[gb346]? = some (.cells #[.int .i64 ((rd_T43 l0 x18_1).f0), .int .i64 ((rd_T43 l0 x18_1).f1), .int .i64 ((rd_T43 l0 x18_1).f2), .int .i64 ((rd_T43 l0 x18_1).f3), .int .i64 ((rd_T43 l0 x18_1).f4), .string ((rd_T43 l0 x18_1).f5), .string ((rd_T43 l0 x18_1).f6)] 43 (0, 0))) /\ Aside0 (Below w.heap.size w w'))
      case atStart => exact ⟨(x18_1), (wrap64 ((t348.length : Int) - 1)), ez, ez, H', ⟨Nat.le_refl _⟩, ⟨by refine rq ?_; exact HO_3.out⟩, ⟨by (with_reducible repeat (first | apply Kd.V_alloc | apply Kd.V_drewN | apply Kd.V_drew)); exact HO350.out⟩, ⟨by refine kq ?_; exact BK346.out⟩, ⟨(bz1 HB.out GE346.out)⟩⟩
      case round =>
       clear H'
       try clear c1
       try clear p2
       try clear c3
       try clear p3
       try clear q3
       try clear hx3
       try clear c4
       try clear c4b0
       try clear c4b1
       try clear c5
       try clear c5b0
       try clear c5b1
       try clear c6
       try clear p6
       try clear c8
       try clear c8b0
       try clear c9
       try clear c9b0
       try clear c10
       try clear c10b0
       try clear c12
       try clear hcz15_0 hcz15_1 hcz15_2 hcz15_3 hcz15_4 hcz15_5 hcz15_6
       try clear hcz17_0 hcz17_1 hcz17_2 hcz17_3 hcz17_4 hcz17_5 hcz17_6
       try clear hfz15_0 hfz15_1 hfz15_2 hfz15_3 hfz15_4 hfz15_5 hfz15_6
       try clear hfz17_0 hfz17_1 hfz17_2 hfz17_3 hfz17_4 hfz17_5 hfz17_6
       try clear hx345_0
       try clear hx345_1
       try clear hx345_2
       try clear hx345_3
       try clear hx345_4
       try clear hx345_5
       try clear hx345_6
       try clear p2
       try clear p345
       try clear q345
       obtain ⟨x7_2, x8_2, rfl, rfl, HA, HK2, HO_3, HO_6, BK346, HB⟩ := hrel
       cases gk with
       | zero => exact absurd HA.out (by simp [impl_NodesOk.l1])
       | succ k2 =>
        have H := HA.out
        clear HA
        simp only [impl_NodesOk.l1] at H
        by_cases c20 : x8_2 ≥ 0
        ·rw [if_pos c20] at H
         have c20b0 : decide (0 <= x8_2) = true := decide_eq_true c20
         clear c20
         by_cases c21 : x7_2 = 0
         ·rw [if_pos c21] at H
          have c21b0 : (x7_2 == 0) = true := beq_iff_eq.mpr c21
          have c21b1 : (x7_2 != 0) = false := bne_eq_false_iff_eq.mpr c21
          clear c21
          obtain rfl := Option.some.inj H
          go_wp2
          go_ret
          exact ⟨gz, (bz1 HB.out GE346.out)⟩
         ·rw [if_neg c21] at H
          have c21b0 : (x7_2 == 0) = false := beq_eq_false_iff_ne.mpr c21
          have c21b1 : (x7_2 != 0) = true := bne_iff_ne.mpr c21
          replace H := iz H
          obtain ⟨c22, H⟩ := H
          have c22b0 := decide_eq_true c22
          clear c22
          replace H := iz H
          obtain ⟨c23, H⟩ := H
          have c23b0 := decide_eq_true c23
          clear c23
          by_cases c24 : (rd t348 x8_2) = (wrap64 (x7_2 - 1))
          ·rw [if_pos c24] at H
           have c24b0 : ((rd t348 x8_2) == (wrap64 (x7_2 - 1))) = true := beq_iff_eq.mpr c24
           have c24b1 : ((rd t348 x8_2) != (wrap64 (x7_2 - 1))) = false := bne_eq_false_iff_eq.mpr c24
           clear c24
           obtain ⟨ji25, hji25⟩ : ∃ j_ : Int, (wrap64 (x7_2 - 1)) = j_ := ⟨_, rfl⟩
           replace H : (if 0 <= (ji25) then (if (ji25) < (x3_1.length : Int) then (impl_NodesOk.l1 k2 l0 x3_1 x18_1 t348 (rd x3_1 (ji25)) (wrap64 (x8_2 - 1)) l0 (l0.length : Int) x18_1) else (none)) else (none)) = some r := by first | (rw [hji25] at H; exact H) | (simp only [hji25] at H ⊢; exact H)
           (try rw [hji25] at c24b0)
           (try rw [hji25] at c24b1)
           have hji25w : (IntKind.i64.wrap (x7_2 - 1)) = ji25 := (i64_w _).trans hji25
           replace H := iz H
           obtain ⟨c26, H⟩ := H
           have c26b0 := decide_eq_true c26
           clear c26
           replace H := iz H
           obtain ⟨c27, H⟩ := H
           have c27b0 := decide_eq_true c27
           clear c27
           have H' := Aside0.mk H
           clear H
           have p351 : 0 <= (x8_2 : Int) := oz
           have q351 : x8_2 < (t348.length : Int) := oz
           obtain ⟨ad351, e351, hx351_0⟩ := Kd.at_int (Kd.V_reads' HO_6.out).2.2 x8_2 p351 q351
           cases e351
           replace p351 := eq_true p351
           replace q351 := eq_true q351
           obtain ⟨Ao28, co28, eo28⟩ := Kd.R_slice HO_3.out
           subst eo28
           have p352 : 0 <= ((ji25) : Int) := oz
           have q352 : (ji25) < (x3_1.length : Int) := oz
           obtain ⟨ad352, e352, hx352_0⟩ := Kd.at_int (Kd.R_reads' HO_3.out).2.2 (ji25) p352 q352
           cases e352
           replace p352 := eq_true p352
           replace q352 := eq_true q352
           go_wp2
           go_roundg k2
           case measure => have := HK1.out; have := HK2.out; omega
           case rel => exact ⟨(rd x3_1 (ji25)), (wrap64 (x8_2 - 1)), (by first | rfl | (simp; done) | (simp only [<- hji25] <;> (first | rfl | simp)) | (simp [*]; done)), ez, H', ⟨by have := HK1.out; have := HK2.out; omega⟩, ⟨by refine rq ?_; exact HO_3.out⟩, ⟨by (with_reducible repeat (first | apply Kd.V_alloc | apply Kd.V_drewN | apply Kd.V_drew)); exact HO_6.out⟩, ⟨by refine kq ?_; exact BK346.out⟩, ⟨(bz1 HB.out GE346.out)⟩⟩
          ·rw [if_neg c24] at H
           have c24b0 : ((rd t348 x8_2) == (wrap64 (x7_2 - 1))) = false := beq_eq_false_iff_ne.mpr c24
           have c24b1 : ((rd t348 x8_2) != (wrap64 (x7_2 - 1))) = true := bne_iff_ne.mpr c24
           obtain rfl := Option.some.inj H
           have p351 : 0 <= (x8_2 : Int) := oz
           have q351 : x8_2 < (t348.length : Int) := oz
           obtain ⟨ad351, e351, hx351_0⟩ := Kd.at_int (Kd.V_reads' HO_6.out).2.2 x8_2 p351 q351
           cases e351
           replace p351 := eq_true p351
           replace q351 := eq_true q351
           go_wp2
           go_ret
           exact ⟨gz, (bz1 HB.out GE346.out)⟩
        ·rw [if_neg c20] at H
         have c20b0 : decide (0 <= x8_2) = false := decide_eq_false c20
         clear c20
         replace H := iz H
         obtain ⟨c29, H⟩ := H
         have c29b0 := decide_eq_true c29
         clear c29
         replace H := iz H
         obtain ⟨c30, H⟩ := H
         have c30b0 := decide_eq_true c30
         clear c30
         obtain ⟨y353, hy353⟩ : ∃ y_ : List Int, y_ = (x3_1.set (x18_1 : Int).toNat x7_2) := ⟨_, rfl⟩
         replace H : (impl_NodesOk.l0 k2 l0 y353 l0 (l0.length : Int) (wrap64 (x18_1 + 1))) = some r := yz hy353 H
         have Ny353 := Aside0.mk hy353
         clear hy353
         have H' := Aside0.mk H
         clear H
         have p31 : 0 <= (x18_1 : Int) := oz
         have q31 : (x18_1 : Int) < ((x3_1.length : Int) : Int) := oz
         obtain ⟨go31, co31, eo31, gb31, gl31, cl31, HG31⟩ := Kd.R_form HO_3.out (by omega)
         (first | cases eo31 | (injection eo31 with ea_ en_ ec_; (first | subst ea_ | (injection ea_ with ea_; subst ea_)); subst ec_; clear en_))
         have GB31 := Aside0.mk gb31
         have GG31 := Aside0.mk HG31
         clear gb31 gl31 HG31
         obtain ⟨hx31_0, hf31_0⟩ := Kd.R_celln 0 HO_3.out (x18_1 : Int) p31 q31
         replace p31 := eq_true p31
         replace q31 := eq_true q31
         have HP32 := Kd.R_putg HO_3.out (x18_1 : Int) x7_2
         go_wp2_with (first | ((with_reducible refine gate_store (t := 3) (p := 55) rfl ?_); refine store_event (t := 3) (p := 55) (v := ?vo_w33) (w1 := (wr.setCell ⟨go31, (x18_1 : Int).toNat, none⟩ (.int .i64 x7_2))) ?hg ?ho ?hn ?hr ?_; (case ho => rfl); (case hg => rfl); (case hn => rfl); (case hr => exact vz); intro w33 hw; have hg : wr.grownBy w33 (some go31) := (by rw [hw]; exact HP32.2); have hp_ : Kd.R (Kd.int .i64) 3 w33 w.heap.size (fun _ => True) (.slice (some ⟨go31, 0, none⟩) x3_1.length co31) y353 := (by rw [hw, Ny353.out]; exact HP32.1); clear HP32; replace HO_6 := Aside0.mk (Kd.V_afterv (v := (.slice (some ⟨go31, 0, none⟩) x3_1.length co31)) (v1 := (.slice (some ⟨go31, 0, none⟩) x3_1.length co31)) (ok := (fun k_ => k_ ≠ gb346)) (by (with_reducible repeat (first | apply Kd.V_alloc | apply Kd.V_drewN | apply Kd.V_drew)); exact Kd.V_mono HO_6.out (fun _ hk => ⟨hk.2, hk.1⟩)) hg (.inl rfl)); replace BK346 := Aside0.mk (blk_grown (g := gb346) (o := .cells #[.int .i64 ((rd_T43 l0 x18_1).f0), .int .i64 ((rd_T43 l0 x18_1).f1), .int .i64 ((rd_T43 l0 x18_1).f2), .int .i64 ((rd_T43 l0 x18_1).f3), .int .i64 ((rd_T43 l0 x18_1).f4), .string ((rd_T43 l0 x18_1).f5), .string ((rd_T43 l0 x18_1).f6)] 43 (0, 0)) (kz BK346.out) hg (Kd.R_ne HO_3.out BK346.out (by decide))); replace HO_3 := Aside0.mk (hp_); replace HB := Aside0.mk ((by rw [hw]; exact below_set (HB.out) GB31.out : Below w.heap.size w w33)); clear hg hw hp_))
         go_roundg k2
         case measure => have := HK1.out; have := HK2.out; omega
         case rel => exact ⟨(y353), (wrap64 (x18_1 + 1)), ez, H', ⟨by have := HK1.out; have := HK2.out; omega⟩, ⟨by refine rq ?_; exact HO_3.out⟩, ⟨(bz1 HB.out GE346.out)⟩⟩
     ·replace c12 := Bool.eq_false_iff.mpr c12
      subst c12
      have H1 := hq H
      clear H
      have H := H1
      clear H1
      obtain rfl := Option.some.inj H
      have p345 : 0 <= (x18_1 : Int) := oz
      have q345 : x18_1 < (l0.length : Int) := oz
      obtain ⟨ad345, e345, hx345_0, hx345_1, hx345_2, hx345_3, hx345_4, hx345_5, hx345_6⟩ := at_T43 (Kd.C_below HR0.out HB.out) x18_1 p345 q345
      cases e345
      replace p345 := eq_true p345
      replace q345 := eq_true q345
      go_wp2_with (first | ((with_reducible refine gate_dst (N := 5) rfl ?_); refine box_event ?hg (N := 5) ?hd (cs := #[.int .i64 0, .int .i64 0, .int .i64 0, .int .i64 0, .int .i64 0, .string (⟨#[]⟩ : ByteArray), .string (⟨#[]⟩ : ByteArray)]) (t := 43) ?hr ?_; (case hd => rfl); (case hg => rfl); (case hr => exact vz); intro gb346 hg w34 hbox hb; replace HO_3 := qz HO_3 hb; have BK346 := Aside0.mk (hbox); have GW346 := Aside0.mk ((by rw [hg]; exact (below_size (bz0 HB.out)) : w.heap.size <= gb346)); have GE346 := Aside0.mk ((by rw [hg]; exact (below_size (bz0 HB.out)) : w.heap.size <= gb346)); replace HB := Aside0.mk (below_step (bz0 HB.out) hb); clear hb hbox hg; obtain ⟨hcz35_0, hcz35_1, hcz35_2, hcz35_3, hcz35_4, hcz35_5, hcz35_6⟩ := cz7 BK346.out; obtain ⟨hfz35_0, hfz35_1, hfz35_2, hfz35_3, hfz35_4, hfz35_5, hfz35_6⟩ := fz7 BK346.out) | ((with_reducible refine gate_callee (f := 68) rfl ?_); refine goesL_ (some 24) rfl rfl Tryd.func68 (by kernel_rfl) rfl #[.agg #[.int .i64 ((rd_T43 l0 x18_1).f0), .int .i64 ((rd_T43 l0 x18_1).f1), .int .i64 ((rd_T43 l0 x18_1).f2), .int .i64 ((rd_T43 l0 x18_1).f3), .int .i64 ((rd_T43 l0 x18_1).f4), .string ((rd_T43 l0 x18_1).f5), .string ((rd_T43 l0 x18_1).f6)]] rfl lz ?_; (with_reducible refine (impl_fieldsOk.calls k1 ((rd_T43 l0 x18_1).f0) ((rd_T43 l0 x18_1).f1) ((rd_T43 l0 x18_1).f2) ((rd_T43 l0 x18_1).f3) ((rd_T43 l0 x18_1).f4) ((rd_T43 l0 x18_1).f5) ((rd_T43 l0 x18_1).f6) false _ A11.out).mono ?_); rintro e w36 ⟨rfl, hb⟩; refine ⟨_, rfl, ?_⟩; replace HO_3 := Aside0.mk (Kd.R_below (by refine rq ?_; exact (Kd.R_mono (Kd.R_far (p := ⟨gb346, 6, none⟩) (Kd.R_far (p := ⟨gb346, 5, none⟩) (Kd.R_far (p := ⟨gb346, 4, none⟩) (Kd.R_far (p := ⟨gb346, 3, none⟩) (Kd.R_far (p := ⟨gb346, 2, none⟩) (Kd.R_far (p := ⟨gb346, 1, none⟩) (Kd.R_far (p := ⟨gb346, 0, none⟩) (Kd.R_types HO_3.out BK346.out (by decide)) (fun _ hk => hk.2) (.int .i64 ((rd_T43 l0 x18_1).f0))) (fun _ hk => hk.2) (.int .i64 ((rd_T43 l0 x18_1).f1))) (fun _ hk => hk.2) (.int .i64 ((rd_T43 l0 x18_1).f2))) (fun _ hk => hk.2) (.int .i64 ((rd_T43 l0 x18_1).f3))) (fun _ hk => hk.2) (.int .i64 ((rd_T43 l0 x18_1).f4))) (fun _ hk => hk.2) (.string ((rd_T43 l0 x18_1).f5))) (fun _ hk => hk.2) (.string ((rd_T43 l0 x18_1).f6))) (fun _ h_ => h_.1))) hb); replace BK346 := Aside0.mk (blk_below (g := gb346) (o := .cells #[.int .i64 ((rd_T43 l0 x18_1).f0), .int .i64 ((rd_T43 l0 x18_1).f1), .int .i64 ((rd_T43 l0 x18_1).f2), .int .i64 ((rd_T43 l0 x18_1).f3), .int .i64 ((rd_T43 l0 x18_1).f4), .string ((rd_T43 l0 x18_1).f5), .string ((rd_T43 l0 x18_1).f6)] 43 (0, 0)) (by refine kq ?_; refine blk_put (cs := #[.int .i64 ((rd_T43 l0 x18_1).f0), .int .i64 ((rd_T43 l0 x18_1).f1), .int .i64 ((rd_T43 l0 x18_1).f2), .int .i64 ((rd_T43 l0 x18_1).f3), .int .i64 ((rd_T43 l0 x18_1).f4), .string ((rd_T43 l0 x18_1).f5), .string (⟨#[]⟩ : ByteArray)]) ?_ 6 _ rfl; refine kq ?_; refine blk_put (cs := #[.int .i64 ((rd_T43 l0 x18_1).f0), .int .i64 ((rd_T43 l0 x18_1).f1), .int .i64 ((rd_T43 l0 x18_1).f2), .int .i64 ((rd_T43 l0 x18_1).f3), .int .i64 ((rd_T43 l0 x18_1).f4), .string (⟨#[]⟩ : ByteArray), .string (⟨#[]⟩ : ByteArray)]) ?_ 5 _ rfl; refine kq ?_; refine blk_put (cs := #[.int .i64 ((rd_T43 l0 x18_1).f0), .int .i64 ((rd_T43 l0 x18_1).f1), .int .i64 ((rd_T43 l0 x18_1).f2), .int .i64 ((rd_T43 l0 x18_1).f3), .int .i64 0, .string (⟨#[]⟩ : ByteArray), .string (⟨#[]⟩ : ByteArray)]) ?_ 4 _ rfl; refine kq ?_; refine blk_put (cs := #[.int .i64 ((rd_T43 l0 x18_1).f0), .int .i64 ((rd_T43 l0 x18_1).f1), .int .i64 ((rd_T43 l0 x18_1).f2), .int .i64 0, .int .i64 0, .string (⟨#[]⟩ : ByteArray), .string (⟨#[]⟩ : ByteArray)]) ?_ 3 _ rfl; refine kq ?_; refine blk_put (cs := #[.int .i64 ((rd_T43 l0 x18_1).f0), .int .i64 ((rd_T43 l0 x18_1).f1), .int .i64 0, .int .i64 0, .int .i64 0, .string (⟨#[]⟩ : ByteArray), .string (⟨#[]⟩ : ByteArray)]) ?_ 2 _ rfl; refine kq ?_; refine blk_put (cs := #[.int .i64 ((rd_T43 l0 x18_1).f0), .int .i64 0, .int .i64 0, .int .i64 0, .int .i64 0, .string (⟨#[]⟩ : ByteArray), .string (⟨#[]⟩ : ByteArray)]) ?_ 1 _ rfl; refine kq ?_; refine blk_put (cs := #[.int .i64 0, .int .i64 0, .int .i64 0, .int .i64 0, .int .i64 0, .string (⟨#[]⟩ : ByteArray), .string (⟨#[]⟩ : ByteArray)]) ?_ 0 _ rfl; refine kq ?_; exact BK346.out) hb); replace HB := Aside0.mk (below_step (bz1 HB.out GE346.out) hb); (try clear hb); (try clear hk); (try clear hi)))
      go_ret
      exact ⟨gz, (bz1 HB.out GE346.out)⟩
    ·rw [if_neg c8] at H
     have c8b0 := decide_eq_false c8
     clear c8
     obtain ⟨ji37, hji37⟩ : ∃ j_ : Int, (wrap64 ((l0.length : Int) - 1)) = j_ := ⟨_, rfl⟩
     replace H : (if 0 <= (ji37) then (if (ji37) < (x3_1.length : Int) then (some ((rd x3_1 (ji37)) == 0)) else (none)) else (none)) = some r := by first | (rw [hji37] at H; exact H) | (simp only [hji37] at H ⊢; exact H)
     have hji37w : (IntKind.i64.wrap ((l0.length : Int) - 1)) = ji37 := (i64_w _).trans hji37
     replace H := iz H
     obtain ⟨c38, H⟩ := H
     have c38b0 := decide_eq_true c38
     clear c38
     replace H := iz H
     obtain ⟨c39, H⟩ := H
     have c39b0 := decide_eq_true c39
     clear c39
     obtain rfl := Option.some.inj H
     obtain ⟨Ao40, co40, eo40⟩ := Kd.R_slice HO_3.out
     subst eo40
     have p344 : 0 <= ((ji37) : Int) := oz
     have q344 : (ji37) < (x3_1.length : Int) := oz
     obtain ⟨ad344, e344, hx344_0⟩ := Kd.at_int (Kd.R_reads' HO_3.out).2.2 (ji37) p344 q344
     cases e344
     replace p344 := eq_true p344
     replace q344 := eq_true q344
     go_wp2
     go_ret
     exact ⟨by first | rfl | (simp [errW_none, errW_some] <;> rfl) | (simp only [<- hji37]; first | rfl | (simp [errW_none, errW_some] <;> rfl)) | (simp [*, errW_none, errW_some] <;> rfl), (bz0 HB.out)⟩
 ·replace c3 := Bool.eq_false_iff.mpr c3
  subst c3
  have H1 := hq H
  clear H
  have H := H1
  clear H1
  obtain rfl := Option.some.inj H
  go_enter Tryd.func36, Tryd.ntmps36
  go_wp2_with (first | ((with_reducible refine gate_callee (f := 44) rfl ?_); refine goesL_ (some 11) rfl rfl Tryd.func44 (by kernel_rfl) rfl #[.int .i64 (l0.length : Int), .int .i64 1, .int .i64 150] rfl lz ?_; (with_reducible refine (impl_in.calls (l0.length : Int) 1 150 false _ A2.out).mono ?_); rintro e w' ⟨rfl, ⟨nd, rfl⟩⟩; refine ⟨_, rfl, ?_⟩))
  go_ret
  exact ⟨gz, (bz0 HB.out)⟩
def impl_startOf.l0 : Nat -> List (S43) -> Int -> Option (Int)
 | 0, _, _ => none
 | k + 1, x0, x1 => if 0 <= x1 then (if x1 < (x0.length : Int) then ((impl_Arity.f k ((rd_T43 x0 x1).f0)).bind fun t355 => (if t355 > 0 then (impl_startOf.l0 k x0 ((rd_T43 x0 x1).f1)) else (some x1))) else (none)) else (none)
def impl_startOf.f (k : Nat) (l0 : List (S43)) (a1 : Int) : Option (Int) := impl_startOf.l0 k l0 a1
theorem impl_startOf.mono_l : ∀ k, (∀ y0 y1, LeO (impl_startOf.l0 k y0 y1) (impl_startOf.l0 (k + 1) y0 y1))
 | 0 => fun _ _ r h => by simp [impl_startOf.l0] at h
 | k + 1 => by
  have ih0 := impl_startOf.mono_l k
  ·intro y0 y1
   unfold impl_startOf.l0
   with_reducible repeat' first | exact ih0 _ _ | exact impl_Arity.mono _ _ | exact lrz _ | exact lnz _ | refine liz ?_ ?_ | refine lbz ?_ fun _ => ?_
theorem impl_startOf.mono : ∀ a0 a1 k, LeO (impl_startOf.f k a0 a1) (impl_startOf.f (k + 1) a0 a1) := by
 intro a0 a1 k
 have ih0 := impl_startOf.mono_l k
 unfold impl_startOf.f
 with_reducible repeat' first | exact ih0 _ _ | exact impl_Arity.mono _ _ | exact lrz _ | exact lnz _ | refine liz ?_ ?_ | refine lbz ?_ fun _ => ?_
set_option maxHeartbeats 8000000 in
set_option maxRecDepth 100000 in
theorem impl_startOf.calls (k : Nat) (A0 : Option Addr) (c0 : Nat) (l0 : List (S43)) (a1 : Int) (r : Int) (w : World) (hr0 : Kd.C k43 w A0 l0.length l0) (hc0 : l0.length <= c0) (h : impl_startOf.f k l0 a1 = some r) :
  Calls Tryd.prog 74 #[.slice A0 l0.length c0, .int .i64 a1] w fun e w' => e = .returned (.int .i64 r) /\ Drawn0 w w' := by
 have HR0 := Aside0.mk hr0
 have HC0 := Aside0.mk hc0
 clear hr0 hc0
 have H : (impl_startOf.l0 k l0 a1) = some r := h
 clear h
 have H' := Aside0.mk H
 clear H
 go_enter Tryd.func74, Tryd.ntmps74
 go_wp2
 go_loopg [1] k (fun kq v1 w' => ∃ (x1_1 : Int), v1 = .int .i64 x1_1 /\ Aside0 (impl_startOf.l0 kq l0 x1_1 = some r) /\ Aside0 (kq <= k) /\ Drawn0 w w')
 case atStart => exact ⟨(a1), ez, H', ⟨Nat.le_refl _⟩, dz⟩
 case round =>
  clear H'
  try clear p2
  obtain ⟨x1_1, rfl, HA, HK1, ⟨m1, rfl⟩⟩ := hrel
  cases gk with
  | zero => exact absurd HA.out (by simp [impl_startOf.l0])
  | succ k1 =>
   have H := HA.out
   clear HA
   simp only [impl_startOf.l0] at H
   replace H := iz H
   obtain ⟨c3, H⟩ := H
   have c3b0 := decide_eq_true c3
   clear c3
   replace H := iz H
   obtain ⟨c4, H⟩ := H
   have c4b0 := decide_eq_true c4
   clear c4
   replace H := bi H
   obtain ⟨t355, A50, H⟩ := H
   try dsimp only at H
   have A5 := Aside0.mk A50
   clear A50
   by_cases c6 : t355 > 0
   ·rw [if_pos c6] at H
    have c6b0 : decide (0 < t355) = true := decide_eq_true c6
    clear c6
    have H' := Aside0.mk H
    clear H
    have p354 : 0 <= (x1_1 : Int) := oz
    have q354 : x1_1 < (l0.length : Int) := oz
    obtain ⟨ad354, e354, hx354_0, hx354_1, hx354_2, hx354_3, hx354_4, hx354_5, hx354_6⟩ := at_T43 HR0.out x1_1 p354 q354
    cases e354
    replace p354 := eq_true p354
    replace q354 := eq_true q354
    go_wp2_with (first | ((with_reducible refine gate_callee (f := 82) rfl ?_); refine goesL_ (some 10) rfl rfl Tryd.func82 (by kernel_rfl) rfl #[.int .i64 ((rd_T43 l0 x1_1).f0)] rfl lz ?_; (with_reducible refine (impl_Arity.calls k1 ((rd_T43 l0 x1_1).f0) t355 _ A5.out).mono ?_); rintro e w' ⟨rfl, ⟨nd, rfl⟩⟩; refine ⟨_, rfl, ?_⟩; have p356 : 0 <= (x1_1 : Int) := oz; have q356 : x1_1 < (l0.length : Int) := oz; obtain ⟨ad356, e356, hx356_0, hx356_1, hx356_2, hx356_3, hx356_4, hx356_5, hx356_6⟩ := at_T43 HR0.out x1_1 p356 q356; obtain rfl : ad354 = ad356 := (by injection e356); replace p356 := eq_true p356; replace q356 := eq_true q356))
    go_roundg k1
    case measure => have := HK1.out; omega
    case rel => exact ⟨((rd_T43 l0 x1_1).f1), ez, H', ⟨by have := HK1.out; omega⟩, dz⟩
   ·rw [if_neg c6] at H
    have c6b0 : decide (0 < t355) = false := decide_eq_false c6
    clear c6
    obtain rfl := Option.some.inj H
    have p354 : 0 <= (x1_1 : Int) := oz
    have q354 : x1_1 < (l0.length : Int) := oz
    obtain ⟨ad354, e354, hx354_0, hx354_1, hx354_2, hx354_3, hx354_4, hx354_5, hx354_6⟩ := at_T43 HR0.out x1_1 p354 q354
    cases e354
    replace p354 := eq_true p354
    replace q354 := eq_true q354
    go_wp2_with (first | ((with_reducible refine gate_callee (f := 82) rfl ?_); refine goesL_ (some 10) rfl rfl Tryd.func82 (by kernel_rfl) rfl #[.int .i64 ((rd_T43 l0 x1_1).f0)] rfl lz ?_; (with_reducible refine (impl_Arity.calls k1 ((rd_T43 l0 x1_1).f0) t355 _ A5.out).mono ?_); rintro e w' ⟨rfl, ⟨nd, rfl⟩⟩; refine ⟨_, rfl, ?_⟩))
    go_ret
    exact ⟨e2z, dz⟩
def impl_StartOf.f (k : Nat) (l0 : List (S43)) (a1 : Int) : Option (Int) := (impl_NodesOk.f k l0).bind fun t357 => (if t357 = true then ((impl_in.f a1 0 (wrap64 ((l0.length : Int) - 1))).bind fun t358 => (if t358 = true then ((impl_startOf.f k l0 a1).bind fun t359 => (some t359)) else (some (-1)))) else (some (-1)))
theorem impl_StartOf.mono : ∀ a0 a1 k, LeO (impl_StartOf.f k a0 a1) (impl_StartOf.f (k + 1) a0 a1) := by
 intro a0 a1 k
 unfold impl_StartOf.f
 with_reducible repeat' first | exact impl_NodesOk.mono _ _ | exact impl_startOf.mono _ _ _ | exact lrz _ | exact lnz _ | refine liz ?_ ?_ | refine lbz ?_ fun _ => ?_
set_option maxHeartbeats 8000000 in
set_option maxRecDepth 100000 in
theorem impl_StartOf.calls (k : Nat) (A0 : Option Addr) (c0 : Nat) (l0 : List (S43)) (a1 : Int) (r : Int) (w : World) (hr0 : Kd.C k43 w A0 l0.length l0) (hc0 : l0.length <= c0) (h : impl_StartOf.f k l0 a1 = some r) :
  Calls Tryd.prog 40 #[.slice A0 l0.length c0, .int .i64 a1] w fun e w' => e = .returned (.int .i64 r) /\ Below w.heap.size w w' := by
 have HR0 := Aside0.mk hr0
 have HC0 := Aside0.mk hc0
 clear hr0 hc0
 have HB := Aside0.mk (Below.refl w.heap.size w)
 have H : ((impl_NodesOk.f k l0).bind fun t357 => (if t357 = true then ((impl_in.f a1 0 (wrap64 ((l0.length : Int) - 1))).bind fun t358 => (if t358 = true then ((impl_startOf.f k l0 a1).bind fun t359 => (some t359)) else (some (-1)))) else (some (-1)))) = some r := h
 clear h
 replace H := bi H
 obtain ⟨t357, A30, H⟩ := H
 try dsimp only at H
 have A3 := Aside0.mk A30
 clear A30
 by_cases c4 : t357 = true
 ·subst c4
  have H1 := hp H
  clear H
  have H := H1
  clear H1
  replace H := bi H
  obtain ⟨t358, A50, H⟩ := H
  try dsimp only at H
  have A5 := Aside0.mk A50
  clear A50
  by_cases c6 : t358 = true
  ·subst c6
   have H1 := hp H
   clear H
   have H := H1
   clear H1
   replace H := bi H
   obtain ⟨t359, A70, H⟩ := H
   try dsimp only at H
   have A7 := Aside0.mk A70
   clear A70
   obtain rfl := Option.some.inj H
   go_enter Tryd.func40, Tryd.ntmps40
   go_wp2_with (first | ((with_reducible refine gate_callee (f := 36) rfl ?_); refine goesL_ (some 6) rfl rfl Tryd.func36 (by kernel_rfl) rfl #[.slice A0 l0.length c0] rfl lz ?_; (with_reducible refine (impl_NodesOk.calls k _ _ l0 true _ ?side1 ?side2 A3.out).mono ?_); (case side1 => repeat (first | exact HR0.out | (with_reducible refine Kd.C_alloc ?_ _) | (with_reducible refine Kd.C_drewN ?_ _) | (with_reducible refine Kd.C_drew ?_))); (case side2 => exact HC0.out); rintro e w8 ⟨rfl, hb⟩; refine ⟨_, rfl, ?_⟩; replace HB := Aside0.mk (below_step (bz0 HB.out) hb); (try clear hb); (try clear hi)) | (go_at_call 44; (with_reducible refine (impl_in.calls a1 0 (wrap64 ((l0.length : Int) - 1)) true _ A5.out).mono ?_); rintro e w' ⟨rfl, ⟨nd, rfl⟩⟩) | ((with_reducible refine gate_callee (f := 74) rfl ?_); refine goesL_ (some 18) rfl rfl Tryd.func74 (by kernel_rfl) rfl #[.slice A0 l0.length c0, .int .i64 a1] rfl lz ?_; (with_reducible refine (impl_startOf.calls k _ _ l0 a1 t359 _ ?side1 ?side2 A7.out).mono ?_); (case side1 => exact cz (Kd.C_below HR0.out (bz0 HB.out))); (case side2 => exact HC0.out); rintro e w' ⟨rfl, ⟨nd, rfl⟩⟩; refine ⟨_, rfl, ?_⟩))
   go_ret
   exact ⟨gz, (bz0 HB.out)⟩
  ·replace c6 := Bool.eq_false_iff.mpr c6
   subst c6
   have H1 := hq H
   clear H
   have H := H1
   clear H1
   obtain rfl := Option.some.inj H
   go_enter Tryd.func40, Tryd.ntmps40
   go_wp2_with (first | ((with_reducible refine gate_callee (f := 36) rfl ?_); refine goesL_ (some 6) rfl rfl Tryd.func36 (by kernel_rfl) rfl #[.slice A0 l0.length c0] rfl lz ?_; (with_reducible refine (impl_NodesOk.calls k _ _ l0 true _ ?side1 ?side2 A3.out).mono ?_); (case side1 => repeat (first | exact HR0.out | (with_reducible refine Kd.C_alloc ?_ _) | (with_reducible refine Kd.C_drewN ?_ _) | (with_reducible refine Kd.C_drew ?_))); (case side2 => exact HC0.out); rintro e w9 ⟨rfl, hb⟩; refine ⟨_, rfl, ?_⟩; replace HB := Aside0.mk (below_step (bz0 HB.out) hb); (try clear hb); (try clear hi)) | (go_at_call 44; (with_reducible refine (impl_in.calls a1 0 (wrap64 ((l0.length : Int) - 1)) false _ A5.out).mono ?_); rintro e w' ⟨rfl, ⟨nd, rfl⟩⟩))
   go_ret
   exact ⟨gz, (bz0 HB.out)⟩
 ·replace c4 := Bool.eq_false_iff.mpr c4
  subst c4
  have H1 := hq H
  clear H
  have H := H1
  clear H1
  obtain rfl := Option.some.inj H
  go_enter Tryd.func40, Tryd.ntmps40
  go_wp2_with (first | ((with_reducible refine gate_callee (f := 36) rfl ?_); refine goesL_ (some 6) rfl rfl Tryd.func36 (by kernel_rfl) rfl #[.slice A0 l0.length c0] rfl lz ?_; (with_reducible refine (impl_NodesOk.calls k _ _ l0 false _ ?side1 ?side2 A3.out).mono ?_); (case side1 => repeat (first | exact HR0.out | (with_reducible refine Kd.C_alloc ?_ _) | (with_reducible refine Kd.C_drewN ?_ _) | (with_reducible refine Kd.C_drew ?_))); (case side2 => exact HC0.out); rintro e w10 ⟨rfl, hb⟩; refine ⟨_, rfl, ?_⟩; replace HB := Aside0.mk (below_step (bz0 HB.out) hb); (try clear hb); (try clear hi)))
  go_ret
  exact ⟨gz, (bz0 HB.out)⟩
def impl_PrintPart.f (k : Nat) (l0 : List (S43)) (a1 : Int) : Option (ByteArray) := (impl_StartOf.f k l0 a1).bind fun t360 => (if t360 < 0 then (some (⟨#[]⟩ : ByteArray)) else ((impl_printNode.f k l0 a1).bind fun t361 => (some t361)))
theorem impl_PrintPart.mono : ∀ a0 a1 k, LeO (impl_PrintPart.f k a0 a1) (impl_PrintPart.f (k + 1) a0 a1) := by
 intro a0 a1 k
 unfold impl_PrintPart.f
 with_reducible repeat' first | exact impl_StartOf.mono _ _ _ | exact impl_printNode.mono _ _ _ | exact lrz _ | exact lnz _ | refine liz ?_ ?_ | refine lbz ?_ fun _ => ?_
set_option maxHeartbeats 8000000 in
set_option maxRecDepth 100000 in
theorem impl_PrintPart.calls (k : Nat) (A0 : Option Addr) (c0 : Nat) (l0 : List (S43)) (a1 : Int) (r : ByteArray) (w : World) (hr0 : Kd.C k43 w A0 l0.length l0) (hc0 : l0.length <= c0) (h : impl_PrintPart.f k l0 a1 = some r) (hT_ : PW w) :
  Calls Tryd.prog 16 #[.slice A0 l0.length c0, .int .i64 a1] w fun e w' => e = .returned (.string r) /\ Below w.heap.size w w' := by
 have HR0 := Aside0.mk hr0
 have HC0 := Aside0.mk hc0
 clear hr0 hc0
 have HB := Aside0.mk (Below.refl w.heap.size w)
 have H : ((impl_StartOf.f k l0 a1).bind fun t360 => (if t360 < 0 then (some (⟨#[]⟩ : ByteArray)) else ((impl_printNode.f k l0 a1).bind fun t361 => (some t361)))) = some r := h
 clear h
 replace H := bi H
 obtain ⟨t360, A30, H⟩ := H
 try dsimp only at H
 have A3 := Aside0.mk A30
 clear A30
 by_cases c4 : t360 < 0
 ·rw [if_pos c4] at H
  have c4b0 := decide_eq_true c4
  clear c4
  obtain rfl := Option.some.inj H
  go_enter Tryd.func16, Tryd.ntmps16
  go_wp2_with (first | ((with_reducible refine gate_callee (f := 40) rfl ?_); refine goesL_ (some 7) rfl rfl Tryd.func40 (by kernel_rfl) rfl #[.slice A0 l0.length c0, .int .i64 a1] rfl lz ?_; (with_reducible refine (impl_StartOf.calls k _ _ l0 a1 t360 _ ?side1 ?side2 A3.out).mono ?_); (case side1 => repeat (first | exact HR0.out | (with_reducible refine Kd.C_alloc ?_ _) | (with_reducible refine Kd.C_drewN ?_ _) | (with_reducible refine Kd.C_drew ?_))); (case side2 => exact HC0.out); rintro e w5 ⟨rfl, hb⟩; refine ⟨_, rfl, ?_⟩; replace HB := Aside0.mk (below_step (bz0 HB.out) hb); (try clear hb); (try clear hi)))
  go_ret
  exact ⟨gz, (bz0 HB.out)⟩
 ·rw [if_neg c4] at H
  have c4b0 := decide_eq_false c4
  clear c4
  replace H := bi H
  obtain ⟨t361, A60, H⟩ := H
  try dsimp only at H
  have A6 := Aside0.mk A60
  clear A60
  obtain rfl := Option.some.inj H
  go_enter Tryd.func16, Tryd.ntmps16
  go_wp2_with (first | ((with_reducible refine gate_callee (f := 40) rfl ?_); refine goesL_ (some 7) rfl rfl Tryd.func40 (by kernel_rfl) rfl #[.slice A0 l0.length c0, .int .i64 a1] rfl lz ?_; (with_reducible refine (impl_StartOf.calls k _ _ l0 a1 t360 _ ?side1 ?side2 A3.out).mono ?_); (case side1 => repeat (first | exact HR0.out | (with_reducible refine Kd.C_alloc ?_ _) | (with_reducible refine Kd.C_drewN ?_ _) | (with_reducible refine Kd.C_drew ?_))); (case side2 => exact HC0.out); rintro e w7 ⟨rfl, hb⟩; refine ⟨_, rfl, ?_⟩; replace HB := Aside0.mk (below_step (bz0 HB.out) hb); (try clear hb); (try clear hi)) | ((with_reducible refine gate_callee (f := 37) rfl ?_); refine goesL_ (some 11) rfl rfl Tryd.func37 (by kernel_rfl) rfl #[.slice A0 l0.length c0, .int .i64 a1] rfl lz ?_; (with_reducible refine (impl_printNode.calls k _ _ l0 a1 t361 _ ?side1 ?side2 A6.out ?hT_).mono ?_); (case hT_ => exact PW.below hT_ (bz0 HB.out)); (case side1 => exact cz (Kd.C_below HR0.out HB.out)); (case side2 => exact HC0.out); rintro e w8 ⟨rfl, hb⟩; refine ⟨_, rfl, ?_⟩; replace HB := Aside0.mk (below_step (bz0 HB.out) hb); (try clear hb); (try clear hi)))
  go_ret
  exact ⟨gz, (bz0 HB.out)⟩
def laws_FnExactPrintPart.f (k : Nat) (l0 : List (S42)) (a1 : Int) : Option (Bool) := (laws_szNodeS.f k l0 1048576).bind fun t362 => (if t362 < 0 then (some true) else ((laws_toNodeS.f k l0).bind fun t363 => ((spec_PrintPart.f k t363 a1).bind fun t366 => ((laws_toNodeS.f k l0).bind fun t367 => ((impl_PrintPart.f k t367 a1).bind fun t370 => (if t370.toList = t366.toList then ((laws_toNodeS.f k l0).bind fun t371 => ((laws_eqNodeS.f k t367 t371).bind fun t374 => (if t374 = true then (some true) else (some false)))) else (some false)))))))
theorem laws_FnExactPrintPart.mono : ∀ a0 a1 k, LeO (laws_FnExactPrintPart.f k a0 a1) (laws_FnExactPrintPart.f (k + 1) a0 a1) := by
 intro a0 a1 k
 unfold laws_FnExactPrintPart.f
 with_reducible repeat' first | exact impl_PrintPart.mono _ _ _ | exact laws_eqNodeS.mono _ _ _ | exact laws_szNodeS.mono _ _ _ | exact laws_toNodeS.mono _ _ | exact spec_PrintPart.mono _ _ _ | exact lrz _ | exact lnz _ | refine liz ?_ ?_ | refine lbz ?_ fun _ => ?_
set_option maxHeartbeats 8000000 in
set_option maxRecDepth 100000 in
theorem laws_FnExactPrintPart.calls (k : Nat) (A0 : Option Addr) (c0 : Nat) (l0 : List (S42)) (a1 : Int) (r : Bool) (w : World) (hr0 : Kd.C k42 w A0 l0.length l0) (hc0 : l0.length <= c0) (h : laws_FnExactPrintPart.f k l0 a1 = some r) (hT_ : PW w) :
  Calls Tryd.prog 4 #[.slice A0 l0.length c0, .int .i64 a1] w fun e w' => e = .returned (.bool r) /\ Below w.heap.size w w' := by
 have HR0 := Aside0.mk hr0
 have HC0 := Aside0.mk hc0
 clear hr0 hc0
 have HB := Aside0.mk (Below.refl w.heap.size w)
 have H : ((laws_szNodeS.f k l0 1048576).bind fun t362 => (if t362 < 0 then (some true) else ((laws_toNodeS.f k l0).bind fun t363 => ((spec_PrintPart.f k t363 a1).bind fun t366 => ((laws_toNodeS.f k l0).bind fun t367 => ((impl_PrintPart.f k t367 a1).bind fun t370 => (if t370.toList = t366.toList then ((laws_toNodeS.f k l0).bind fun t371 => ((laws_eqNodeS.f k t367 t371).bind fun t374 => (if t374 = true then (some true) else (some false)))) else (some false)))))))) = some r := h
 clear h
 replace H := bi H
 obtain ⟨t362, A30, H⟩ := H
 try dsimp only at H
 have A3 := Aside0.mk A30
 clear A30
 by_cases c4 : t362 < 0
 ·rw [if_pos c4] at H
  have c4b0 := decide_eq_true c4
  clear c4
  obtain rfl := Option.some.inj H
  go_enter Tryd.func4, Tryd.ntmps4
  go_wp2_with (first | ((with_reducible refine gate_callee (f := 10) rfl ?_); refine goesL_ (some 11) rfl rfl Tryd.func10 (by kernel_rfl) rfl #[.slice A0 l0.length c0, .int .i64 1048576] rfl lz ?_; (with_reducible refine (laws_szNodeS.calls k _ _ l0 1048576 t362 _ ?side1 ?side2 A3.out).mono ?_); (case side1 => repeat (first | exact HR0.out | (with_reducible refine Kd.C_alloc ?_ _) | (with_reducible refine Kd.C_drewN ?_ _) | (with_reducible refine Kd.C_drew ?_))); (case side2 => exact HC0.out); rintro e w5 ⟨rfl, hb⟩; refine ⟨_, rfl, ?_⟩; replace HB := Aside0.mk (below_step (bz0 HB.out) hb); (try clear hb); (try clear hi)))
  go_ret
  exact ⟨gz, (bz0 HB.out)⟩
 ·rw [if_neg c4] at H
  have c4b0 := decide_eq_false c4
  clear c4
  replace H := bi H
  obtain ⟨t363, A60, H⟩ := H
  try dsimp only at H
  have A6 := Aside0.mk A60
  clear A60
  replace H := bi H
  obtain ⟨t366, A70, H⟩ := H
  try dsimp only at H
  have A7 := Aside0.mk A70
  clear A70
  replace H := bi H
  obtain ⟨t367, A80, H⟩ := H
  try dsimp only at H
  have A8 := Aside0.mk A80
  clear A80
  replace H := bi H
  obtain ⟨t370, A90, H⟩ := H
  try dsimp only at H
  have A9 := Aside0.mk A90
  clear A90
  by_cases c10 : t370.toList = t366.toList
  ·rw [if_pos c10] at H
   have c10b0 : (t370.toList == t366.toList) = true := beq_iff_eq.mpr c10
   have c10b1 : (t370.toList != t366.toList) = false := bne_eq_false_iff_eq.mpr c10
   clear c10
   replace H := bi H
   obtain ⟨t371, A110, H⟩ := H
   try dsimp only at H
   have A11 := Aside0.mk A110
   clear A110
   replace H := bi H
   obtain ⟨t374, A120, H⟩ := H
   try dsimp only at H
   have A12 := Aside0.mk A120
   clear A120
   by_cases c13 : t374 = true
   ·subst c13
    have H1 := hp H
    clear H
    have H := H1
    clear H1
    obtain rfl := Option.some.inj H
    go_enter Tryd.func4, Tryd.ntmps4
    go_wp2_with (first | ((with_reducible refine gate_callee (f := 10) rfl ?_); refine goesL_ (some 11) rfl rfl Tryd.func10 (by kernel_rfl) rfl #[.slice A0 l0.length c0, .int .i64 1048576] rfl lz ?_; (with_reducible refine (laws_szNodeS.calls k _ _ l0 1048576 t362 _ ?side1 ?side2 A3.out).mono ?_); (case side1 => repeat (first | exact HR0.out | (with_reducible refine Kd.C_alloc ?_ _) | (with_reducible refine Kd.C_drewN ?_ _) | (with_reducible refine Kd.C_drew ?_))); (case side2 => exact HC0.out); rintro e w14 ⟨rfl, hb⟩; refine ⟨_, rfl, ?_⟩; replace HB := Aside0.mk (below_step (bz0 HB.out) hb); (try clear hb); (try clear hi)) | ((with_reducible refine gate_callee (f := 12) rfl ?_); refine goesL_ (some 15) rfl rfl Tryd.func12 (by kernel_rfl) rfl #[.slice A0 l0.length c0] rfl lz ?_; (with_reducible refine (laws_toNodeS.calls k _ _ l0 t363 _ ?side1 ?side2 A6.out).mono ?_); (case side1 => exact cz (Kd.C_below HR0.out HB.out)); (case side2 => exact HC0.out); rintro e w15 ⟨v364, rfl, ho0, hb⟩; refine ⟨_, rfl, ?_⟩; have HO365 := Aside0.mk (Kd.R_lower ho0 (below_size (bz0 HB.out))); replace HB := Aside0.mk (below_step (bz0 HB.out) hb); (try clear hb); (try clear ho0); obtain ⟨Ao16, co16, eo16⟩ := Kd.R_slice HO365.out; subst eo16) | ((with_reducible refine gate_callee (f := 15) rfl ?_); refine goesL_ (some 17) rfl rfl Tryd.func15 (by kernel_rfl) rfl #[.slice Ao16 t363.length co16, .int .i64 a1] rfl lz ?_; (with_reducible refine (spec_PrintPart.calls k _ _ t363 a1 t366 _ ?side1 ?side2 A7.out).mono ?_); (case side1 => exact cz (Kd.R_reads' HO365.out).2.2); (case side2 => exact (Kd.R_reads' HO365.out).2.1); rintro e w17 ⟨rfl, hb⟩; refine ⟨_, rfl, ?_⟩; replace HO365 := qz HO365 hb; replace HB := Aside0.mk (below_step (bz0 HB.out) hb); (try clear hb); (try clear hi)) | ((with_reducible refine gate_callee (f := 12) rfl ?_); refine goesL_ (some 19) rfl rfl Tryd.func12 (by kernel_rfl) rfl #[.slice A0 l0.length c0] rfl lz ?_; (with_reducible refine (laws_toNodeS.calls k _ _ l0 t367 _ ?side1 ?side2 A8.out).mono ?_); (case side1 => exact cz (Kd.C_below HR0.out HB.out)); (case side2 => exact HC0.out); rintro e w18 ⟨v368, rfl, ho0, hb⟩; refine ⟨_, rfl, ?_⟩; have HO369 := Aside0.mk (Kd.R_lower (Kd.R_new' ho0 (Kd.R_lt (rz HO365.out))) (below_size (bz0 HB.out))); replace HO365 := Aside0.mk (Kd.R_elder' (rz HO365.out) (Kd.R_base ho0) hb); replace HB := Aside0.mk (below_step (bz0 HB.out) hb); (try clear hb); (try clear ho0); obtain ⟨Ao19, co19, eo19⟩ := Kd.R_slice HO369.out; subst eo19) | ((with_reducible refine gate_callee (f := 16) rfl ?_); refine goesL_ (some 22) rfl rfl Tryd.func16 (by kernel_rfl) rfl #[.slice Ao19 t367.length co19, .int .i64 a1] rfl lz ?_; (with_reducible refine (impl_PrintPart.calls k _ _ t367 a1 t370 _ ?side1 ?side2 A9.out ?hT_).mono ?_); (case hT_ => exact PW.below hT_ (bz0 HB.out)); (case side1 => exact cz (Kd.R_reads' HO369.out).2.2); (case side2 => exact (Kd.R_reads' HO369.out).2.1); rintro e w20 ⟨rfl, hb⟩; refine ⟨_, rfl, ?_⟩; replace HO365 := qz HO365 hb; replace HO369 := qz HO369 hb; replace HB := Aside0.mk (below_step (bz0 HB.out) hb); (try clear hb); (try clear hi)) | ((with_reducible refine gate_callee (f := 12) rfl ?_); refine goesL_ (some 28) rfl rfl Tryd.func12 (by kernel_rfl) rfl #[.slice A0 l0.length c0] rfl lz ?_; (with_reducible refine (laws_toNodeS.calls k _ _ l0 t371 _ ?side1 ?side2 A11.out).mono ?_); (case side1 => exact cz (Kd.C_below HR0.out HB.out)); (case side2 => exact HC0.out); rintro e w21 ⟨v372, rfl, ho0, hb⟩; refine ⟨_, rfl, ?_⟩; have HO373 := Aside0.mk (Kd.R_lower (Kd.R_new' (Kd.R_new' ho0 (Kd.R_lt (rz HO365.out))) (Kd.R_lt (rz HO369.out))) (below_size (bz0 HB.out))); replace HO365 := Aside0.mk (Kd.R_elder' (rz HO365.out) (Kd.R_base ho0) hb); replace HO369 := Aside0.mk (Kd.R_elder' (rz HO369.out) (Kd.R_base ho0) hb); replace HB := Aside0.mk (below_step (bz0 HB.out) hb); (try clear hb); (try clear ho0); obtain ⟨Ao22, co22, eo22⟩ := Kd.R_slice HO373.out; subst eo22) | ((with_reducible refine gate_callee (f := 14) rfl ?_); refine goesL_ (some 29) rfl rfl Tryd.func14 (by kernel_rfl) rfl #[.slice Ao19 t367.length co19, .slice Ao22 t371.length co22] rfl lz ?_; (with_reducible refine (laws_eqNodeS.calls k _ _ t367 _ _ t371 true _ ?side1 ?side2 ?side3 ?side4 A12.out).mono ?_); (case side1 => exact cz (Kd.R_reads' HO369.out).2.2); (case side2 => exact (Kd.R_reads' HO369.out).2.1); (case side3 => exact cz (Kd.R_reads' HO373.out).2.2); (case side4 => exact (Kd.R_reads' HO373.out).2.1); rintro e w23 ⟨rfl, hb⟩; refine ⟨_, rfl, ?_⟩; replace HO365 := qz HO365 hb; replace HO369 := qz HO369 hb; replace HO373 := qz HO373 hb; replace HB := Aside0.mk (below_step (bz0 HB.out) hb); (try clear hb); (try clear hi)))
    go_ret
    exact ⟨gz, (bz0 HB.out)⟩
   ·replace c13 := Bool.eq_false_iff.mpr c13
    subst c13
    have H1 := hq H
    clear H
    have H := H1
    clear H1
    obtain rfl := Option.some.inj H
    go_enter Tryd.func4, Tryd.ntmps4
    go_wp2_with (first | ((with_reducible refine gate_callee (f := 10) rfl ?_); refine goesL_ (some 11) rfl rfl Tryd.func10 (by kernel_rfl) rfl #[.slice A0 l0.length c0, .int .i64 1048576] rfl lz ?_; (with_reducible refine (laws_szNodeS.calls k _ _ l0 1048576 t362 _ ?side1 ?side2 A3.out).mono ?_); (case side1 => repeat (first | exact HR0.out | (with_reducible refine Kd.C_alloc ?_ _) | (with_reducible refine Kd.C_drewN ?_ _) | (with_reducible refine Kd.C_drew ?_))); (case side2 => exact HC0.out); rintro e w24 ⟨rfl, hb⟩; refine ⟨_, rfl, ?_⟩; replace HB := Aside0.mk (below_step (bz0 HB.out) hb); (try clear hb); (try clear hi)) | ((with_reducible refine gate_callee (f := 12) rfl ?_); refine goesL_ (some 15) rfl rfl Tryd.func12 (by kernel_rfl) rfl #[.slice A0 l0.length c0] rfl lz ?_; (with_reducible refine (laws_toNodeS.calls k _ _ l0 t363 _ ?side1 ?side2 A6.out).mono ?_); (case side1 => exact cz (Kd.C_below HR0.out HB.out)); (case side2 => exact HC0.out); rintro e w25 ⟨v364, rfl, ho0, hb⟩; refine ⟨_, rfl, ?_⟩; have HO365 := Aside0.mk (Kd.R_lower ho0 (below_size (bz0 HB.out))); replace HB := Aside0.mk (below_step (bz0 HB.out) hb); (try clear hb); (try clear ho0); obtain ⟨Ao26, co26, eo26⟩ := Kd.R_slice HO365.out; subst eo26) | ((with_reducible refine gate_callee (f := 15) rfl ?_); refine goesL_ (some 17) rfl rfl Tryd.func15 (by kernel_rfl) rfl #[.slice Ao26 t363.length co26, .int .i64 a1] rfl lz ?_; (with_reducible refine (spec_PrintPart.calls k _ _ t363 a1 t366 _ ?side1 ?side2 A7.out).mono ?_); (case side1 => exact cz (Kd.R_reads' HO365.out).2.2); (case side2 => exact (Kd.R_reads' HO365.out).2.1); rintro e w27 ⟨rfl, hb⟩; refine ⟨_, rfl, ?_⟩; replace HO365 := qz HO365 hb; replace HB := Aside0.mk (below_step (bz0 HB.out) hb); (try clear hb); (try clear hi)) | ((with_reducible refine gate_callee (f := 12) rfl ?_); refine goesL_ (some 19) rfl rfl Tryd.func12 (by kernel_rfl) rfl #[.slice A0 l0.length c0] rfl lz ?_; (with_reducible refine (laws_toNodeS.calls k _ _ l0 t367 _ ?side1 ?side2 A8.out).mono ?_); (case side1 => exact cz (Kd.C_below HR0.out HB.out)); (case side2 => exact HC0.out); rintro e w28 ⟨v368, rfl, ho0, hb⟩; refine ⟨_, rfl, ?_⟩; have HO369 := Aside0.mk (Kd.R_lower (Kd.R_new' ho0 (Kd.R_lt (rz HO365.out))) (below_size (bz0 HB.out))); replace HO365 := Aside0.mk (Kd.R_elder' (rz HO365.out) (Kd.R_base ho0) hb); replace HB := Aside0.mk (below_step (bz0 HB.out) hb); (try clear hb); (try clear ho0); obtain ⟨Ao29, co29, eo29⟩ := Kd.R_slice HO369.out; subst eo29) | ((with_reducible refine gate_callee (f := 16) rfl ?_); refine goesL_ (some 22) rfl rfl Tryd.func16 (by kernel_rfl) rfl #[.slice Ao29 t367.length co29, .int .i64 a1] rfl lz ?_; (with_reducible refine (impl_PrintPart.calls k _ _ t367 a1 t370 _ ?side1 ?side2 A9.out ?hT_).mono ?_); (case hT_ => exact PW.below hT_ (bz0 HB.out)); (case side1 => exact cz (Kd.R_reads' HO369.out).2.2); (case side2 => exact (Kd.R_reads' HO369.out).2.1); rintro e w30 ⟨rfl, hb⟩; refine ⟨_, rfl, ?_⟩; replace HO365 := qz HO365 hb; replace HO369 := qz HO369 hb; replace HB := Aside0.mk (below_step (bz0 HB.out) hb); (try clear hb); (try clear hi)) | ((with_reducible refine gate_callee (f := 12) rfl ?_); refine goesL_ (some 28) rfl rfl Tryd.func12 (by kernel_rfl) rfl #[.slice A0 l0.length c0] rfl lz ?_; (with_reducible refine (laws_toNodeS.calls k _ _ l0 t371 _ ?side1 ?side2 A11.out).mono ?_); (case side1 => exact cz (Kd.C_below HR0.out HB.out)); (case side2 => exact HC0.out); rintro e w31 ⟨v372, rfl, ho0, hb⟩; refine ⟨_, rfl, ?_⟩; have HO373 := Aside0.mk (Kd.R_lower (Kd.R_new' (Kd.R_new' ho0 (Kd.R_lt (rz HO365.out))) (Kd.R_lt (rz HO369.out))) (below_size (bz0 HB.out))); replace HO365 := Aside0.mk (Kd.R_elder' (rz HO365.out) (Kd.R_base ho0) hb); replace HO369 := Aside0.mk (Kd.R_elder' (rz HO369.out) (Kd.R_base ho0) hb); replace HB := Aside0.mk (below_step (bz0 HB.out) hb); (try clear hb); (try clear ho0); obtain ⟨Ao32, co32, eo32⟩ := Kd.R_slice HO373.out; subst eo32) | ((with_reducible refine gate_callee (f := 14) rfl ?_); refine goesL_ (some 29) rfl rfl Tryd.func14 (by kernel_rfl) rfl #[.slice Ao29 t367.length co29, .slice Ao32 t371.length co32] rfl lz ?_; (with_reducible refine (laws_eqNodeS.calls k _ _ t367 _ _ t371 false _ ?side1 ?side2 ?side3 ?side4 A12.out).mono ?_); (case side1 => exact cz (Kd.R_reads' HO369.out).2.2); (case side2 => exact (Kd.R_reads' HO369.out).2.1); (case side3 => exact cz (Kd.R_reads' HO373.out).2.2); (case side4 => exact (Kd.R_reads' HO373.out).2.1); rintro e w33 ⟨rfl, hb⟩; refine ⟨_, rfl, ?_⟩; replace HO365 := qz HO365 hb; replace HO369 := qz HO369 hb; replace HO373 := qz HO373 hb; replace HB := Aside0.mk (below_step (bz0 HB.out) hb); (try clear hb); (try clear hi)))
    go_ret
    exact ⟨gz, (bz0 HB.out)⟩
  ·rw [if_neg c10] at H
   have c10b0 : (t370.toList == t366.toList) = false := beq_eq_false_iff_ne.mpr c10
   have c10b1 : (t370.toList != t366.toList) = true := bne_iff_ne.mpr c10
   obtain rfl := Option.some.inj H
   go_enter Tryd.func4, Tryd.ntmps4
   go_wp2_with (first | ((with_reducible refine gate_callee (f := 10) rfl ?_); refine goesL_ (some 11) rfl rfl Tryd.func10 (by kernel_rfl) rfl #[.slice A0 l0.length c0, .int .i64 1048576] rfl lz ?_; (with_reducible refine (laws_szNodeS.calls k _ _ l0 1048576 t362 _ ?side1 ?side2 A3.out).mono ?_); (case side1 => repeat (first | exact HR0.out | (with_reducible refine Kd.C_alloc ?_ _) | (with_reducible refine Kd.C_drewN ?_ _) | (with_reducible refine Kd.C_drew ?_))); (case side2 => exact HC0.out); rintro e w34 ⟨rfl, hb⟩; refine ⟨_, rfl, ?_⟩; replace HB := Aside0.mk (below_step (bz0 HB.out) hb); (try clear hb); (try clear hi)) | ((with_reducible refine gate_callee (f := 12) rfl ?_); refine goesL_ (some 15) rfl rfl Tryd.func12 (by kernel_rfl) rfl #[.slice A0 l0.length c0] rfl lz ?_; (with_reducible refine (laws_toNodeS.calls k _ _ l0 t363 _ ?side1 ?side2 A6.out).mono ?_); (case side1 => exact cz (Kd.C_below HR0.out HB.out)); (case side2 => exact HC0.out); rintro e w35 ⟨v364, rfl, ho0, hb⟩; refine ⟨_, rfl, ?_⟩; have HO365 := Aside0.mk (Kd.R_lower ho0 (below_size (bz0 HB.out))); replace HB := Aside0.mk (below_step (bz0 HB.out) hb); (try clear hb); (try clear ho0); obtain ⟨Ao36, co36, eo36⟩ := Kd.R_slice HO365.out; subst eo36) | ((with_reducible refine gate_callee (f := 15) rfl ?_); refine goesL_ (some 17) rfl rfl Tryd.func15 (by kernel_rfl) rfl #[.slice Ao36 t363.length co36, .int .i64 a1] rfl lz ?_; (with_reducible refine (spec_PrintPart.calls k _ _ t363 a1 t366 _ ?side1 ?side2 A7.out).mono ?_); (case side1 => exact cz (Kd.R_reads' HO365.out).2.2); (case side2 => exact (Kd.R_reads' HO365.out).2.1); rintro e w37 ⟨rfl, hb⟩; refine ⟨_, rfl, ?_⟩; replace HO365 := qz HO365 hb; replace HB := Aside0.mk (below_step (bz0 HB.out) hb); (try clear hb); (try clear hi)) | ((with_reducible refine gate_callee (f := 12) rfl ?_); refine goesL_ (some 19) rfl rfl Tryd.func12 (by kernel_rfl) rfl #[.slice A0 l0.length c0] rfl lz ?_; (with_reducible refine (laws_toNodeS.calls k _ _ l0 t367 _ ?side1 ?side2 A8.out).mono ?_); (case side1 => exact cz (Kd.C_below HR0.out HB.out)); (case side2 => exact HC0.out); rintro e w38 ⟨v368, rfl, ho0, hb⟩; refine ⟨_, rfl, ?_⟩; have HO369 := Aside0.mk (Kd.R_lower (Kd.R_new' ho0 (Kd.R_lt (rz HO365.out))) (below_size (bz0 HB.out))); replace HO365 := Aside0.mk (Kd.R_elder' (rz HO365.out) (Kd.R_base ho0) hb); replace HB := Aside0.mk (below_step (bz0 HB.out) hb); (try clear hb); (try clear ho0); obtain ⟨Ao39, co39, eo39⟩ := Kd.R_slice HO369.out; subst eo39) | ((with_reducible refine gate_callee (f := 16) rfl ?_); refine goesL_ (some 22) rfl rfl Tryd.func16 (by kernel_rfl) rfl #[.slice Ao39 t367.length co39, .int .i64 a1] rfl lz ?_; (with_reducible refine (impl_PrintPart.calls k _ _ t367 a1 t370 _ ?side1 ?side2 A9.out ?hT_).mono ?_); (case hT_ => exact PW.below hT_ (bz0 HB.out)); (case side1 => exact cz (Kd.R_reads' HO369.out).2.2); (case side2 => exact (Kd.R_reads' HO369.out).2.1); rintro e w40 ⟨rfl, hb⟩; refine ⟨_, rfl, ?_⟩; replace HO365 := qz HO365 hb; replace HO369 := qz HO369 hb; replace HB := Aside0.mk (below_step (bz0 HB.out) hb); (try clear hb); (try clear hi)))
   go_ret
   exact ⟨gz, (bz0 HB.out)⟩
end Go.Proofs.YtmilegjmiiccdaaDoor.PFnExactPrintPart
