/- PFnExactCanonx20, of the words and walks that the law FnExactCanon needs; made by this session's program out of printed texts. -/

import Derived.Test.YtmilegjmiiccdaaDoorVECanonPx0
import Derived.Test.YtmilegjmiiccdaaDoorVECanonPx12
import Derived.Test.YtmilegjmiiccdaaDoorVECanonPx16
namespace Go.Proofs.YtmilegjmiiccdaaDoor.PFnExactCanon
open Go.RowKit Go.Proofs.YtmilegjmiiccdaaDoorW.PrintWords Go.Proofs.YtmilegjmiiccdaaDoorW.PrintLast Go.Proofs.YtmilegjmiiccdaaDoorW.PrintMore
attribute [local go_sem] max2_int min2_int max_two min_two max_three min_three max_four min_four
set_option linter.unusedVariables false
set_option linter.unusedSimpArgs false
mutual
def impl_Sites.l0 : Nat -> List (S55) -> List (S43) -> Int -> Int -> Option ((List (S55)))
 | 0, _, _, _, _ => none
 | k + 1, x3, x10, x11, x12 => if x12 < x11 then (if 0 <= x12 then (if x12 < (x10.length : Int) then (if ((rd_T43 x10 x12).f0) = 1 then (impl_Sites.l0 k x3 x10 x11 (wrap64 (x12 + 1))) else ((impl_namesOf.f k ((rd_T43 x10 x12).f0)).bind fun t526 => (impl_Sites.l1 k x3 x12 x10 x11 x12 t526 0))) else (none)) else (none)) else (some x3)
def impl_Sites.l1 : Nat -> List (S55) -> Int -> List (S43) -> Int -> Int -> Int -> Int -> Option ((List (S55)))
 | 0, _, _, _, _, _, _, _ => none
 | k + 1, x3, x4, x10, x11, x12, x22, x23 => if x23 < x22 then (if x3.length < 8796093022208 then (impl_Sites.l1 k (x3 ++ [(⟨x4, x23⟩ : S55)]) x4 x10 x11 x12 x22 (wrap64 (x23 + 1))) else (none)) else (impl_Sites.l0 k x3 x10 x11 (wrap64 (x12 + 1)))
end
def impl_Sites.f (k : Nat) (l0 : List (S43)) : Option ((List (S55))) := (impl_NodesOk.f k l0).bind fun t523 => (if t523 = true then (impl_Sites.l0 k ([] : List (S55)) l0 (l0.length : Int) 0) else (some ([] : List (S55))))
theorem impl_Sites.mono_l : ∀ k, (∀ y0 y1 y2 y3, LeO (impl_Sites.l0 k y0 y1 y2 y3) (impl_Sites.l0 (k + 1) y0 y1 y2 y3)) /\ (∀ y0 y1 y2 y3 y4 y5 y6, LeO (impl_Sites.l1 k y0 y1 y2 y3 y4 y5 y6) (impl_Sites.l1 (k + 1) y0 y1 y2 y3 y4 y5 y6))
 | 0 => ⟨fun _ _ _ _ r h => by simp [impl_Sites.l0] at h, fun _ _ _ _ _ _ _ r h => by simp [impl_Sites.l1] at h⟩
 | k + 1 => by
  obtain ⟨ih0, ih1⟩ := impl_Sites.mono_l k
  refine ⟨?_, ?_⟩
  ·intro y0 y1 y2 y3
   unfold impl_Sites.l0
   with_reducible repeat' first | exact ih0 _ _ _ _ | exact ih1 _ _ _ _ _ _ _ | exact impl_NodesOk.mono _ _ | exact impl_namesOf.mono _ _ | exact lrz _ | exact lnz _ | refine liz ?_ ?_ | refine lbz ?_ fun _ => ?_
  ·intro y0 y1 y2 y3 y4 y5 y6
   unfold impl_Sites.l1
   with_reducible repeat' first | exact ih0 _ _ _ _ | exact ih1 _ _ _ _ _ _ _ | exact impl_NodesOk.mono _ _ | exact impl_namesOf.mono _ _ | exact lrz _ | exact lnz _ | refine liz ?_ ?_ | refine lbz ?_ fun _ => ?_
theorem impl_Sites.mono : ∀ a0 k, LeO (impl_Sites.f k a0) (impl_Sites.f (k + 1) a0) := by
 intro a0 k
 obtain ⟨ih0, ih1⟩ := impl_Sites.mono_l k
 unfold impl_Sites.f
 with_reducible repeat' first | exact ih0 _ _ _ _ | exact ih1 _ _ _ _ _ _ _ | exact impl_NodesOk.mono _ _ | exact impl_namesOf.mono _ _ | exact lrz _ | exact lnz _ | refine liz ?_ ?_ | refine lbz ?_ fun _ => ?_
set_option maxHeartbeats 8000000 in
set_option maxRecDepth 100000 in
theorem impl_Sites.calls (k : Nat) (A0 : Option Addr) (c0 : Nat) (l0 : List (S43)) (r : List (S55)) (w : World) (hr0 : Kd.C k43 w A0 l0.length l0) (hc0 : l0.length <= c0) (h : impl_Sites.f k l0 = some r) :
  Calls Tryd.prog 59 #[.slice A0 l0.length c0] w fun e w' => ∃ v0_ : Value, e = .returned (v0_) /\ Kd.R k55 55 w' w.heap.size (fun _ => True) v0_ r /\ Below w.heap.size w w' := by
 have hu43 := Tryd.underlying43
 have hu55 := Tryd.underlying55
 have HR0 := Aside0.mk hr0
 have HC0 := Aside0.mk hc0
 clear hr0 hc0
 have HB := Aside0.mk (Below.refl w.heap.size w)
 have H : ((impl_NodesOk.f k l0).bind fun t523 => (if t523 = true then (impl_Sites.l0 k ([] : List (S55)) l0 (l0.length : Int) 0) else (some ([] : List (S55))))) = some r := h
 clear h
 replace H := bi H
 obtain ⟨t523, A20, H⟩ := H
 try dsimp only at H
 have A2 := Aside0.mk A20
 clear A20
 by_cases c3 : t523 = true
 ·subst c3
  have H1 := hp H
  clear H
  have H := H1
  clear H1
  have H' := Aside0.mk H
  clear H
  go_enter Tryd.func59, Tryd.ntmps59
  go_wp2_with (first | ((with_reducible refine gate_callee (f := 36) rfl ?_); refine goesL_ (some 8) rfl rfl Tryd.func36 (by kernel_rfl) rfl #[.slice A0 l0.length c0] rfl lz ?_; (with_reducible refine (impl_NodesOk.calls k _ _ l0 true _ ?side1 ?side2 A2.out).mono ?_); (case side1 => repeat (first | exact HR0.out | (with_reducible refine Kd.C_alloc ?_ _) | (with_reducible refine Kd.C_drewN ?_ _) | (with_reducible refine Kd.C_drew ?_))); (case side2 => exact HC0.out); rintro e w4 ⟨rfl, hb⟩; refine ⟨_, rfl, ?_⟩; replace HB := Aside0.mk (below_step (bz0 HB.out) hb); (try clear hb); (try clear hi)))
  go_loopg [3, 12] k (fun kq v3 v12 w' => ∃ (x3_1 : List (S55)) (x12_1 : Int), v12 = .int .i64 x12_1 /\ Aside0 (impl_Sites.l0 kq x3_1 l0 (l0.length : Int) x12_1 = some r) /\ Aside0 (kq <= k) /\ Aside0 (Kd.R k55 55 w' w.heap.size (fun _ => True) v3 x3_1) /\ Aside0 (Below w.heap.size w w'))
  case atStart => exact ⟨(([] : List (S55))), (0), ez, H', ⟨Nat.le_refl _⟩, ⟨by first | exact Kd.R_nil _ _ _ _ _ | exact Kd.N_nil _ _ _ _ _ | exact Kd.V_nil _ _ _ _ _ | exact Kd.Q_nil _ _ _ _ _ | exact Kd.S_nil _ _ _ _ _⟩, ⟨(bz0 HB.out)⟩⟩
  case round =>
   clear H'
   try clear p2
   try clear c3
   obtain ⟨x3_1, x12_1, rfl, HA, HK1, HO_3, HB⟩ := hrel
   cases gk with
   | zero => exact absurd HA.out (by simp [impl_Sites.l0])
   | succ k1 =>
    have H := HA.out
    clear HA
    simp only [impl_Sites.l0] at H
    by_cases c5 : x12_1 < (l0.length : Int)
    ·rw [if_pos c5] at H
     have c5b0 := decide_eq_true c5
     clear c5
     replace H := iz H
     obtain ⟨c6, H⟩ := H
     have c6b0 := decide_eq_true c6
     clear c6
     replace H := iz H
     obtain ⟨c7, H⟩ := H
     have c7b0 := decide_eq_true c7
     clear c7
     by_cases c8 : ((rd_T43 l0 x12_1).f0) = 1
     ·rw [if_pos c8] at H
      have c8b0 : (((rd_T43 l0 x12_1).f0) == 1) = true := beq_iff_eq.mpr c8
      have c8b1 : (((rd_T43 l0 x12_1).f0) != 1) = false := bne_eq_false_iff_eq.mpr c8
      clear c8
      have H' := Aside0.mk H
      clear H
      have p524 : 0 <= (x12_1 : Int) := oz
      have q524 : x12_1 < (l0.length : Int) := oz
      obtain ⟨ad524, e524, hx524_0, hx524_1, hx524_2, hx524_3, hx524_4, hx524_5, hx524_6⟩ := at_T43 (Kd.C_below HR0.out HB.out) x12_1 p524 q524
      cases e524
      replace p524 := eq_true p524
      replace q524 := eq_true q524
      go_wp2_with (first | ((with_reducible refine gate_dst (N := 5) rfl ?_); refine box_event ?hg (N := 5) ?hd (cs := #[.int .i64 0, .int .i64 0, .int .i64 0, .int .i64 0, .int .i64 0, .string (⟨#[]⟩ : ByteArray), .string (⟨#[]⟩ : ByteArray)]) (t := 43) ?hr ?_; (case hd => rfl); (case hg => rfl); (case hr => exact vz); intro gb525 hg w9 hbox hb; replace HO_3 := qz HO_3 hb; have BK525 := Aside0.mk (hbox); have GW525 := Aside0.mk ((by rw [hg]; exact (below_size (bz0 HB.out)) : w.heap.size <= gb525)); have GE525 := Aside0.mk ((by rw [hg]; exact (below_size (bz0 HB.out)) : w.heap.size <= gb525)); replace HB := Aside0.mk (below_step (bz0 HB.out) hb); clear hb hbox hg; obtain ⟨hcz10_0, hcz10_1, hcz10_2, hcz10_3, hcz10_4, hcz10_5, hcz10_6⟩ := cz7 BK525.out; obtain ⟨hfz10_0, hfz10_1, hfz10_2, hfz10_3, hfz10_4, hfz10_5, hfz10_6⟩ := fz7 BK525.out))
      go_roundg k1
      case measure => have := HK1.out; omega
      case rel => exact ⟨(x3_1), (wrap64 (x12_1 + 1)), ez, H', ⟨by have := HK1.out; omega⟩, ⟨by refine rq ?_; first | (with_reducible exact Kd.R_mono (Kd.R_far (p := ⟨gb525, 6, none⟩) (Kd.R_far (p := ⟨gb525, 5, none⟩) (Kd.R_far (p := ⟨gb525, 4, none⟩) (Kd.R_far (p := ⟨gb525, 3, none⟩) (Kd.R_far (p := ⟨gb525, 2, none⟩) (Kd.R_far (p := ⟨gb525, 1, none⟩) (Kd.R_far (p := ⟨gb525, 0, none⟩) (Kd.R_types HO_3.out BK525.out (by decide)) (fun _ hk => hk.2) (.int .i64 ((rd_T43 l0 x12_1).f0))) (fun _ hk => hk.2) (.int .i64 ((rd_T43 l0 x12_1).f1))) (fun _ hk => hk.2) (.int .i64 ((rd_T43 l0 x12_1).f2))) (fun _ hk => hk.2) (.int .i64 ((rd_T43 l0 x12_1).f3))) (fun _ hk => hk.2) (.int .i64 ((rd_T43 l0 x12_1).f4))) (fun _ hk => hk.2) (.string ((rd_T43 l0 x12_1).f5))) (fun _ hk => hk.2) (.string ((rd_T43 l0 x12_1).f6))) (fun _ hk => trivial)) | (with_reducible exact Kd.R_mono (Kd.R_far (p := ⟨gb525, 6, none⟩) (Kd.R_drewN (Kd.R_far (p := ⟨gb525, 5, none⟩) (Kd.R_far (p := ⟨gb525, 4, none⟩) (Kd.R_far (p := ⟨gb525, 3, none⟩) (Kd.R_far (p := ⟨gb525, 2, none⟩) (Kd.R_far (p := ⟨gb525, 1, none⟩) (Kd.R_far (p := ⟨gb525, 0, none⟩) (Kd.R_types HO_3.out BK525.out (by decide)) (fun _ hk => hk.2) (.int .i64 ((rd_T43 l0 x12_1).f0))) (fun _ hk => hk.2) (.int .i64 ((rd_T43 l0 x12_1).f1))) (fun _ hk => hk.2) (.int .i64 ((rd_T43 l0 x12_1).f2))) (fun _ hk => hk.2) (.int .i64 ((rd_T43 l0 x12_1).f3))) (fun _ hk => hk.2) (.int .i64 ((rd_T43 l0 x12_1).f4))) (fun _ hk => hk.2) (.string ((rd_T43 l0 x12_1).f5))) _) (fun _ hk => hk.2) (.string ((rd_T43 l0 x12_1).f6))) (fun _ hk => trivial)) | exact Kd.R_mono (Kd.R_far (p := ⟨gb525, 6, none⟩) (Kd.R_drewN (Kd.R_far (p := ⟨gb525, 5, none⟩) (Kd.R_far (p := ⟨gb525, 4, none⟩) (Kd.R_far (p := ⟨gb525, 3, none⟩) (Kd.R_far (p := ⟨gb525, 2, none⟩) (Kd.R_far (p := ⟨gb525, 1, none⟩) (Kd.R_far (p := ⟨gb525, 0, none⟩) (Kd.R_types HO_3.out BK525.out (by decide)) (fun _ hk => hk.2) (.int .i64 ((rd_T43 l0 x12_1).f0))) (fun _ hk => hk.2) (.int .i64 ((rd_T43 l0 x12_1).f1))) (fun _ hk => hk.2) (.int .i64 ((rd_T43 l0 x12_1).f2))) (fun _ hk => hk.2) (.int .i64 ((rd_T43 l0 x12_1).f3))) (fun _ hk => hk.2) (.int .i64 ((rd_T43 l0 x12_1).f4))) (fun _ hk => hk.2) (.string ((rd_T43 l0 x12_1).f5))) _) (fun _ hk => hk.2) (.string ((rd_T43 l0 x12_1).f6))) (fun _ hk => trivial)⟩, ⟨(bz1 HB.out GE525.out)⟩⟩
     ·rw [if_neg c8] at H
      have c8b0 : (((rd_T43 l0 x12_1).f0) == 1) = false := beq_eq_false_iff_ne.mpr c8
      have c8b1 : (((rd_T43 l0 x12_1).f0) != 1) = true := bne_iff_ne.mpr c8
      replace H := bi H
      obtain ⟨t526, A110, H⟩ := H
      try dsimp only at H
      have A11 := Aside0.mk A110
      clear A110
      have H' := Aside0.mk H
      clear H
      have p524 : 0 <= (x12_1 : Int) := oz
      have q524 : x12_1 < (l0.length : Int) := oz
      obtain ⟨ad524, e524, hx524_0, hx524_1, hx524_2, hx524_3, hx524_4, hx524_5, hx524_6⟩ := at_T43 (Kd.C_below HR0.out HB.out) x12_1 p524 q524
      cases e524
      replace p524 := eq_true p524
      replace q524 := eq_true q524
      go_wp2_with (first | ((with_reducible refine gate_dst (N := 5) rfl ?_); refine box_event ?hg (N := 5) ?hd (cs := #[.int .i64 0, .int .i64 0, .int .i64 0, .int .i64 0, .int .i64 0, .string (⟨#[]⟩ : ByteArray), .string (⟨#[]⟩ : ByteArray)]) (t := 43) ?hr ?_; (case hd => rfl); (case hg => rfl); (case hr => exact vz); intro gb525 hg w12 hbox hb; replace HO_3 := qz HO_3 hb; have BK525 := Aside0.mk (hbox); have GW525 := Aside0.mk ((by rw [hg]; exact (below_size (bz0 HB.out)) : w.heap.size <= gb525)); have GE525 := Aside0.mk ((by rw [hg]; exact (below_size (bz0 HB.out)) : w.heap.size <= gb525)); replace HB := Aside0.mk (below_step (bz0 HB.out) hb); clear hb hbox hg; obtain ⟨hcz13_0, hcz13_1, hcz13_2, hcz13_3, hcz13_4, hcz13_5, hcz13_6⟩ := cz7 BK525.out; obtain ⟨hfz13_0, hfz13_1, hfz13_2, hfz13_3, hfz13_4, hfz13_5, hfz13_6⟩ := fz7 BK525.out) | ((with_reducible refine gate_callee (f := 78) rfl ?_); refine goesL_ (some 22) rfl rfl Tryd.func78 (by kernel_rfl) rfl #[.int .i64 ((rd_T43 l0 x12_1).f0)] rfl lz ?_; (with_reducible refine (impl_namesOf.calls k1 ((rd_T43 l0 x12_1).f0) t526 _ A11.out).mono ?_); rintro e w' ⟨rfl, ⟨nd, rfl⟩⟩; refine ⟨_, rfl, ?_⟩))
      (try simp only [Act.put, sz1, sz2, sz3])
      go_loopg [3, 23] k1 (fun kq v3 v23 w' => ∃ (x3_2 : List (S55)) (x23_2 : Int), v23 = .int .i64 x23_2 /\ Aside0 (impl_Sites.l1 kq x3_2 x12_1 l0 (l0.length : Int) x12_1 t526 x23_2 = some r) /\ Aside0 (kq <= k1) /\ Aside0 (Kd.R k55 55 w' w.heap.size (fun _ => True) v3 x3_2) /\ Aside0 (w'.heap[gb525]? = some (.cells #[.int .i64 ((rd_T43 l0 x12_1).f0), .int .i64 ((rd_T43 l0 x12_1).f1), .int .i64 ((rd_T43 l0 x12_1).f2), .int .i64 ((rd_T43 l0 x12_1).f3), .int .i64 ((rd_T43 l0 x12_1).f4), .string ((rd_T43 l0 x12_1).f5), .string ((rd_T43 l0 x12_1).f6)] 43 (0, 0))) /\ Aside0 (Below w.heap.size w w'))
      case atStart => exact ⟨(x3_1), (0), ez, H', ⟨Nat.le_refl _⟩, ⟨by refine rq ?_; first | (with_reducible exact Kd.R_mono (Kd.R_far (p := ⟨gb525, 6, none⟩) (Kd.R_far (p := ⟨gb525, 5, none⟩) (Kd.R_far (p := ⟨gb525, 4, none⟩) (Kd.R_far (p := ⟨gb525, 3, none⟩) (Kd.R_far (p := ⟨gb525, 2, none⟩) (Kd.R_far (p := ⟨gb525, 1, none⟩) (Kd.R_far (p := ⟨gb525, 0, none⟩) (Kd.R_types HO_3.out BK525.out (by decide)) (fun _ hk => hk.2) (.int .i64 ((rd_T43 l0 x12_1).f0))) (fun _ hk => hk.2) (.int .i64 ((rd_T43 l0 x12_1).f1))) (fun _ hk => hk.2) (.int .i64 ((rd_T43 l0 x12_1).f2))) (fun _ hk => hk.2) (.int .i64 ((rd_T43 l0 x12_1).f3))) (fun _ hk => hk.2) (.int .i64 ((rd_T43 l0 x12_1).f4))) (fun _ hk => hk.2) (.string ((rd_T43 l0 x12_1).f5))) (fun _ hk => hk.2) (.string ((rd_T43 l0 x12_1).f6))) (fun _ hk => trivial)) | (with_reducible exact Kd.R_mono (Kd.R_far (p := ⟨gb525, 6, none⟩) (Kd.R_drewN (Kd.R_far (p := ⟨gb525, 5, none⟩) (Kd.R_far (p := ⟨gb525, 4, none⟩) (Kd.R_far (p := ⟨gb525, 3, none⟩) (Kd.R_far (p := ⟨gb525, 2, none⟩) (Kd.R_far (p := ⟨gb525, 1, none⟩) (Kd.R_far (p := ⟨gb525, 0, none⟩) (Kd.R_types HO_3.out BK525.out (by decide)) (fun _ hk => hk.2) (.int .i64 ((rd_T43 l0 x12_1).f0))) (fun _ hk => hk.2) (.int .i64 ((rd_T43 l0 x12_1).f1))) (fun _ hk => hk.2) (.int .i64 ((rd_T43 l0 x12_1).f2))) (fun _ hk => hk.2) (.int .i64 ((rd_T43 l0 x12_1).f3))) (fun _ hk => hk.2) (.int .i64 ((rd_T43 l0 x12_1).f4))) (fun _ hk => hk.2) (.string ((rd_T43 l0 x12_1).f5))) _) (fun _ hk => hk.2) (.string ((rd_T43 l0 x12_1).f6))) (fun _ hk => trivial)) | exact Kd.R_mono (Kd.R_far (p := ⟨gb525, 6, none⟩) (Kd.R_drewN (Kd.R_far (p := ⟨gb525, 5, none⟩) (Kd.R_far (p := ⟨gb525, 4, none⟩) (Kd.R_far (p := ⟨gb525, 3, none⟩) (Kd.R_far (p := ⟨gb525, 2, none⟩) (Kd.R_far (p := ⟨gb525, 1, none⟩) (Kd.R_far (p := ⟨gb525, 0, none⟩) (Kd.R_types HO_3.out BK525.out (by decide)) (fun _ hk => hk.2) (.int .i64 ((rd_T43 l0 x12_1).f0))) (fun _ hk => hk.2) (.int .i64 ((rd_T43 l0 x12_1).f1))) (fun _ hk => hk.2) (.int .i64 ((rd_T43 l0 x12_1).f2))) (fun _ hk => hk.2) (.int .i64 ((rd_T43 l0 x12_1).f3))) (fun _ hk => hk.2) (.int .i64 ((rd_T43 l0 x12_1).f4))) (fun _ hk => hk.2) (.string ((rd_T43 l0 x12_1).f5))) _) (fun _ hk => hk.2) (.string ((rd_T43 l0 x12_1).f6))) (fun _ hk => trivial)⟩, ⟨by refine kq ?_; refine blk_put (cs := #[.int .i64 ((rd_T43 l0 x12_1).f0), .int .i64 ((rd_T43 l0 x12_1).f1), .int .i64 ((rd_T43 l0 x12_1).f2), .int .i64 ((rd_T43 l0 x12_1).f3), .int .i64 ((rd_T43 l0 x12_1).f4), .string ((rd_T43 l0 x12_1).f5), .string (⟨#[]⟩ : ByteArray)]) ?_ 6 _ rfl; refine kq ?_; refine blk_put (cs := #[.int .i64 ((rd_T43 l0 x12_1).f0), .int .i64 ((rd_T43 l0 x12_1).f1), .int .i64 ((rd_T43 l0 x12_1).f2), .int .i64 ((rd_T43 l0 x12_1).f3), .int .i64 ((rd_T43 l0 x12_1).f4), .string (⟨#[]⟩ : ByteArray), .string (⟨#[]⟩ : ByteArray)]) ?_ 5 _ rfl; refine kq ?_; refine blk_put (cs := #[.int .i64 ((rd_T43 l0 x12_1).f0), .int .i64 ((rd_T43 l0 x12_1).f1), .int .i64 ((rd_T43 l0 x12_1).f2), .int .i64 ((rd_T43 l0 x12_1).f3), .int .i64 0, .string (⟨#[]⟩ : ByteArray), .string (⟨#[]⟩ : ByteArray)]) ?_ 4 _ rfl; refine kq ?_; refine blk_put (cs := #[.int .i64 ((rd_T43 l0 x12_1).f0), .int .i64 ((rd_T43 l0 x12_1).f1), .int .i64 ((rd_T43 l0 x12_1).f2), .int .i64 0, .int .i64 0, .string (⟨#[]⟩ : ByteArray), .string (⟨#[]⟩ : ByteArray)]) ?_ 3 _ rfl; refine kq ?_; refine blk_put (cs := #[.int .i64 ((rd_T43 l0 x12_1).f0), .int .i64 ((rd_T43 l0 x12_1).f1), .int .i64 0, .int .i64 0, .int .i64 0, .string (⟨#[]⟩ : ByteArray), .string (⟨#[]⟩ : ByteArray)]) ?_ 2 _ rfl; refine kq ?_; refine blk_put (cs := #[.int .i64 ((rd_T43 l0 x12_1).f0), .int .i64 0, .int .i64 0, .int .i64 0, .int .i64 0, .string (⟨#[]⟩ : ByteArray), .string (⟨#[]⟩ : ByteArray)]) ?_ 1 _ rfl; refine kq ?_; refine blk_put (cs := #[.int .i64 0, .int .i64 0, .int .i64 0, .int .i64 0, .int .i64 0, .string (⟨#[]⟩ : ByteArray), .string (⟨#[]⟩ : ByteArray)]) ?_ 0 _ rfl; refine kq ?_; exact BK525.out⟩, ⟨(bz1 HB.out GE525.out)⟩⟩
      case round =>
       clear H'
       try clear p2
       try clear c3
       try clear c5
       try clear c5b0
       try clear p5
       try clear q5
       try clear hx5
       try clear c6
       try clear c6b0
       try clear p6
       try clear c7
       try clear c7b0
       try clear c8
       try clear c8b0
       try clear c8b1
       try clear hcz10_0 hcz10_1 hcz10_2 hcz10_3 hcz10_4 hcz10_5 hcz10_6
       try clear hcz13_0 hcz13_1 hcz13_2 hcz13_3 hcz13_4 hcz13_5 hcz13_6
       try clear hfz10_0 hfz10_1 hfz10_2 hfz10_3 hfz10_4 hfz10_5 hfz10_6
       try clear hfz13_0 hfz13_1 hfz13_2 hfz13_3 hfz13_4 hfz13_5 hfz13_6
       try clear hx524_0
       try clear hx524_1
       try clear hx524_2
       try clear hx524_3
       try clear hx524_4
       try clear hx524_5
       try clear hx524_6
       try clear p2
       try clear p524
       try clear q524
       obtain ⟨x3_2, x23_2, rfl, HA, HK2, HO_3, BK525, HB⟩ := hrel
       cases gk with
       | zero => exact absurd HA.out (by simp [impl_Sites.l1])
       | succ k2 =>
        have H := HA.out
        clear HA
        simp only [impl_Sites.l1] at H
        by_cases c14 : x23_2 < t526
        ·rw [if_pos c14] at H
         have c14b0 := decide_eq_true c14
         clear c14
         replace H := iz H
         obtain ⟨c15, H⟩ := H
         have LMc15 := Aside0.mk c15
         clear c15
         obtain ⟨y527, hy527⟩ : ∃ y_ : List (S55), y_ = (x3_2 ++ [(⟨x12_1, x23_2⟩ : S55)]) := ⟨_, rfl⟩
         replace H : (impl_Sites.l1 k2 y527 x12_1 l0 (l0.length : Int) x12_1 t526 (wrap64 (x23_2 + 1))) = some r := yz hy527 H
         have Ny527 := Aside0.mk hy527
         clear hy527
         have H' := Aside0.mk H
         clear H
         go_wp2_with (first | ((with_reducible refine gate_builtin (b := .append) (xs := #[.tmp 26, .tmp 30]) rfl ?_); at_builtin; refine Kd.R_append k55 (w0 := w) w.heap.size rfl (.tmp 26) (.tmp 30) 57 55 (.agg #[(.int .i64 0), (.int .i64 0)]) 16 rfl Tryd.underlying57 info55 rfl (by decide) (by omega) u3 x3_2 (⟨x12_1, x23_2⟩ : S55) [.int .i64 x12_1, .int .i64 x23_2] (fun _ => True) (fun _ => False) rfl rfl ?aP (fun _ hk => hk.elim) ?aF ?aO ?aB ?aS ?aL ?_; (case aP => exact k55_mkM _ _ _ (⟨x12_1, x23_2⟩ : S55)); (case aB => exact (bz1 HB.out GE525.out)); (case aF => exact (fun _ _ => trivial)); (case aO => exact (rz HO_3.out)); (case aS => exact (below_size (bz1 HB.out GE525.out))); (case aL => have := LMc15.out; omega); intro v528 w16 ho hb hg hat; rw [<- Ny527.out] at ho; have n0_ := Aside0.mk (blk_grown (g := gb525) (o := .cells #[.int .i64 ((rd_T43 l0 x12_1).f0), .int .i64 ((rd_T43 l0 x12_1).f1), .int .i64 ((rd_T43 l0 x12_1).f2), .int .i64 ((rd_T43 l0 x12_1).f3), .int .i64 ((rd_T43 l0 x12_1).f4), .string ((rd_T43 l0 x12_1).f5), .string ((rd_T43 l0 x12_1).f6)] 43 (0, 0)) (kz BK525.out) hg (Kd.R_ne HO_3.out BK525.out (by decide))); have n1_ := Aside0.mk (hb); have n2_ := Aside0.mk (ho); clear BK525; clear HB; clear HO_3; have BK525 := n0_; have HB := n1_; have HO529 := n2_; clear n0_ n1_ n2_; clear ho hb hg hat))
         go_roundg k2
         case measure => have := HK1.out; have := HK2.out; omega
         case rel => exact ⟨(y527), (wrap64 (x23_2 + 1)), ez, H', ⟨by have := HK1.out; have := HK2.out; omega⟩, ⟨by refine rq ?_; exact HO529.out⟩, ⟨by refine kq ?_; exact BK525.out⟩, ⟨(bz1 HB.out GE525.out)⟩⟩
        ·rw [if_neg c14] at H
         have c14b0 := decide_eq_false c14
         clear c14
         have H' := Aside0.mk H
         clear H
         go_wp2
         go_roundg k2
         case measure => have := HK1.out; have := HK2.out; omega
         case rel => exact ⟨(x3_2), (wrap64 (x12_1 + 1)), ez, H', ⟨by have := HK1.out; have := HK2.out; omega⟩, ⟨by refine rq ?_; exact HO_3.out⟩, ⟨(bz1 HB.out GE525.out)⟩⟩
    ·rw [if_neg c5] at H
     have c5b0 := decide_eq_false c5
     clear c5
     obtain rfl := Option.some.inj H
     go_wp2
     go_ret
     exact ⟨_, gz, by refine rq ?_; exact HO_3.out, (bz0 HB.out)⟩
 ·replace c3 := Bool.eq_false_iff.mpr c3
  subst c3
  have H1 := hq H
  clear H
  have H := H1
  clear H1
  obtain rfl := Option.some.inj H
  go_enter Tryd.func59, Tryd.ntmps59
  go_wp2_with (first | ((with_reducible refine gate_callee (f := 36) rfl ?_); refine goesL_ (some 8) rfl rfl Tryd.func36 (by kernel_rfl) rfl #[.slice A0 l0.length c0] rfl lz ?_; (with_reducible refine (impl_NodesOk.calls k _ _ l0 false _ ?side1 ?side2 A2.out).mono ?_); (case side1 => repeat (first | exact HR0.out | (with_reducible refine Kd.C_alloc ?_ _) | (with_reducible refine Kd.C_drewN ?_ _) | (with_reducible refine Kd.C_drew ?_))); (case side2 => exact HC0.out); rintro e w17 ⟨rfl, hb⟩; refine ⟨_, rfl, ?_⟩; replace HB := Aside0.mk (below_step (bz0 HB.out) hb); (try clear hb); (try clear hi)))
  go_ret
  exact ⟨_, gz, by first | exact Kd.R_nil _ _ _ _ _ | exact Kd.N_nil _ _ _ _ _ | exact Kd.V_nil _ _ _ _ _ | exact Kd.Q_nil _ _ _ _ _ | exact Kd.S_nil _ _ _ _ _, (bz0 HB.out)⟩
def impl_hasText.l0 : Nat -> ByteArray -> List ByteArray -> Int -> Int -> Option (Bool)
 | 0, _, _, _, _ => none
 | k + 1, x1, x7, x8, x9 => if x9 < x8 then (if 0 <= x9 then (if x9 < (x7.length : Int) then (if (rdOf ByteArray.empty x7 x9).toList = x1.toList then (some true) else (impl_hasText.l0 k x1 x7 x8 (wrap64 (x9 + 1)))) else (none)) else (none)) else (some false)
def impl_hasText.f (k : Nat) (l0 : List ByteArray) (a1 : ByteArray) : Option (Bool) := impl_hasText.l0 k a1 l0 (l0.length : Int) 0
theorem impl_hasText.mono_l : ∀ k, (∀ y0 y1 y2 y3, LeO (impl_hasText.l0 k y0 y1 y2 y3) (impl_hasText.l0 (k + 1) y0 y1 y2 y3))
 | 0 => fun _ _ _ _ r h => by simp [impl_hasText.l0] at h
 | k + 1 => by
  have ih0 := impl_hasText.mono_l k
  ·intro y0 y1 y2 y3
   unfold impl_hasText.l0
   with_reducible repeat' first | exact ih0 _ _ _ _ | exact lrz _ | exact lnz _ | refine liz ?_ ?_ | refine lbz ?_ fun _ => ?_
theorem impl_hasText.mono : ∀ a0 a1 k, LeO (impl_hasText.f k a0 a1) (impl_hasText.f (k + 1) a0 a1) := by
 intro a0 a1 k
 have ih0 := impl_hasText.mono_l k
 unfold impl_hasText.f
 with_reducible repeat' first | exact ih0 _ _ _ _ | exact lrz _ | exact lnz _ | refine liz ?_ ?_ | refine lbz ?_ fun _ => ?_
set_option maxHeartbeats 8000000 in
set_option maxRecDepth 100000 in
theorem impl_hasText.calls (k : Nat) (A0 : Option Addr) (c0 : Nat) (l0 : List ByteArray) (a1 : ByteArray) (r : Bool) (w : World) (hr0 : Kd.C Kd.string w A0 l0.length l0) (hc0 : l0.length <= c0) (h : impl_hasText.f k l0 a1 = some r) :
  Calls Tryd.prog 60 #[.slice A0 l0.length c0, .string a1] w fun e w' => e = .returned (.bool r) /\ Drawn0 w w' := by
 have HR0 := Aside0.mk hr0
 have HC0 := Aside0.mk hc0
 clear hr0 hc0
 have H : (impl_hasText.l0 k a1 l0 (l0.length : Int) 0) = some r := h
 clear h
 have H' := Aside0.mk H
 clear H
 go_enter Tryd.func60, Tryd.ntmps60
 go_wp2
 go_loopg [9] k (fun kq v9 w' => ∃ (x9_1 : Int), v9 = .int .i64 x9_1 /\ Aside0 (impl_hasText.l0 kq a1 l0 (l0.length : Int) x9_1 = some r) /\ Aside0 (kq <= k) /\ Drawn0 w w')
 case atStart => exact ⟨(0), ez, H', ⟨Nat.le_refl _⟩, dz⟩
 case round =>
  clear H'
  try clear p2
  obtain ⟨x9_1, rfl, HA, HK1, ⟨m1, rfl⟩⟩ := hrel
  cases gk with
  | zero => exact absurd HA.out (by simp [impl_hasText.l0])
  | succ k1 =>
   have H := HA.out
   clear HA
   simp only [impl_hasText.l0] at H
   by_cases c3 : x9_1 < (l0.length : Int)
   ·rw [if_pos c3] at H
    have c3b0 := decide_eq_true c3
    clear c3
    replace H := iz H
    obtain ⟨c4, H⟩ := H
    have c4b0 := decide_eq_true c4
    clear c4
    replace H := iz H
    obtain ⟨c5, H⟩ := H
    have c5b0 := decide_eq_true c5
    clear c5
    by_cases c6 : (rdOf ByteArray.empty l0 x9_1).toList = a1.toList
    ·rw [if_pos c6] at H
     have c6b0 : ((rdOf ByteArray.empty l0 x9_1).toList == a1.toList) = true := beq_iff_eq.mpr c6
     have c6b1 : ((rdOf ByteArray.empty l0 x9_1).toList != a1.toList) = false := bne_eq_false_iff_eq.mpr c6
     clear c6
     obtain rfl := Option.some.inj H
     have p530 : 0 <= (x9_1 : Int) := oz
     have q530 : x9_1 < (l0.length : Int) := oz
     obtain ⟨ad530, e530, hx530_0⟩ := Kd.at_string HR0.out x9_1 p530 q530
     cases e530
     replace p530 := eq_true p530
     replace q530 := eq_true q530
     go_wp2
     go_ret
     exact ⟨e2z, dz⟩
    ·rw [if_neg c6] at H
     have c6b0 : ((rdOf ByteArray.empty l0 x9_1).toList == a1.toList) = false := beq_eq_false_iff_ne.mpr c6
     have c6b1 : ((rdOf ByteArray.empty l0 x9_1).toList != a1.toList) = true := bne_iff_ne.mpr c6
     have H' := Aside0.mk H
     clear H
     have p530 : 0 <= (x9_1 : Int) := oz
     have q530 : x9_1 < (l0.length : Int) := oz
     obtain ⟨ad530, e530, hx530_0⟩ := Kd.at_string HR0.out x9_1 p530 q530
     cases e530
     replace p530 := eq_true p530
     replace q530 := eq_true q530
     go_wp2
     go_roundg k1
     case measure => have := HK1.out; omega
     case rel => exact ⟨(wrap64 (x9_1 + 1)), ez, H', ⟨by have := HK1.out; omega⟩, dz⟩
   ·rw [if_neg c3] at H
    have c3b0 := decide_eq_false c3
    clear c3
    obtain rfl := Option.some.inj H
    go_wp2
    go_ret
    exact ⟨e2z, dz⟩
def impl_FreshName.l0 : Nat -> Int -> ByteArray -> Option (ByteArray)
 | 0, _, _ => none
 | k + 1, x0, x3 => if x0 > 0 then ((some (([(wrap64 (97 + (Int.tmod x0 26))) % 256] : List Int) : List Int)).bind fun y535 => (if (strOfNums y535).size + x3.size <= 9223372036854775807 then (impl_FreshName.l0 k (wrap64 (Int.tdiv x0 26)) ((strOfNums y535) ++ x3)) else (none))) else (if 2 + x3.size <= 9223372036854775807 then (some ((⟨#[122, 113]⟩ : ByteArray) ++ x3)) else (none))
def impl_FreshName.f (k : Nat) (a0 : Int) : Option (ByteArray) := (impl_in.f a0 0 9999).bind fun t531 => (if t531 = true then (impl_FreshName.l0 k (wrap64 (Int.tdiv a0 26)) (strOfNums (([(wrap64 (97 + (Int.tmod a0 26))) % 256] : List Int)))) else (some (⟨#[]⟩ : ByteArray)))
theorem impl_FreshName.mono_l : ∀ k, (∀ y0 y1, LeO (impl_FreshName.l0 k y0 y1) (impl_FreshName.l0 (k + 1) y0 y1))
 | 0 => fun _ _ r h => by simp [impl_FreshName.l0] at h
 | k + 1 => by
  have ih0 := impl_FreshName.mono_l k
  ·intro y0 y1
   unfold impl_FreshName.l0
   with_reducible repeat' first | exact ih0 _ _ | exact lrz _ | exact lnz _ | refine liz ?_ ?_ | refine lbz ?_ fun _ => ?_
theorem impl_FreshName.mono : ∀ a0 k, LeO (impl_FreshName.f k a0) (impl_FreshName.f (k + 1) a0) := by
 intro a0 k
 have ih0 := impl_FreshName.mono_l k
 unfold impl_FreshName.f
 with_reducible repeat' first | exact ih0 _ _ | exact lrz _ | exact lnz _ | refine liz ?_ ?_ | refine lbz ?_ fun _ => ?_
set_option maxHeartbeats 8000000 in
set_option maxRecDepth 100000 in
theorem impl_FreshName.calls (k : Nat) (a0 : Int) (r : ByteArray) (w : World) (h : impl_FreshName.f k a0 = some r) :
  Calls Tryd.prog 61 #[.int .i64 a0] w fun e w' => e = .returned (.string r) /\ Below w.heap.size w w' := by
 have HB := Aside0.mk (Below.refl w.heap.size w)
 have H : ((impl_in.f a0 0 9999).bind fun t531 => (if t531 = true then (impl_FreshName.l0 k (wrap64 (Int.tdiv a0 26)) (strOfNums (([(wrap64 (97 + (Int.tmod a0 26))) % 256] : List Int)))) else (some (⟨#[]⟩ : ByteArray)))) = some r := h
 clear h
 replace H := bi H
 obtain ⟨t531, A20, H⟩ := H
 try dsimp only at H
 have A2 := Aside0.mk A20
 clear A20
 by_cases c3 : t531 = true
 ·subst c3
  have H1 := hp H
  clear H
  have H := H1
  clear H1
  obtain ⟨y532, hy532⟩ : ∃ y_ : List Int, y_ = (([(wrap64 (97 + (Int.tmod a0 26))) % 256] : List Int)) := ⟨_, rfl⟩
  replace H : (impl_FreshName.l0 k (wrap64 (Int.tdiv a0 26)) (strOfNums y532)) = some r := yz hy532 H
  have Ny532 := Aside0.mk hy532
  clear hy532
  have H' := Aside0.mk H
  clear H
  go_enter Tryd.func61, Tryd.ntmps61
  go_wp2_with (first | ((with_reducible refine gate_callee (f := 44) rfl ?_); refine goesL_ (some 5) rfl rfl Tryd.func44 (by kernel_rfl) rfl #[.int .i64 a0, .int .i64 0, .int .i64 9999] rfl lz ?_; (with_reducible refine (impl_in.calls a0 0 9999 true _ A2.out).mono ?_); rintro e w' ⟨rfl, ⟨nd, rfl⟩⟩; refine ⟨_, rfl, ?_⟩) | ((with_reducible refine gate_dst (N := 11) rfl ?_); refine Kd.R_lit (Kd.int .u8) _ 5 ?hg (N := 11) ?hd (xs := ([(wrap64 (97 + (Int.tmod a0 26))) % 256] : List Int)) (inner := [.int .u8 ((wrap64 (97 + (Int.tmod a0 26))) % 256)]) (ok := fun _ => True) (okp := fun _ => True) ?hr ?hp (fun _ hk => hk) trivial (Below.refl _ _) (Nat.le_refl _) (by simp) ?_; (case hd => rfl); (case hg => rfl); (case hr => exact vz); (case hp => exact (Reps.one (show Kd.M (Kd.int .u8) _ _ _ ((wrap64 (97 + (Int.tmod a0 26))) % 256) [.int .u8 ((wrap64 (97 + (Int.tmod a0 26))) % 256)] from rfl) (Reps.none _ _))); intro v533 w4 ho5 hb hg_ hnew_; clear hg_ hnew_; (first | rw [<- Ny532.out] at ho5 | (simp only [Int.reduceToNat] at ho5; rw [<- Ny532.out] at ho5)); have HO534 := Aside0.mk (Kd.R_lower ho5 (below_size (bz0 HB.out))); replace HB := Aside0.mk (below_step (bz0 HB.out) hb); clear hb ho5; have hcv6 := own_string (P := Tryd.prog) Tryd.underlying75 Tryd.underlying5 Tryd.underlying9 (Kd.own_of_R HO534.out)))
  go_loopg [0, 3] k (fun kq v0 v3 w' => ∃ (x0_1 : Int) (x3_1 : ByteArray), v0 = .int .i64 x0_1 /\ v3 = .string x3_1 /\ Aside0 (impl_FreshName.l0 kq x0_1 x3_1 = some r) /\ Aside0 (kq <= k) /\ Aside0 (Below w.heap.size w w'))
  case atStart => exact ⟨(wrap64 (Int.tdiv a0 26)), (strOfNums y532), ez, ez, H', ⟨Nat.le_refl _⟩, ⟨(bz0 HB.out)⟩⟩
  case round =>
   clear H'
   try clear p2
   try clear c3
   try clear c4
   try clear c6
   try clear p6
   try clear hcv6
   obtain ⟨x0_1, x3_1, rfl, rfl, HA, HK1, HB⟩ := hrel
   cases gk with
   | zero => exact absurd HA.out (by simp [impl_FreshName.l0])
   | succ k1 =>
    have H := HA.out
    clear HA
    simp only [impl_FreshName.l0] at H
    by_cases c7 : x0_1 > 0
    ·rw [if_pos c7] at H
     have c7b0 : decide (0 < x0_1) = true := decide_eq_true c7
     clear c7
     obtain ⟨y535, hy535⟩ : ∃ y_ : List Int, y_ = (([(wrap64 (97 + (Int.tmod x0_1 26))) % 256] : List Int)) := ⟨_, rfl⟩
     replace H : (if (strOfNums y535).size + x3_1.size <= 9223372036854775807 then (impl_FreshName.l0 k1 (wrap64 (Int.tdiv x0_1 26)) ((strOfNums y535) ++ x3_1)) else (none)) = some r := yz hy535 H
     have Ny535 := Aside0.mk hy535
     clear hy535
     replace H := iz H
     obtain ⟨c8, H⟩ := H
     have c8b0 := eq_true c8
     have c8b1 : decide ((strOfNums y535).size + x3_1.size <= 9223372036854775807) = true := decide_eq_true c8
     try have c8b2 : (9223372036854775807 < (strOfNums y535).size + x3_1.size) = False := eq_false (Nat.not_lt.2 c8)
     have H' := Aside0.mk H
     clear H
     go_wp2_with (first | ((with_reducible refine gate_dst (N := 23) rfl ?_); refine Kd.R_lit (Kd.int .u8) _ 5 ?hg (N := 23) ?hd (xs := ([(wrap64 (97 + (Int.tmod x0_1 26))) % 256] : List Int)) (inner := [.int .u8 ((wrap64 (97 + (Int.tmod x0_1 26))) % 256)]) (ok := fun _ => True) (okp := fun _ => True) ?hr ?hp (fun _ hk => hk) trivial (Below.refl _ _) (Nat.le_refl _) (by simp) ?_; (case hd => rfl); (case hg => rfl); (case hr => exact vz); (case hp => exact (Reps.one (show Kd.M (Kd.int .u8) _ _ _ ((wrap64 (97 + (Int.tmod x0_1 26))) % 256) [.int .u8 ((wrap64 (97 + (Int.tmod x0_1 26))) % 256)] from rfl) (Reps.none _ _))); intro v536 w9 ho10 hb hg_ hnew_; clear hg_ hnew_; (first | rw [<- Ny535.out] at ho10 | (simp only [Int.reduceToNat] at ho10; rw [<- Ny535.out] at ho10)); have HO537 := Aside0.mk (Kd.R_lower ho10 (below_size (bz0 HB.out))); replace HB := Aside0.mk (below_step (bz0 HB.out) hb); clear hb ho10; have hcv11 := own_string (P := Tryd.prog) Tryd.underlying75 Tryd.underlying5 Tryd.underlying9 (Kd.own_of_R HO537.out)))
     go_roundg k1
     case measure => have := HK1.out; omega
     case rel => exact ⟨(wrap64 (Int.tdiv x0_1 26)), ((strOfNums y535) ++ x3_1), ez, ez, H', ⟨by have := HK1.out; omega⟩, ⟨(bz0 HB.out)⟩⟩
    ·rw [if_neg c7] at H
     have c7b0 : decide (0 < x0_1) = false := decide_eq_false c7
     clear c7
     replace H := iz H
     obtain ⟨c12, H⟩ := H
     have c12b0 := eq_true c12
     have c12b1 : decide (2 + x3_1.size <= 9223372036854775807) = true := decide_eq_true c12
     try have c12b2 : (9223372036854775807 < 2 + x3_1.size) = False := eq_false (Nat.not_lt.2 c12)
     obtain rfl := Option.some.inj H
     go_wp2
     go_ret
     exact ⟨gz, (bz0 HB.out)⟩
 ·replace c3 := Bool.eq_false_iff.mpr c3
  subst c3
  have H1 := hq H
  clear H
  have H := H1
  clear H1
  obtain rfl := Option.some.inj H
  go_enter Tryd.func61, Tryd.ntmps61
  go_wp2_with (first | ((with_reducible refine gate_callee (f := 44) rfl ?_); refine goesL_ (some 5) rfl rfl Tryd.func44 (by kernel_rfl) rfl #[.int .i64 a0, .int .i64 0, .int .i64 9999] rfl lz ?_; (with_reducible refine (impl_in.calls a0 0 9999 false _ A2.out).mono ?_); rintro e w' ⟨rfl, ⟨nd, rfl⟩⟩; refine ⟨_, rfl, ?_⟩))
  go_ret
  exact ⟨gz, (bz0 HB.out)⟩
end Go.Proofs.YtmilegjmiiccdaaDoor.PFnExactCanon
