/- PFnExactAlphaSamex23, of the words and walks that the law FnExactAlphaSame needs; made by this session's program out of printed texts. -/

import Derived.Test.YtmilegjmiiccdaaDoorVEAlphaSamePx0
import Derived.Test.YtmilegjmiiccdaaDoorVEAlphaSamePx1
import Derived.Test.YtmilegjmiiccdaaDoorVEAlphaSamePx3
import Derived.Test.YtmilegjmiiccdaaDoorVEAlphaSamePx13
import Derived.Test.YtmilegjmiiccdaaDoorVEAlphaSamePx17
import Derived.Test.YtmilegjmiiccdaaDoorVEAlphaSamePx22
namespace Go.Proofs.YtmilegjmiiccdaaDoor.PFnExactAlphaSame
open Go.RowKit Go.Proofs.YtmilegjmiiccdaaDoorW.PrintWords Go.Proofs.YtmilegjmiiccdaaDoorW.PrintLast Go.Proofs.YtmilegjmiiccdaaDoorW.PrintMore
attribute [local go_sem] max2_int min2_int max_two min_two max_three min_three max_four min_four
set_option linter.unusedVariables false
set_option linter.unusedSimpArgs false
attribute [local go_sem high] eqA43
def impl_SameNodes.l0 : Nat -> List (S43) -> List (S43) -> Int -> Int -> Option (Bool)
 | 0, _, _, _, _ => none
 | k + 1, x0, x1, x12, x13 => if x13 < x12 then (if 0 <= x13 then (if x13 < (x0.length : Int) then (if x13 < (x1.length : Int) then (if (!(((rd_T43 x0 x13).f0) == ((rd_T43 x1 x13).f0)) || (!(((rd_T43 x0 x13).f1) == ((rd_T43 x1 x13).f1)) || (!(((rd_T43 x0 x13).f2) == ((rd_T43 x1 x13).f2)) || (!(((rd_T43 x0 x13).f3) == ((rd_T43 x1 x13).f3)) || (!(((rd_T43 x0 x13).f4) == ((rd_T43 x1 x13).f4)) || (!((((rd_T43 x0 x13).f5).toList) == (((rd_T43 x1 x13).f5).toList)) || (!((((rd_T43 x0 x13).f6).toList) == (((rd_T43 x1 x13).f6).toList))))))))) = true then (some false) else (impl_SameNodes.l0 k x0 x1 x12 (wrap64 (x13 + 1)))) else (none)) else (none)) else (none)) else (some true)
def impl_SameNodes.f (k : Nat) (l0 : List (S43)) (l1 : List (S43)) : Option (Bool) := if (l0.length : Int) = (l1.length : Int) then (impl_SameNodes.l0 k l0 l1 (l0.length : Int) 0) else (some false)
theorem impl_SameNodes.mono_l : ∀ k, (∀ y0 y1 y2 y3, LeO (impl_SameNodes.l0 k y0 y1 y2 y3) (impl_SameNodes.l0 (k + 1) y0 y1 y2 y3))
 | 0 => fun _ _ _ _ r h => by simp [impl_SameNodes.l0] at h
 | k + 1 => by
  have ih0 := impl_SameNodes.mono_l k
  ·intro y0 y1 y2 y3
   unfold impl_SameNodes.l0
   with_reducible repeat' first | exact ih0 _ _ _ _ | exact lrz _ | exact lnz _ | refine liz ?_ ?_ | refine lbz ?_ fun _ => ?_
theorem impl_SameNodes.mono : ∀ a0 a1 k, LeO (impl_SameNodes.f k a0 a1) (impl_SameNodes.f (k + 1) a0 a1) := by
 intro a0 a1 k
 have ih0 := impl_SameNodes.mono_l k
 unfold impl_SameNodes.f
 with_reducible repeat' first | exact ih0 _ _ _ _ | exact lrz _ | exact lnz _ | refine liz ?_ ?_ | refine lbz ?_ fun _ => ?_
set_option maxHeartbeats 8000000 in
set_option maxRecDepth 100000 in
theorem impl_SameNodes.calls (k : Nat) (A0 : Option Addr) (c0 : Nat) (l0 : List (S43)) (A1 : Option Addr) (c1 : Nat) (l1 : List (S43)) (r : Bool) (w : World) (hr0 : Kd.C k43 w A0 l0.length l0) (hc0 : l0.length <= c0) (hr1 : Kd.C k43 w A1 l1.length l1) (hc1 : l1.length <= c1) (h : impl_SameNodes.f k l0 l1 = some r) :
  Calls Tryd.prog 52 #[.slice A0 l0.length c0, .slice A1 l1.length c1] w fun e w' => e = .returned (.bool r) /\ Drawn0 w w' := by
 have hu43 := Tryd.underlying43
 have HR0 := Aside0.mk hr0
 have HC0 := Aside0.mk hc0
 clear hr0 hc0
 have HR1 := Aside0.mk hr1
 have HC1 := Aside0.mk hc1
 clear hr1 hc1
 have H : (if (l0.length : Int) = (l1.length : Int) then (impl_SameNodes.l0 k l0 l1 (l0.length : Int) 0) else (some false)) = some r := h
 clear h
 by_cases c3 : (l0.length : Int) = (l1.length : Int)
 ·rw [if_pos c3] at H
  have c3b0 : ((l0.length : Int) == (l1.length : Int)) = true := beq_iff_eq.mpr c3
  have c3b1 : ((l0.length : Int) != (l1.length : Int)) = false := bne_eq_false_iff_eq.mpr c3
  have c3b2 : (l0.length == l1.length) = true := by first | simpa using c3 | (simp at c3 ⊢; omega)
  clear c3
  have H' := Aside0.mk H
  clear H
  go_enter Tryd.func52, Tryd.ntmps52
  go_wp2
  repeat (go_quiet (fail); try go_wp2)
  go_loopg [13] k (fun kq v13 w' => ∃ (x13_1 : Int), v13 = .int .i64 x13_1 /\ Aside0 (impl_SameNodes.l0 kq l0 l1 (l0.length : Int) x13_1 = some r) /\ Aside0 (kq <= k) /\ Drawn0 w w')
  case atStart => exact ⟨(0), ez, H', ⟨Nat.le_refl _⟩, dz⟩
  case round =>
   clear H'
   try clear c1
   try clear p2
   try clear c3
   try clear c3b0
   try clear c3b1
   try clear c3b2
   obtain ⟨x13_1, rfl, HA, HK1, ⟨m1, rfl⟩⟩ := hrel
   cases gk with
   | zero => exact absurd HA.out (by simp [impl_SameNodes.l0])
   | succ k1 =>
    have H := HA.out
    clear HA
    simp only [impl_SameNodes.l0] at H
    by_cases c4 : x13_1 < (l0.length : Int)
    ·rw [if_pos c4] at H
     have c4b0 := decide_eq_true c4
     clear c4
     replace H := iz H
     obtain ⟨c5, H⟩ := H
     have c5b0 := decide_eq_true c5
     clear c5
     replace H := iz H
     obtain ⟨c6, H⟩ := H
     have c6b0 := decide_eq_true c6
     clear c6
     replace H := iz H
     obtain ⟨c7, H⟩ := H
     have c7b0 := decide_eq_true c7
     clear c7
     by_cases c8 : (!(((rd_T43 l0 x13_1).f0) == ((rd_T43 l1 x13_1).f0)) || (!(((rd_T43 l0 x13_1).f1) == ((rd_T43 l1 x13_1).f1)) || (!(((rd_T43 l0 x13_1).f2) == ((rd_T43 l1 x13_1).f2)) || (!(((rd_T43 l0 x13_1).f3) == ((rd_T43 l1 x13_1).f3)) || (!(((rd_T43 l0 x13_1).f4) == ((rd_T43 l1 x13_1).f4)) || (!((((rd_T43 l0 x13_1).f5).toList) == (((rd_T43 l1 x13_1).f5).toList)) || (!((((rd_T43 l0 x13_1).f6).toList) == (((rd_T43 l1 x13_1).f6).toList))))))))) = true
     ·rw [if_pos c8] at H
      have c8b0 : (!(((rd_T43 l0 x13_1).f0) == ((rd_T43 l1 x13_1).f0)) || (!(((rd_T43 l0 x13_1).f1) == ((rd_T43 l1 x13_1).f1)) || (!(((rd_T43 l0 x13_1).f2) == ((rd_T43 l1 x13_1).f2)) || (!(((rd_T43 l0 x13_1).f3) == ((rd_T43 l1 x13_1).f3)) || (!(((rd_T43 l0 x13_1).f4) == ((rd_T43 l1 x13_1).f4)) || (!((((rd_T43 l0 x13_1).f5).toList) == (((rd_T43 l1 x13_1).f5).toList)) || (!((((rd_T43 l0 x13_1).f6).toList) == (((rd_T43 l1 x13_1).f6).toList))))))))) = true := c8
      clear c8
      obtain rfl := Option.some.inj H
      have p562 : 0 <= (x13_1 : Int) := oz
      have q562 : x13_1 < (l0.length : Int) := oz
      obtain ⟨ad562, e562, hx562_0, hx562_1, hx562_2, hx562_3, hx562_4, hx562_5, hx562_6⟩ := at_T43 HR0.out x13_1 p562 q562
      cases e562
      replace p562 := eq_true p562
      replace q562 := eq_true q562
      have p563 : 0 <= (x13_1 : Int) := oz
      have q563 : x13_1 < (l1.length : Int) := oz
      obtain ⟨ad563, e563, hx563_0, hx563_1, hx563_2, hx563_3, hx563_4, hx563_5, hx563_6⟩ := at_T43 HR1.out x13_1 p563 q563
      cases e563
      replace p563 := eq_true p563
      replace q563 := eq_true q563
      go_wp2
      repeat (go_quiet (fail); try go_wp2)
      go_ret
      exact ⟨e2z, dz⟩
     ·rw [if_neg c8] at H
      have c8b0 : (!(((rd_T43 l0 x13_1).f0) == ((rd_T43 l1 x13_1).f0)) || (!(((rd_T43 l0 x13_1).f1) == ((rd_T43 l1 x13_1).f1)) || (!(((rd_T43 l0 x13_1).f2) == ((rd_T43 l1 x13_1).f2)) || (!(((rd_T43 l0 x13_1).f3) == ((rd_T43 l1 x13_1).f3)) || (!(((rd_T43 l0 x13_1).f4) == ((rd_T43 l1 x13_1).f4)) || (!((((rd_T43 l0 x13_1).f5).toList) == (((rd_T43 l1 x13_1).f5).toList)) || (!((((rd_T43 l0 x13_1).f6).toList) == (((rd_T43 l1 x13_1).f6).toList))))))))) = false := by simpa using c8
      clear c8
      have H' := Aside0.mk H
      clear H
      have p562 : 0 <= (x13_1 : Int) := oz
      have q562 : x13_1 < (l0.length : Int) := oz
      obtain ⟨ad562, e562, hx562_0, hx562_1, hx562_2, hx562_3, hx562_4, hx562_5, hx562_6⟩ := at_T43 HR0.out x13_1 p562 q562
      cases e562
      replace p562 := eq_true p562
      replace q562 := eq_true q562
      have p563 : 0 <= (x13_1 : Int) := oz
      have q563 : x13_1 < (l1.length : Int) := oz
      obtain ⟨ad563, e563, hx563_0, hx563_1, hx563_2, hx563_3, hx563_4, hx563_5, hx563_6⟩ := at_T43 HR1.out x13_1 p563 q563
      cases e563
      replace p563 := eq_true p563
      replace q563 := eq_true q563
      go_wp2
      repeat (go_quiet (fail); try go_wp2)
      go_roundg k1
      case measure => have := HK1.out; omega
      case rel => exact ⟨(wrap64 (x13_1 + 1)), ez, H', ⟨by have := HK1.out; omega⟩, dz⟩
    ·rw [if_neg c4] at H
     have c4b0 := decide_eq_false c4
     clear c4
     obtain rfl := Option.some.inj H
     go_wp2
     repeat (go_quiet (fail); try go_wp2)
     go_ret
     exact ⟨e2z, dz⟩
 ·rw [if_neg c3] at H
  have c3b0 : ((l0.length : Int) == (l1.length : Int)) = false := beq_eq_false_iff_ne.mpr c3
  have c3b1 : ((l0.length : Int) != (l1.length : Int)) = true := bne_iff_ne.mpr c3
  have c3b2 : (l0.length == l1.length) = false := by first | simpa using c3 | (simp at c3 ⊢; omega)
  obtain rfl := Option.some.inj H
  go_enter Tryd.func52, Tryd.ntmps52
  go_wp2
  repeat (go_quiet (fail); try go_wp2)
  go_ret
  exact ⟨e2z, dz⟩
def impl_AlphaSame.f (k : Nat) (l0 : List (S43)) (l1 : List (S43)) : Option (Bool) := (impl_NodesOk.f k l0).bind fun t564 => (if t564 = true then ((impl_NodesOk.f k l1).bind fun t565 => (if t565 = true then ((impl_Canon.f k l0).bind fun t566 => ((impl_Canon.f k l1).bind fun t569 => ((impl_SameNodes.f k t566 t569).bind fun t572 => (some t572)))) else (some false))) else (some false))
theorem impl_AlphaSame.mono : ∀ a0 a1 k, LeO (impl_AlphaSame.f k a0 a1) (impl_AlphaSame.f (k + 1) a0 a1) := by
 intro a0 a1 k
 unfold impl_AlphaSame.f
 with_reducible repeat' first | exact impl_Canon.mono _ _ | exact impl_NodesOk.mono _ _ | exact impl_SameNodes.mono _ _ _ | exact lrz _ | exact lnz _ | refine liz ?_ ?_ | refine lbz ?_ fun _ => ?_
set_option maxHeartbeats 8000000 in
set_option maxRecDepth 100000 in
theorem impl_AlphaSame.calls (k : Nat) (A0 : Option Addr) (c0 : Nat) (l0 : List (S43)) (A1 : Option Addr) (c1 : Nat) (l1 : List (S43)) (r : Bool) (w : World) (hr0 : Kd.C k43 w A0 l0.length l0) (hc0 : l0.length <= c0) (hr1 : Kd.C k43 w A1 l1.length l1) (hc1 : l1.length <= c1) (h : impl_AlphaSame.f k l0 l1 = some r) :
  Calls Tryd.prog 28 #[.slice A0 l0.length c0, .slice A1 l1.length c1] w fun e w' => e = .returned (.bool r) /\ Below w.heap.size w w' := by
 have HR0 := Aside0.mk hr0
 have HC0 := Aside0.mk hc0
 clear hr0 hc0
 have HR1 := Aside0.mk hr1
 have HC1 := Aside0.mk hc1
 clear hr1 hc1
 have HB := Aside0.mk (Below.refl w.heap.size w)
 have H : ((impl_NodesOk.f k l0).bind fun t564 => (if t564 = true then ((impl_NodesOk.f k l1).bind fun t565 => (if t565 = true then ((impl_Canon.f k l0).bind fun t566 => ((impl_Canon.f k l1).bind fun t569 => ((impl_SameNodes.f k t566 t569).bind fun t572 => (some t572)))) else (some false))) else (some false))) = some r := h
 clear h
 replace H := bi H
 obtain ⟨t564, A30, H⟩ := H
 try dsimp only at H
 have A3 := Aside0.mk A30
 clear A30
 by_cases c4 : t564 = true
 ·subst c4
  have H1 := hp H
  clear H
  have H := H1
  clear H1
  replace H := bi H
  obtain ⟨t565, A50, H⟩ := H
  try dsimp only at H
  have A5 := Aside0.mk A50
  clear A50
  by_cases c6 : t565 = true
  ·subst c6
   have H1 := hp H
   clear H
   have H := H1
   clear H1
   replace H := bi H
   obtain ⟨t566, A70, H⟩ := H
   try dsimp only at H
   have A7 := Aside0.mk A70
   clear A70
   replace H := bi H
   obtain ⟨t569, A80, H⟩ := H
   try dsimp only at H
   have A8 := Aside0.mk A80
   clear A80
   replace H := bi H
   obtain ⟨t572, A90, H⟩ := H
   try dsimp only at H
   have A9 := Aside0.mk A90
   clear A90
   obtain rfl := Option.some.inj H
   go_enter Tryd.func28, Tryd.ntmps28
   go_wp2_with (first | ((with_reducible refine gate_callee (f := 36) rfl ?_); refine goesL_ (some 6) rfl rfl Tryd.func36 (by kernel_rfl) rfl #[.slice A0 l0.length c0] rfl lz ?_; (with_reducible refine (impl_NodesOk.calls k _ _ l0 true _ ?side1 ?side2 A3.out).mono ?_); (case side1 => repeat (first | exact HR0.out | (with_reducible refine Kd.C_alloc ?_ _) | (with_reducible refine Kd.C_drewN ?_ _) | (with_reducible refine Kd.C_drew ?_))); (case side2 => exact HC0.out); rintro e w10 ⟨rfl, hb⟩; refine ⟨_, rfl, ?_⟩; replace HB := Aside0.mk (below_step (bz0 HB.out) hb); (try clear hb); (try clear hi)) | (go_at_call 36; (with_reducible refine (impl_NodesOk.calls k _ _ l1 true _ ?side1 ?side2 A5.out).mono ?_); (case side1 => exact cz (Kd.C_below HR1.out HB.out)); (case side2 => exact HC1.out); rintro e w11 ⟨rfl, hb⟩; replace HB := Aside0.mk (below_step (bz0 HB.out) hb); (try clear hb); (try clear hi)) | (go_at_call 30; (with_reducible refine (impl_Canon.calls k _ _ l0 t566 _ ?side1 ?side2 A7.out).mono ?_); (case side1 => exact cz (Kd.C_below HR0.out HB.out)); (case side2 => exact HC0.out); rintro e w12 ⟨v567, rfl, ho0, hb⟩; have HO568 := Aside0.mk (Kd.R_lower ho0 (below_size (bz0 HB.out))); replace HB := Aside0.mk (below_step (bz0 HB.out) hb); (try clear hb); (try clear ho0)) | (go_at_call 30; (with_reducible refine (impl_Canon.calls k _ _ l1 t569 _ ?side1 ?side2 A8.out).mono ?_); (case side1 => exact cz (Kd.C_below HR1.out HB.out)); (case side2 => exact HC1.out); rintro e w13 ⟨v570, rfl, ho0, hb⟩; have HO571 := Aside0.mk (Kd.R_lower (Kd.R_new' ho0 (Kd.R_lt (rz HO568.out))) (below_size (bz0 HB.out))); replace HO568 := Aside0.mk (Kd.R_elder' (rz HO568.out) (Kd.R_base ho0) hb); replace HB := Aside0.mk (below_step (bz0 HB.out) hb); (try clear hb); (try clear ho0); obtain ⟨Ao14, co14, eo14⟩ := Kd.R_slice HO568.out; subst eo14; obtain ⟨Ao15, co15, eo15⟩ := Kd.R_slice HO571.out; subst eo15) | (go_at_call 52; (with_reducible refine (impl_SameNodes.calls k _ _ t566 _ _ t569 t572 _ ?side1 ?side2 ?side3 ?side4 A9.out).mono ?_); (case side1 => exact cz (Kd.R_reads' HO568.out).2.2); (case side2 => exact (Kd.R_reads' HO568.out).2.1); (case side3 => exact cz (Kd.R_reads' HO571.out).2.2); (case side4 => exact (Kd.R_reads' HO571.out).2.1); rintro e w' ⟨rfl, ⟨nd, rfl⟩⟩))
   go_ret
   exact ⟨gz, (bz0 HB.out)⟩
  ·replace c6 := Bool.eq_false_iff.mpr c6
   subst c6
   have H1 := hq H
   clear H
   have H := H1
   clear H1
   obtain rfl := Option.some.inj H
   go_enter Tryd.func28, Tryd.ntmps28
   go_wp2_with (first | ((with_reducible refine gate_callee (f := 36) rfl ?_); refine goesL_ (some 6) rfl rfl Tryd.func36 (by kernel_rfl) rfl #[.slice A0 l0.length c0] rfl lz ?_; (with_reducible refine (impl_NodesOk.calls k _ _ l0 true _ ?side1 ?side2 A3.out).mono ?_); (case side1 => repeat (first | exact HR0.out | (with_reducible refine Kd.C_alloc ?_ _) | (with_reducible refine Kd.C_drewN ?_ _) | (with_reducible refine Kd.C_drew ?_))); (case side2 => exact HC0.out); rintro e w16 ⟨rfl, hb⟩; refine ⟨_, rfl, ?_⟩; replace HB := Aside0.mk (below_step (bz0 HB.out) hb); (try clear hb); (try clear hi)) | (go_at_call 36; (with_reducible refine (impl_NodesOk.calls k _ _ l1 false _ ?side1 ?side2 A5.out).mono ?_); (case side1 => exact cz (Kd.C_below HR1.out HB.out)); (case side2 => exact HC1.out); rintro e w17 ⟨rfl, hb⟩; replace HB := Aside0.mk (below_step (bz0 HB.out) hb); (try clear hb); (try clear hi)))
   go_ret
   exact ⟨gz, (bz0 HB.out)⟩
 ·replace c4 := Bool.eq_false_iff.mpr c4
  subst c4
  have H1 := hq H
  clear H
  have H := H1
  clear H1
  obtain rfl := Option.some.inj H
  go_enter Tryd.func28, Tryd.ntmps28
  go_wp2_with (first | ((with_reducible refine gate_callee (f := 36) rfl ?_); refine goesL_ (some 6) rfl rfl Tryd.func36 (by kernel_rfl) rfl #[.slice A0 l0.length c0] rfl lz ?_; (with_reducible refine (impl_NodesOk.calls k _ _ l0 false _ ?side1 ?side2 A3.out).mono ?_); (case side1 => repeat (first | exact HR0.out | (with_reducible refine Kd.C_alloc ?_ _) | (with_reducible refine Kd.C_drewN ?_ _) | (with_reducible refine Kd.C_drew ?_))); (case side2 => exact HC0.out); rintro e w18 ⟨rfl, hb⟩; refine ⟨_, rfl, ?_⟩; replace HB := Aside0.mk (below_step (bz0 HB.out) hb); (try clear hb); (try clear hi)))
  go_ret
  exact ⟨gz, (bz0 HB.out)⟩
def laws_FnExactAlphaSame.f (k : Nat) (l0 : List (S42)) (l1 : List (S42)) : Option (Bool) := (laws_szNodeS.f k l0 1048576).bind fun t573 => (if t573 < 0 then (some true) else ((laws_szNodeS.f k l1 t573).bind fun t574 => (if t574 < 0 then (some true) else ((laws_toNodeS.f k l0).bind fun t575 => ((laws_toNodeS.f k l1).bind fun t578 => ((spec_AlphaSame.f k t575 t578).bind fun t581 => ((laws_toNodeS.f k l0).bind fun t582 => ((laws_toNodeS.f k l1).bind fun t585 => ((impl_AlphaSame.f k t582 t585).bind fun t588 => (if (t588 != t581) = true then (some false) else ((laws_toNodeS.f k l0).bind fun t589 => ((laws_eqNodeS.f k t582 t589).bind fun t592 => (if t592 = true then ((laws_toNodeS.f k l1).bind fun t593 => ((laws_eqNodeS.f k t585 t593).bind fun t596 => (if t596 = true then (some true) else (some false)))) else (some false))))))))))))))
theorem laws_FnExactAlphaSame.mono : ∀ a0 a1 k, LeO (laws_FnExactAlphaSame.f k a0 a1) (laws_FnExactAlphaSame.f (k + 1) a0 a1) := by
 intro a0 a1 k
 unfold laws_FnExactAlphaSame.f
 with_reducible repeat' first | exact impl_AlphaSame.mono _ _ _ | exact laws_eqNodeS.mono _ _ _ | exact laws_szNodeS.mono _ _ _ | exact laws_toNodeS.mono _ _ | exact spec_AlphaSame.mono _ _ _ | exact lrz _ | exact lnz _ | refine liz ?_ ?_ | refine lbz ?_ fun _ => ?_
set_option maxHeartbeats 8000000 in
set_option maxRecDepth 100000 in
theorem laws_FnExactAlphaSame.calls (k : Nat) (A0 : Option Addr) (c0 : Nat) (l0 : List (S42)) (A1 : Option Addr) (c1 : Nat) (l1 : List (S42)) (r : Bool) (w : World) (hr0 : Kd.C k42 w A0 l0.length l0) (hc0 : l0.length <= c0) (hr1 : Kd.C k42 w A1 l1.length l1) (hc1 : l1.length <= c1) (h : laws_FnExactAlphaSame.f k l0 l1 = some r) :
  Calls Tryd.prog 8 #[.slice A0 l0.length c0, .slice A1 l1.length c1] w fun e w' => e = .returned (.bool r) /\ Below w.heap.size w w' := by
 have HR0 := Aside0.mk hr0
 have HC0 := Aside0.mk hc0
 clear hr0 hc0
 have HR1 := Aside0.mk hr1
 have HC1 := Aside0.mk hc1
 clear hr1 hc1
 have HB := Aside0.mk (Below.refl w.heap.size w)
 have H : ((laws_szNodeS.f k l0 1048576).bind fun t573 => (if t573 < 0 then (some true) else ((laws_szNodeS.f k l1 t573).bind fun t574 => (if t574 < 0 then (some true) else ((laws_toNodeS.f k l0).bind fun t575 => ((laws_toNodeS.f k l1).bind fun t578 => ((spec_AlphaSame.f k t575 t578).bind fun t581 => ((laws_toNodeS.f k l0).bind fun t582 => ((laws_toNodeS.f k l1).bind fun t585 => ((impl_AlphaSame.f k t582 t585).bind fun t588 => (if (t588 != t581) = true then (some false) else ((laws_toNodeS.f k l0).bind fun t589 => ((laws_eqNodeS.f k t582 t589).bind fun t592 => (if t592 = true then ((laws_toNodeS.f k l1).bind fun t593 => ((laws_eqNodeS.f k t585 t593).bind fun t596 => (if t596 = true then (some true) else (some false)))) else (some false))))))))))))))) = some r := h
 clear h
 replace H := bi H
 obtain ⟨t573, A30, H⟩ := H
 try dsimp only at H
 have A3 := Aside0.mk A30
 clear A30
 by_cases c4 : t573 < 0
 ·rw [if_pos c4] at H
  have c4b0 := decide_eq_true c4
  clear c4
  obtain rfl := Option.some.inj H
  go_enter Tryd.func8, Tryd.ntmps8
  go_wp2_with (first | ((with_reducible refine gate_callee (f := 10) rfl ?_); refine goesL_ (some 12) rfl rfl Tryd.func10 (by kernel_rfl) rfl #[.slice A0 l0.length c0, .int .i64 1048576] rfl lz ?_; (with_reducible refine (laws_szNodeS.calls k _ _ l0 1048576 t573 _ ?side1 ?side2 A3.out).mono ?_); (case side1 => repeat (first | exact HR0.out | (with_reducible refine Kd.C_alloc ?_ _) | (with_reducible refine Kd.C_drewN ?_ _) | (with_reducible refine Kd.C_drew ?_))); (case side2 => exact HC0.out); rintro e w5 ⟨rfl, hb⟩; refine ⟨_, rfl, ?_⟩; replace HB := Aside0.mk (below_step (bz0 HB.out) hb); (try clear hb); (try clear hi)))
  go_ret
  exact ⟨gz, (bz0 HB.out)⟩
 ·rw [if_neg c4] at H
  have c4b0 := decide_eq_false c4
  clear c4
  replace H := bi H
  obtain ⟨t574, A60, H⟩ := H
  try dsimp only at H
  have A6 := Aside0.mk A60
  clear A60
  by_cases c7 : t574 < 0
  ·rw [if_pos c7] at H
   have c7b0 := decide_eq_true c7
   clear c7
   obtain rfl := Option.some.inj H
   go_enter Tryd.func8, Tryd.ntmps8
   go_wp2_with (first | ((with_reducible refine gate_callee (f := 10) rfl ?_); refine goesL_ (some 12) rfl rfl Tryd.func10 (by kernel_rfl) rfl #[.slice A0 l0.length c0, .int .i64 1048576] rfl lz ?_; (with_reducible refine (laws_szNodeS.calls k _ _ l0 1048576 t573 _ ?side1 ?side2 A3.out).mono ?_); (case side1 => repeat (first | exact HR0.out | (with_reducible refine Kd.C_alloc ?_ _) | (with_reducible refine Kd.C_drewN ?_ _) | (with_reducible refine Kd.C_drew ?_))); (case side2 => exact HC0.out); rintro e w8 ⟨rfl, hb⟩; refine ⟨_, rfl, ?_⟩; replace HB := Aside0.mk (below_step (bz0 HB.out) hb); (try clear hb); (try clear hi)) | ((with_reducible refine gate_callee (f := 10) rfl ?_); refine goesL_ (some 17) rfl rfl Tryd.func10 (by kernel_rfl) rfl #[.slice A1 l1.length c1, .int .i64 t573] rfl lz ?_; (with_reducible refine (laws_szNodeS.calls k _ _ l1 t573 t574 _ ?side1 ?side2 A6.out).mono ?_); (case side1 => exact cz (Kd.C_below HR1.out HB.out)); (case side2 => exact HC1.out); rintro e w9 ⟨rfl, hb⟩; refine ⟨_, rfl, ?_⟩; replace HB := Aside0.mk (below_step (bz0 HB.out) hb); (try clear hb); (try clear hi)))
   go_ret
   exact ⟨gz, (bz0 HB.out)⟩
  ·rw [if_neg c7] at H
   have c7b0 := decide_eq_false c7
   clear c7
   replace H := bi H
   obtain ⟨t575, A100, H⟩ := H
   try dsimp only at H
   have A10 := Aside0.mk A100
   clear A100
   replace H := bi H
   obtain ⟨t578, A110, H⟩ := H
   try dsimp only at H
   have A11 := Aside0.mk A110
   clear A110
   replace H := bi H
   obtain ⟨t581, A120, H⟩ := H
   try dsimp only at H
   have A12 := Aside0.mk A120
   clear A120
   replace H := bi H
   obtain ⟨t582, A130, H⟩ := H
   try dsimp only at H
   have A13 := Aside0.mk A130
   clear A130
   replace H := bi H
   obtain ⟨t585, A140, H⟩ := H
   try dsimp only at H
   have A14 := Aside0.mk A140
   clear A140
   replace H := bi H
   obtain ⟨t588, A150, H⟩ := H
   try dsimp only at H
   have A15 := Aside0.mk A150
   clear A150
   by_cases c16 : (t588 != t581) = true
   ·rw [if_pos c16] at H
    have c16b0 : (t588 != t581) = true := c16
    (try (have c16b1 : decide (t588 = t581) = false := by simpa using c16))
    (try (have c16b2 : (t588 == t581) = false := by simpa using c16))
    (try (have c16b3 : ¬ (t588 = t581) := by simpa using c16))
    clear c16
    obtain rfl := Option.some.inj H
    go_enter Tryd.func8, Tryd.ntmps8
    go_wp2_with (first | ((with_reducible refine gate_callee (f := 10) rfl ?_); refine goesL_ (some 12) rfl rfl Tryd.func10 (by kernel_rfl) rfl #[.slice A0 l0.length c0, .int .i64 1048576] rfl lz ?_; (with_reducible refine (laws_szNodeS.calls k _ _ l0 1048576 t573 _ ?side1 ?side2 A3.out).mono ?_); (case side1 => repeat (first | exact HR0.out | (with_reducible refine Kd.C_alloc ?_ _) | (with_reducible refine Kd.C_drewN ?_ _) | (with_reducible refine Kd.C_drew ?_))); (case side2 => exact HC0.out); rintro e w17 ⟨rfl, hb⟩; refine ⟨_, rfl, ?_⟩; replace HB := Aside0.mk (below_step (bz0 HB.out) hb); (try clear hb); (try clear hi)) | ((with_reducible refine gate_callee (f := 10) rfl ?_); refine goesL_ (some 17) rfl rfl Tryd.func10 (by kernel_rfl) rfl #[.slice A1 l1.length c1, .int .i64 t573] rfl lz ?_; (with_reducible refine (laws_szNodeS.calls k _ _ l1 t573 t574 _ ?side1 ?side2 A6.out).mono ?_); (case side1 => exact cz (Kd.C_below HR1.out HB.out)); (case side2 => exact HC1.out); rintro e w18 ⟨rfl, hb⟩; refine ⟨_, rfl, ?_⟩; replace HB := Aside0.mk (below_step (bz0 HB.out) hb); (try clear hb); (try clear hi)) | ((with_reducible refine gate_callee (f := 12) rfl ?_); refine goesL_ (some 21) rfl rfl Tryd.func12 (by kernel_rfl) rfl #[.slice A0 l0.length c0] rfl lz ?_; (with_reducible refine (laws_toNodeS.calls k _ _ l0 t575 _ ?side1 ?side2 A10.out).mono ?_); (case side1 => exact cz (Kd.C_below HR0.out HB.out)); (case side2 => exact HC0.out); rintro e w19 ⟨v576, rfl, ho0, hb⟩; refine ⟨_, rfl, ?_⟩; have HO577 := Aside0.mk (Kd.R_lower ho0 (below_size (bz0 HB.out))); replace HB := Aside0.mk (below_step (bz0 HB.out) hb); (try clear hb); (try clear ho0)) | ((with_reducible refine gate_callee (f := 12) rfl ?_); refine goesL_ (some 23) rfl rfl Tryd.func12 (by kernel_rfl) rfl #[.slice A1 l1.length c1] rfl lz ?_; (with_reducible refine (laws_toNodeS.calls k _ _ l1 t578 _ ?side1 ?side2 A11.out).mono ?_); (case side1 => exact cz (Kd.C_below HR1.out HB.out)); (case side2 => exact HC1.out); rintro e w20 ⟨v579, rfl, ho0, hb⟩; refine ⟨_, rfl, ?_⟩; have HO580 := Aside0.mk (Kd.R_lower (Kd.R_new' ho0 (Kd.R_lt (rz HO577.out))) (below_size (bz0 HB.out))); replace HO577 := Aside0.mk (Kd.R_elder' (rz HO577.out) (Kd.R_base ho0) hb); replace HB := Aside0.mk (below_step (bz0 HB.out) hb); (try clear hb); (try clear ho0); obtain ⟨Ao21, co21, eo21⟩ := Kd.R_slice HO577.out; subst eo21; obtain ⟨Ao22, co22, eo22⟩ := Kd.R_slice HO580.out; subst eo22) | ((with_reducible refine gate_callee (f := 27) rfl ?_); refine goesL_ (some 24) rfl rfl Tryd.func27 (by kernel_rfl) rfl #[.slice Ao21 t575.length co21, .slice Ao22 t578.length co22] rfl lz ?_; (with_reducible refine (spec_AlphaSame.calls k _ _ t575 _ _ t578 t581 _ ?side1 ?side2 ?side3 ?side4 A12.out).mono ?_); (case side1 => exact cz (Kd.R_reads' HO577.out).2.2); (case side2 => exact (Kd.R_reads' HO577.out).2.1); (case side3 => exact cz (Kd.R_reads' HO580.out).2.2); (case side4 => exact (Kd.R_reads' HO580.out).2.1); rintro e w23 ⟨rfl, hb⟩; refine ⟨_, rfl, ?_⟩; replace HO577 := qz HO577 hb; replace HO580 := qz HO580 hb; replace HB := Aside0.mk (below_step (bz0 HB.out) hb); (try clear hb); (try clear hi)) | ((with_reducible refine gate_callee (f := 12) rfl ?_); refine goesL_ (some 26) rfl rfl Tryd.func12 (by kernel_rfl) rfl #[.slice A0 l0.length c0] rfl lz ?_; (with_reducible refine (laws_toNodeS.calls k _ _ l0 t582 _ ?side1 ?side2 A13.out).mono ?_); (case side1 => exact cz (Kd.C_below HR0.out HB.out)); (case side2 => exact HC0.out); rintro e w24 ⟨v583, rfl, ho0, hb⟩; refine ⟨_, rfl, ?_⟩; have HO584 := Aside0.mk (Kd.R_lower (Kd.R_new' (Kd.R_new' ho0 (Kd.R_lt (rz HO577.out))) (Kd.R_lt (rz HO580.out))) (below_size (bz0 HB.out))); replace HO577 := Aside0.mk (Kd.R_elder' (rz HO577.out) (Kd.R_base ho0) hb); replace HO580 := Aside0.mk (Kd.R_elder' (rz HO580.out) (Kd.R_base ho0) hb); replace HB := Aside0.mk (below_step (bz0 HB.out) hb); (try clear hb); (try clear ho0)) | ((with_reducible refine gate_callee (f := 12) rfl ?_); refine goesL_ (some 28) rfl rfl Tryd.func12 (by kernel_rfl) rfl #[.slice A1 l1.length c1] rfl lz ?_; (with_reducible refine (laws_toNodeS.calls k _ _ l1 t585 _ ?side1 ?side2 A14.out).mono ?_); (case side1 => exact cz (Kd.C_below HR1.out HB.out)); (case side2 => exact HC1.out); rintro e w25 ⟨v586, rfl, ho0, hb⟩; refine ⟨_, rfl, ?_⟩; have HO587 := Aside0.mk (Kd.R_lower (Kd.R_new' (Kd.R_new' (Kd.R_new' ho0 (Kd.R_lt (rz HO577.out))) (Kd.R_lt (rz HO580.out))) (Kd.R_lt (rz HO584.out))) (below_size (bz0 HB.out))); replace HO577 := Aside0.mk (Kd.R_elder' (rz HO577.out) (Kd.R_base ho0) hb); replace HO580 := Aside0.mk (Kd.R_elder' (rz HO580.out) (Kd.R_base ho0) hb); replace HO584 := Aside0.mk (Kd.R_elder' (rz HO584.out) (Kd.R_base ho0) hb); replace HB := Aside0.mk (below_step (bz0 HB.out) hb); (try clear hb); (try clear ho0); obtain ⟨Ao26, co26, eo26⟩ := Kd.R_slice HO584.out; subst eo26; obtain ⟨Ao27, co27, eo27⟩ := Kd.R_slice HO587.out; subst eo27) | ((with_reducible refine gate_callee (f := 28) rfl ?_); refine goesL_ (some 31) rfl rfl Tryd.func28 (by kernel_rfl) rfl #[.slice Ao26 t582.length co26, .slice Ao27 t585.length co27] rfl lz ?_; (with_reducible refine (impl_AlphaSame.calls k _ _ t582 _ _ t585 t588 _ ?side1 ?side2 ?side3 ?side4 A15.out).mono ?_); (case side1 => exact cz (Kd.R_reads' HO584.out).2.2); (case side2 => exact (Kd.R_reads' HO584.out).2.1); (case side3 => exact cz (Kd.R_reads' HO587.out).2.2); (case side4 => exact (Kd.R_reads' HO587.out).2.1); rintro e w28 ⟨rfl, hb⟩; refine ⟨_, rfl, ?_⟩; replace HO577 := qz HO577 hb; replace HO580 := qz HO580 hb; replace HO584 := qz HO584 hb; replace HO587 := qz HO587 hb; replace HB := Aside0.mk (below_step (bz0 HB.out) hb); (try clear hb); (try clear hi)))
    go_ret
    exact ⟨gz, (bz0 HB.out)⟩
   ·rw [if_neg c16] at H
    have c16b0 : (t588 != t581) = false := by simpa using c16
    (try (have c16b1 : decide (t588 = t581) = true := by simpa using c16))
    (try (have c16b2 : (t588 == t581) = true := by simpa using c16))
    clear c16
    replace H := bi H
    obtain ⟨t589, A290, H⟩ := H
    try dsimp only at H
    have A29 := Aside0.mk A290
    clear A290
    replace H := bi H
    obtain ⟨t592, A300, H⟩ := H
    try dsimp only at H
    have A30 := Aside0.mk A300
    clear A300
    by_cases c31 : t592 = true
    ·subst c31
     have H1 := hp H
     clear H
     have H := H1
     clear H1
     replace H := bi H
     obtain ⟨t593, A320, H⟩ := H
     try dsimp only at H
     have A32 := Aside0.mk A320
     clear A320
     replace H := bi H
     obtain ⟨t596, A330, H⟩ := H
     try dsimp only at H
     have A33 := Aside0.mk A330
     clear A330
     by_cases c34 : t596 = true
     ·subst c34
      have H1 := hp H
      clear H
      have H := H1
      clear H1
      obtain rfl := Option.some.inj H
      go_enter Tryd.func8, Tryd.ntmps8
      go_wp2_with (first | ((with_reducible refine gate_callee (f := 10) rfl ?_); refine goesL_ (some 12) rfl rfl Tryd.func10 (by kernel_rfl) rfl #[.slice A0 l0.length c0, .int .i64 1048576] rfl lz ?_; (with_reducible refine (laws_szNodeS.calls k _ _ l0 1048576 t573 _ ?side1 ?side2 A3.out).mono ?_); (case side1 => repeat (first | exact HR0.out | (with_reducible refine Kd.C_alloc ?_ _) | (with_reducible refine Kd.C_drewN ?_ _) | (with_reducible refine Kd.C_drew ?_))); (case side2 => exact HC0.out); rintro e w35 ⟨rfl, hb⟩; refine ⟨_, rfl, ?_⟩; replace HB := Aside0.mk (below_step (bz0 HB.out) hb); (try clear hb); (try clear hi)) | ((with_reducible refine gate_callee (f := 10) rfl ?_); refine goesL_ (some 17) rfl rfl Tryd.func10 (by kernel_rfl) rfl #[.slice A1 l1.length c1, .int .i64 t573] rfl lz ?_; (with_reducible refine (laws_szNodeS.calls k _ _ l1 t573 t574 _ ?side1 ?side2 A6.out).mono ?_); (case side1 => exact cz (Kd.C_below HR1.out HB.out)); (case side2 => exact HC1.out); rintro e w36 ⟨rfl, hb⟩; refine ⟨_, rfl, ?_⟩; replace HB := Aside0.mk (below_step (bz0 HB.out) hb); (try clear hb); (try clear hi)) | ((with_reducible refine gate_callee (f := 12) rfl ?_); refine goesL_ (some 21) rfl rfl Tryd.func12 (by kernel_rfl) rfl #[.slice A0 l0.length c0] rfl lz ?_; (with_reducible refine (laws_toNodeS.calls k _ _ l0 t575 _ ?side1 ?side2 A10.out).mono ?_); (case side1 => exact cz (Kd.C_below HR0.out HB.out)); (case side2 => exact HC0.out); rintro e w37 ⟨v576, rfl, ho0, hb⟩; refine ⟨_, rfl, ?_⟩; have HO577 := Aside0.mk (Kd.R_lower ho0 (below_size (bz0 HB.out))); replace HB := Aside0.mk (below_step (bz0 HB.out) hb); (try clear hb); (try clear ho0)) | ((with_reducible refine gate_callee (f := 12) rfl ?_); refine goesL_ (some 23) rfl rfl Tryd.func12 (by kernel_rfl) rfl #[.slice A1 l1.length c1] rfl lz ?_; (with_reducible refine (laws_toNodeS.calls k _ _ l1 t578 _ ?side1 ?side2 A11.out).mono ?_); (case side1 => exact cz (Kd.C_below HR1.out HB.out)); (case side2 => exact HC1.out); rintro e w38 ⟨v579, rfl, ho0, hb⟩; refine ⟨_, rfl, ?_⟩; have HO580 := Aside0.mk (Kd.R_lower (Kd.R_new' ho0 (Kd.R_lt (rz HO577.out))) (below_size (bz0 HB.out))); replace HO577 := Aside0.mk (Kd.R_elder' (rz HO577.out) (Kd.R_base ho0) hb); replace HB := Aside0.mk (below_step (bz0 HB.out) hb); (try clear hb); (try clear ho0); obtain ⟨Ao39, co39, eo39⟩ := Kd.R_slice HO577.out; subst eo39; obtain ⟨Ao40, co40, eo40⟩ := Kd.R_slice HO580.out; subst eo40) | ((with_reducible refine gate_callee (f := 27) rfl ?_); refine goesL_ (some 24) rfl rfl Tryd.func27 (by kernel_rfl) rfl #[.slice Ao39 t575.length co39, .slice Ao40 t578.length co40] rfl lz ?_; (with_reducible refine (spec_AlphaSame.calls k _ _ t575 _ _ t578 t581 _ ?side1 ?side2 ?side3 ?side4 A12.out).mono ?_); (case side1 => exact cz (Kd.R_reads' HO577.out).2.2); (case side2 => exact (Kd.R_reads' HO577.out).2.1); (case side3 => exact cz (Kd.R_reads' HO580.out).2.2); (case side4 => exact (Kd.R_reads' HO580.out).2.1); rintro e w41 ⟨rfl, hb⟩; refine ⟨_, rfl, ?_⟩; replace HO577 := qz HO577 hb; replace HO580 := qz HO580 hb; replace HB := Aside0.mk (below_step (bz0 HB.out) hb); (try clear hb); (try clear hi)) | ((with_reducible refine gate_callee (f := 12) rfl ?_); refine goesL_ (some 26) rfl rfl Tryd.func12 (by kernel_rfl) rfl #[.slice A0 l0.length c0] rfl lz ?_; (with_reducible refine (laws_toNodeS.calls k _ _ l0 t582 _ ?side1 ?side2 A13.out).mono ?_); (case side1 => exact cz (Kd.C_below HR0.out HB.out)); (case side2 => exact HC0.out); rintro e w42 ⟨v583, rfl, ho0, hb⟩; refine ⟨_, rfl, ?_⟩; have HO584 := Aside0.mk (Kd.R_lower (Kd.R_new' (Kd.R_new' ho0 (Kd.R_lt (rz HO577.out))) (Kd.R_lt (rz HO580.out))) (below_size (bz0 HB.out))); replace HO577 := Aside0.mk (Kd.R_elder' (rz HO577.out) (Kd.R_base ho0) hb); replace HO580 := Aside0.mk (Kd.R_elder' (rz HO580.out) (Kd.R_base ho0) hb); replace HB := Aside0.mk (below_step (bz0 HB.out) hb); (try clear hb); (try clear ho0)) | ((with_reducible refine gate_callee (f := 12) rfl ?_); refine goesL_ (some 28) rfl rfl Tryd.func12 (by kernel_rfl) rfl #[.slice A1 l1.length c1] rfl lz ?_; (with_reducible refine (laws_toNodeS.calls k _ _ l1 t585 _ ?side1 ?side2 A14.out).mono ?_); (case side1 => exact cz (Kd.C_below HR1.out HB.out)); (case side2 => exact HC1.out); rintro e w43 ⟨v586, rfl, ho0, hb⟩; refine ⟨_, rfl, ?_⟩; have HO587 := Aside0.mk (Kd.R_lower (Kd.R_new' (Kd.R_new' (Kd.R_new' ho0 (Kd.R_lt (rz HO577.out))) (Kd.R_lt (rz HO580.out))) (Kd.R_lt (rz HO584.out))) (below_size (bz0 HB.out))); replace HO577 := Aside0.mk (Kd.R_elder' (rz HO577.out) (Kd.R_base ho0) hb); replace HO580 := Aside0.mk (Kd.R_elder' (rz HO580.out) (Kd.R_base ho0) hb); replace HO584 := Aside0.mk (Kd.R_elder' (rz HO584.out) (Kd.R_base ho0) hb); replace HB := Aside0.mk (below_step (bz0 HB.out) hb); (try clear hb); (try clear ho0); obtain ⟨Ao44, co44, eo44⟩ := Kd.R_slice HO584.out; subst eo44; obtain ⟨Ao45, co45, eo45⟩ := Kd.R_slice HO587.out; subst eo45) | ((with_reducible refine gate_callee (f := 28) rfl ?_); refine goesL_ (some 31) rfl rfl Tryd.func28 (by kernel_rfl) rfl #[.slice Ao44 t582.length co44, .slice Ao45 t585.length co45] rfl lz ?_; (with_reducible refine (impl_AlphaSame.calls k _ _ t582 _ _ t585 t588 _ ?side1 ?side2 ?side3 ?side4 A15.out).mono ?_); (case side1 => exact cz (Kd.R_reads' HO584.out).2.2); (case side2 => exact (Kd.R_reads' HO584.out).2.1); (case side3 => exact cz (Kd.R_reads' HO587.out).2.2); (case side4 => exact (Kd.R_reads' HO587.out).2.1); rintro e w46 ⟨rfl, hb⟩; refine ⟨_, rfl, ?_⟩; replace HO577 := qz HO577 hb; replace HO580 := qz HO580 hb; replace HO584 := qz HO584 hb; replace HO587 := qz HO587 hb; replace HB := Aside0.mk (below_step (bz0 HB.out) hb); (try clear hb); (try clear hi)) | ((with_reducible refine gate_callee (f := 12) rfl ?_); refine goesL_ (some 37) rfl rfl Tryd.func12 (by kernel_rfl) rfl #[.slice A0 l0.length c0] rfl lz ?_; (with_reducible refine (laws_toNodeS.calls k _ _ l0 t589 _ ?side1 ?side2 A29.out).mono ?_); (case side1 => exact cz (Kd.C_below HR0.out HB.out)); (case side2 => exact HC0.out); rintro e w47 ⟨v590, rfl, ho0, hb⟩; refine ⟨_, rfl, ?_⟩; have HO591 := Aside0.mk (Kd.R_lower (Kd.R_new' (Kd.R_new' (Kd.R_new' (Kd.R_new' ho0 (Kd.R_lt (rz HO577.out))) (Kd.R_lt (rz HO580.out))) (Kd.R_lt (rz HO584.out))) (Kd.R_lt (rz HO587.out))) (below_size (bz0 HB.out))); replace HO577 := Aside0.mk (Kd.R_elder' (rz HO577.out) (Kd.R_base ho0) hb); replace HO580 := Aside0.mk (Kd.R_elder' (rz HO580.out) (Kd.R_base ho0) hb); replace HO584 := Aside0.mk (Kd.R_elder' (rz HO584.out) (Kd.R_base ho0) hb); replace HO587 := Aside0.mk (Kd.R_elder' (rz HO587.out) (Kd.R_base ho0) hb); replace HB := Aside0.mk (below_step (bz0 HB.out) hb); (try clear hb); (try clear ho0); obtain ⟨Ao48, co48, eo48⟩ := Kd.R_slice HO591.out; subst eo48) | ((with_reducible refine gate_callee (f := 14) rfl ?_); refine goesL_ (some 38) rfl rfl Tryd.func14 (by kernel_rfl) rfl #[.slice Ao44 t582.length co44, .slice Ao48 t589.length co48] rfl lz ?_; (with_reducible refine (laws_eqNodeS.calls k _ _ t582 _ _ t589 true _ ?side1 ?side2 ?side3 ?side4 A30.out).mono ?_); (case side1 => exact cz (Kd.R_reads' HO584.out).2.2); (case side2 => exact (Kd.R_reads' HO584.out).2.1); (case side3 => exact cz (Kd.R_reads' HO591.out).2.2); (case side4 => exact (Kd.R_reads' HO591.out).2.1); rintro e w49 ⟨rfl, hb⟩; refine ⟨_, rfl, ?_⟩; replace HO577 := qz HO577 hb; replace HO580 := qz HO580 hb; replace HO584 := qz HO584 hb; replace HO587 := qz HO587 hb; replace HO591 := qz HO591 hb; replace HB := Aside0.mk (below_step (bz0 HB.out) hb); (try clear hb); (try clear hi)) | ((with_reducible refine gate_callee (f := 12) rfl ?_); refine goesL_ (some 42) rfl rfl Tryd.func12 (by kernel_rfl) rfl #[.slice A1 l1.length c1] rfl lz ?_; (with_reducible refine (laws_toNodeS.calls k _ _ l1 t593 _ ?side1 ?side2 A32.out).mono ?_); (case side1 => exact cz (Kd.C_below HR1.out HB.out)); (case side2 => exact HC1.out); rintro e w50 ⟨v594, rfl, ho0, hb⟩; refine ⟨_, rfl, ?_⟩; have HO595 := Aside0.mk (Kd.R_lower (Kd.R_new' (Kd.R_new' (Kd.R_new' (Kd.R_new' (Kd.R_new' ho0 (Kd.R_lt (rz HO577.out))) (Kd.R_lt (rz HO580.out))) (Kd.R_lt (rz HO584.out))) (Kd.R_lt (rz HO587.out))) (Kd.R_lt (rz HO591.out))) (below_size (bz0 HB.out))); replace HO577 := Aside0.mk (Kd.R_elder' (rz HO577.out) (Kd.R_base ho0) hb); replace HO580 := Aside0.mk (Kd.R_elder' (rz HO580.out) (Kd.R_base ho0) hb); replace HO584 := Aside0.mk (Kd.R_elder' (rz HO584.out) (Kd.R_base ho0) hb); replace HO587 := Aside0.mk (Kd.R_elder' (rz HO587.out) (Kd.R_base ho0) hb); replace HO591 := Aside0.mk (Kd.R_elder' (rz HO591.out) (Kd.R_base ho0) hb); replace HB := Aside0.mk (below_step (bz0 HB.out) hb); (try clear hb); (try clear ho0); obtain ⟨Ao51, co51, eo51⟩ := Kd.R_slice HO595.out; subst eo51) | ((with_reducible refine gate_callee (f := 14) rfl ?_); refine goesL_ (some 43) rfl rfl Tryd.func14 (by kernel_rfl) rfl #[.slice Ao45 t585.length co45, .slice Ao51 t593.length co51] rfl lz ?_; (with_reducible refine (laws_eqNodeS.calls k _ _ t585 _ _ t593 true _ ?side1 ?side2 ?side3 ?side4 A33.out).mono ?_); (case side1 => exact cz (Kd.R_reads' HO587.out).2.2); (case side2 => exact (Kd.R_reads' HO587.out).2.1); (case side3 => exact cz (Kd.R_reads' HO595.out).2.2); (case side4 => exact (Kd.R_reads' HO595.out).2.1); rintro e w52 ⟨rfl, hb⟩; refine ⟨_, rfl, ?_⟩; replace HO577 := qz HO577 hb; replace HO580 := qz HO580 hb; replace HO584 := qz HO584 hb; replace HO587 := qz HO587 hb; replace HO591 := qz HO591 hb; replace HO595 := qz HO595 hb; replace HB := Aside0.mk (below_step (bz0 HB.out) hb); (try clear hb); (try clear hi)))
      go_ret
      exact ⟨gz, (bz0 HB.out)⟩
     ·replace c34 := Bool.eq_false_iff.mpr c34
      subst c34
      have H1 := hq H
      clear H
      have H := H1
      clear H1
      obtain rfl := Option.some.inj H
      go_enter Tryd.func8, Tryd.ntmps8
      go_wp2_with (first | ((with_reducible refine gate_callee (f := 10) rfl ?_); refine goesL_ (some 12) rfl rfl Tryd.func10 (by kernel_rfl) rfl #[.slice A0 l0.length c0, .int .i64 1048576] rfl lz ?_; (with_reducible refine (laws_szNodeS.calls k _ _ l0 1048576 t573 _ ?side1 ?side2 A3.out).mono ?_); (case side1 => repeat (first | exact HR0.out | (with_reducible refine Kd.C_alloc ?_ _) | (with_reducible refine Kd.C_drewN ?_ _) | (with_reducible refine Kd.C_drew ?_))); (case side2 => exact HC0.out); rintro e w53 ⟨rfl, hb⟩; refine ⟨_, rfl, ?_⟩; replace HB := Aside0.mk (below_step (bz0 HB.out) hb); (try clear hb); (try clear hi)) | ((with_reducible refine gate_callee (f := 10) rfl ?_); refine goesL_ (some 17) rfl rfl Tryd.func10 (by kernel_rfl) rfl #[.slice A1 l1.length c1, .int .i64 t573] rfl lz ?_; (with_reducible refine (laws_szNodeS.calls k _ _ l1 t573 t574 _ ?side1 ?side2 A6.out).mono ?_); (case side1 => exact cz (Kd.C_below HR1.out HB.out)); (case side2 => exact HC1.out); rintro e w54 ⟨rfl, hb⟩; refine ⟨_, rfl, ?_⟩; replace HB := Aside0.mk (below_step (bz0 HB.out) hb); (try clear hb); (try clear hi)) | ((with_reducible refine gate_callee (f := 12) rfl ?_); refine goesL_ (some 21) rfl rfl Tryd.func12 (by kernel_rfl) rfl #[.slice A0 l0.length c0] rfl lz ?_; (with_reducible refine (laws_toNodeS.calls k _ _ l0 t575 _ ?side1 ?side2 A10.out).mono ?_); (case side1 => exact cz (Kd.C_below HR0.out HB.out)); (case side2 => exact HC0.out); rintro e w55 ⟨v576, rfl, ho0, hb⟩; refine ⟨_, rfl, ?_⟩; have HO577 := Aside0.mk (Kd.R_lower ho0 (below_size (bz0 HB.out))); replace HB := Aside0.mk (below_step (bz0 HB.out) hb); (try clear hb); (try clear ho0)) | ((with_reducible refine gate_callee (f := 12) rfl ?_); refine goesL_ (some 23) rfl rfl Tryd.func12 (by kernel_rfl) rfl #[.slice A1 l1.length c1] rfl lz ?_; (with_reducible refine (laws_toNodeS.calls k _ _ l1 t578 _ ?side1 ?side2 A11.out).mono ?_); (case side1 => exact cz (Kd.C_below HR1.out HB.out)); (case side2 => exact HC1.out); rintro e w56 ⟨v579, rfl, ho0, hb⟩; refine ⟨_, rfl, ?_⟩; have HO580 := Aside0.mk (Kd.R_lower (Kd.R_new' ho0 (Kd.R_lt (rz HO577.out))) (below_size (bz0 HB.out))); replace HO577 := Aside0.mk (Kd.R_elder' (rz HO577.out) (Kd.R_base ho0) hb); replace HB := Aside0.mk (below_step (bz0 HB.out) hb); (try clear hb); (try clear ho0); obtain ⟨Ao57, co57, eo57⟩ := Kd.R_slice HO577.out; subst eo57; obtain ⟨Ao58, co58, eo58⟩ := Kd.R_slice HO580.out; subst eo58) | ((with_reducible refine gate_callee (f := 27) rfl ?_); refine goesL_ (some 24) rfl rfl Tryd.func27 (by kernel_rfl) rfl #[.slice Ao57 t575.length co57, .slice Ao58 t578.length co58] rfl lz ?_; (with_reducible refine (spec_AlphaSame.calls k _ _ t575 _ _ t578 t581 _ ?side1 ?side2 ?side3 ?side4 A12.out).mono ?_); (case side1 => exact cz (Kd.R_reads' HO577.out).2.2); (case side2 => exact (Kd.R_reads' HO577.out).2.1); (case side3 => exact cz (Kd.R_reads' HO580.out).2.2); (case side4 => exact (Kd.R_reads' HO580.out).2.1); rintro e w59 ⟨rfl, hb⟩; refine ⟨_, rfl, ?_⟩; replace HO577 := qz HO577 hb; replace HO580 := qz HO580 hb; replace HB := Aside0.mk (below_step (bz0 HB.out) hb); (try clear hb); (try clear hi)) | ((with_reducible refine gate_callee (f := 12) rfl ?_); refine goesL_ (some 26) rfl rfl Tryd.func12 (by kernel_rfl) rfl #[.slice A0 l0.length c0] rfl lz ?_; (with_reducible refine (laws_toNodeS.calls k _ _ l0 t582 _ ?side1 ?side2 A13.out).mono ?_); (case side1 => exact cz (Kd.C_below HR0.out HB.out)); (case side2 => exact HC0.out); rintro e w60 ⟨v583, rfl, ho0, hb⟩; refine ⟨_, rfl, ?_⟩; have HO584 := Aside0.mk (Kd.R_lower (Kd.R_new' (Kd.R_new' ho0 (Kd.R_lt (rz HO577.out))) (Kd.R_lt (rz HO580.out))) (below_size (bz0 HB.out))); replace HO577 := Aside0.mk (Kd.R_elder' (rz HO577.out) (Kd.R_base ho0) hb); replace HO580 := Aside0.mk (Kd.R_elder' (rz HO580.out) (Kd.R_base ho0) hb); replace HB := Aside0.mk (below_step (bz0 HB.out) hb); (try clear hb); (try clear ho0)) | ((with_reducible refine gate_callee (f := 12) rfl ?_); refine goesL_ (some 28) rfl rfl Tryd.func12 (by kernel_rfl) rfl #[.slice A1 l1.length c1] rfl lz ?_; (with_reducible refine (laws_toNodeS.calls k _ _ l1 t585 _ ?side1 ?side2 A14.out).mono ?_); (case side1 => exact cz (Kd.C_below HR1.out HB.out)); (case side2 => exact HC1.out); rintro e w61 ⟨v586, rfl, ho0, hb⟩; refine ⟨_, rfl, ?_⟩; have HO587 := Aside0.mk (Kd.R_lower (Kd.R_new' (Kd.R_new' (Kd.R_new' ho0 (Kd.R_lt (rz HO577.out))) (Kd.R_lt (rz HO580.out))) (Kd.R_lt (rz HO584.out))) (below_size (bz0 HB.out))); replace HO577 := Aside0.mk (Kd.R_elder' (rz HO577.out) (Kd.R_base ho0) hb); replace HO580 := Aside0.mk (Kd.R_elder' (rz HO580.out) (Kd.R_base ho0) hb); replace HO584 := Aside0.mk (Kd.R_elder' (rz HO584.out) (Kd.R_base ho0) hb); replace HB := Aside0.mk (below_step (bz0 HB.out) hb); (try clear hb); (try clear ho0); obtain ⟨Ao62, co62, eo62⟩ := Kd.R_slice HO584.out; subst eo62; obtain ⟨Ao63, co63, eo63⟩ := Kd.R_slice HO587.out; subst eo63) | ((with_reducible refine gate_callee (f := 28) rfl ?_); refine goesL_ (some 31) rfl rfl Tryd.func28 (by kernel_rfl) rfl #[.slice Ao62 t582.length co62, .slice Ao63 t585.length co63] rfl lz ?_; (with_reducible refine (impl_AlphaSame.calls k _ _ t582 _ _ t585 t588 _ ?side1 ?side2 ?side3 ?side4 A15.out).mono ?_); (case side1 => exact cz (Kd.R_reads' HO584.out).2.2); (case side2 => exact (Kd.R_reads' HO584.out).2.1); (case side3 => exact cz (Kd.R_reads' HO587.out).2.2); (case side4 => exact (Kd.R_reads' HO587.out).2.1); rintro e w64 ⟨rfl, hb⟩; refine ⟨_, rfl, ?_⟩; replace HO577 := qz HO577 hb; replace HO580 := qz HO580 hb; replace HO584 := qz HO584 hb; replace HO587 := qz HO587 hb; replace HB := Aside0.mk (below_step (bz0 HB.out) hb); (try clear hb); (try clear hi)) | ((with_reducible refine gate_callee (f := 12) rfl ?_); refine goesL_ (some 37) rfl rfl Tryd.func12 (by kernel_rfl) rfl #[.slice A0 l0.length c0] rfl lz ?_; (with_reducible refine (laws_toNodeS.calls k _ _ l0 t589 _ ?side1 ?side2 A29.out).mono ?_); (case side1 => exact cz (Kd.C_below HR0.out HB.out)); (case side2 => exact HC0.out); rintro e w65 ⟨v590, rfl, ho0, hb⟩; refine ⟨_, rfl, ?_⟩; have HO591 := Aside0.mk (Kd.R_lower (Kd.R_new' (Kd.R_new' (Kd.R_new' (Kd.R_new' ho0 (Kd.R_lt (rz HO577.out))) (Kd.R_lt (rz HO580.out))) (Kd.R_lt (rz HO584.out))) (Kd.R_lt (rz HO587.out))) (below_size (bz0 HB.out))); replace HO577 := Aside0.mk (Kd.R_elder' (rz HO577.out) (Kd.R_base ho0) hb); replace HO580 := Aside0.mk (Kd.R_elder' (rz HO580.out) (Kd.R_base ho0) hb); replace HO584 := Aside0.mk (Kd.R_elder' (rz HO584.out) (Kd.R_base ho0) hb); replace HO587 := Aside0.mk (Kd.R_elder' (rz HO587.out) (Kd.R_base ho0) hb); replace HB := Aside0.mk (below_step (bz0 HB.out) hb); (try clear hb); (try clear ho0); obtain ⟨Ao66, co66, eo66⟩ := Kd.R_slice HO591.out; subst eo66) | ((with_reducible refine gate_callee (f := 14) rfl ?_); refine goesL_ (some 38) rfl rfl Tryd.func14 (by kernel_rfl) rfl #[.slice Ao62 t582.length co62, .slice Ao66 t589.length co66] rfl lz ?_; (with_reducible refine (laws_eqNodeS.calls k _ _ t582 _ _ t589 true _ ?side1 ?side2 ?side3 ?side4 A30.out).mono ?_); (case side1 => exact cz (Kd.R_reads' HO584.out).2.2); (case side2 => exact (Kd.R_reads' HO584.out).2.1); (case side3 => exact cz (Kd.R_reads' HO591.out).2.2); (case side4 => exact (Kd.R_reads' HO591.out).2.1); rintro e w67 ⟨rfl, hb⟩; refine ⟨_, rfl, ?_⟩; replace HO577 := qz HO577 hb; replace HO580 := qz HO580 hb; replace HO584 := qz HO584 hb; replace HO587 := qz HO587 hb; replace HO591 := qz HO591 hb; replace HB := Aside0.mk (below_step (bz0 HB.out) hb); (try clear hb); (try clear hi)) | ((with_reducible refine gate_callee (f := 12) rfl ?_); refine goesL_ (some 42) rfl rfl Tryd.func12 (by kernel_rfl) rfl #[.slice A1 l1.length c1] rfl lz ?_; (with_reducible refine (laws_toNodeS.calls k _ _ l1 t593 _ ?side1 ?side2 A32.out).mono ?_); (case side1 => exact cz (Kd.C_below HR1.out HB.out)); (case side2 => exact HC1.out); rintro e w68 ⟨v594, rfl, ho0, hb⟩; refine ⟨_, rfl, ?_⟩; have HO595 := Aside0.mk (Kd.R_lower (Kd.R_new' (Kd.R_new' (Kd.R_new' (Kd.R_new' (Kd.R_new' ho0 (Kd.R_lt (rz HO577.out))) (Kd.R_lt (rz HO580.out))) (Kd.R_lt (rz HO584.out))) (Kd.R_lt (rz HO587.out))) (Kd.R_lt (rz HO591.out))) (below_size (bz0 HB.out))); replace HO577 := Aside0.mk (Kd.R_elder' (rz HO577.out) (Kd.R_base ho0) hb); replace HO580 := Aside0.mk (Kd.R_elder' (rz HO580.out) (Kd.R_base ho0) hb); replace HO584 := Aside0.mk (Kd.R_elder' (rz HO584.out) (Kd.R_base ho0) hb); replace HO587 := Aside0.mk (Kd.R_elder' (rz HO587.out) (Kd.R_base ho0) hb); replace HO591 := Aside0.mk (Kd.R_elder' (rz HO591.out) (Kd.R_base ho0) hb); replace HB := Aside0.mk (below_step (bz0 HB.out) hb); (try clear hb); (try clear ho0); obtain ⟨Ao69, co69, eo69⟩ := Kd.R_slice HO595.out; subst eo69) | ((with_reducible refine gate_callee (f := 14) rfl ?_); refine goesL_ (some 43) rfl rfl Tryd.func14 (by kernel_rfl) rfl #[.slice Ao63 t585.length co63, .slice Ao69 t593.length co69] rfl lz ?_; (with_reducible refine (laws_eqNodeS.calls k _ _ t585 _ _ t593 false _ ?side1 ?side2 ?side3 ?side4 A33.out).mono ?_); (case side1 => exact cz (Kd.R_reads' HO587.out).2.2); (case side2 => exact (Kd.R_reads' HO587.out).2.1); (case side3 => exact cz (Kd.R_reads' HO595.out).2.2); (case side4 => exact (Kd.R_reads' HO595.out).2.1); rintro e w70 ⟨rfl, hb⟩; refine ⟨_, rfl, ?_⟩; replace HO577 := qz HO577 hb; replace HO580 := qz HO580 hb; replace HO584 := qz HO584 hb; replace HO587 := qz HO587 hb; replace HO591 := qz HO591 hb; replace HO595 := qz HO595 hb; replace HB := Aside0.mk (below_step (bz0 HB.out) hb); (try clear hb); (try clear hi)))
      go_ret
      exact ⟨gz, (bz0 HB.out)⟩
    ·replace c31 := Bool.eq_false_iff.mpr c31
     subst c31
     have H1 := hq H
     clear H
     have H := H1
     clear H1
     obtain rfl := Option.some.inj H
     go_enter Tryd.func8, Tryd.ntmps8
     go_wp2_with (first | ((with_reducible refine gate_callee (f := 10) rfl ?_); refine goesL_ (some 12) rfl rfl Tryd.func10 (by kernel_rfl) rfl #[.slice A0 l0.length c0, .int .i64 1048576] rfl lz ?_; (with_reducible refine (laws_szNodeS.calls k _ _ l0 1048576 t573 _ ?side1 ?side2 A3.out).mono ?_); (case side1 => repeat (first | exact HR0.out | (with_reducible refine Kd.C_alloc ?_ _) | (with_reducible refine Kd.C_drewN ?_ _) | (with_reducible refine Kd.C_drew ?_))); (case side2 => exact HC0.out); rintro e w71 ⟨rfl, hb⟩; refine ⟨_, rfl, ?_⟩; replace HB := Aside0.mk (below_step (bz0 HB.out) hb); (try clear hb); (try clear hi)) | ((with_reducible refine gate_callee (f := 10) rfl ?_); refine goesL_ (some 17) rfl rfl Tryd.func10 (by kernel_rfl) rfl #[.slice A1 l1.length c1, .int .i64 t573] rfl lz ?_; (with_reducible refine (laws_szNodeS.calls k _ _ l1 t573 t574 _ ?side1 ?side2 A6.out).mono ?_); (case side1 => exact cz (Kd.C_below HR1.out HB.out)); (case side2 => exact HC1.out); rintro e w72 ⟨rfl, hb⟩; refine ⟨_, rfl, ?_⟩; replace HB := Aside0.mk (below_step (bz0 HB.out) hb); (try clear hb); (try clear hi)) | ((with_reducible refine gate_callee (f := 12) rfl ?_); refine goesL_ (some 21) rfl rfl Tryd.func12 (by kernel_rfl) rfl #[.slice A0 l0.length c0] rfl lz ?_; (with_reducible refine (laws_toNodeS.calls k _ _ l0 t575 _ ?side1 ?side2 A10.out).mono ?_); (case side1 => exact cz (Kd.C_below HR0.out HB.out)); (case side2 => exact HC0.out); rintro e w73 ⟨v576, rfl, ho0, hb⟩; refine ⟨_, rfl, ?_⟩; have HO577 := Aside0.mk (Kd.R_lower ho0 (below_size (bz0 HB.out))); replace HB := Aside0.mk (below_step (bz0 HB.out) hb); (try clear hb); (try clear ho0)) | ((with_reducible refine gate_callee (f := 12) rfl ?_); refine goesL_ (some 23) rfl rfl Tryd.func12 (by kernel_rfl) rfl #[.slice A1 l1.length c1] rfl lz ?_; (with_reducible refine (laws_toNodeS.calls k _ _ l1 t578 _ ?side1 ?side2 A11.out).mono ?_); (case side1 => exact cz (Kd.C_below HR1.out HB.out)); (case side2 => exact HC1.out); rintro e w74 ⟨v579, rfl, ho0, hb⟩; refine ⟨_, rfl, ?_⟩; have HO580 := Aside0.mk (Kd.R_lower (Kd.R_new' ho0 (Kd.R_lt (rz HO577.out))) (below_size (bz0 HB.out))); replace HO577 := Aside0.mk (Kd.R_elder' (rz HO577.out) (Kd.R_base ho0) hb); replace HB := Aside0.mk (below_step (bz0 HB.out) hb); (try clear hb); (try clear ho0); obtain ⟨Ao75, co75, eo75⟩ := Kd.R_slice HO577.out; subst eo75; obtain ⟨Ao76, co76, eo76⟩ := Kd.R_slice HO580.out; subst eo76) | ((with_reducible refine gate_callee (f := 27) rfl ?_); refine goesL_ (some 24) rfl rfl Tryd.func27 (by kernel_rfl) rfl #[.slice Ao75 t575.length co75, .slice Ao76 t578.length co76] rfl lz ?_; (with_reducible refine (spec_AlphaSame.calls k _ _ t575 _ _ t578 t581 _ ?side1 ?side2 ?side3 ?side4 A12.out).mono ?_); (case side1 => exact cz (Kd.R_reads' HO577.out).2.2); (case side2 => exact (Kd.R_reads' HO577.out).2.1); (case side3 => exact cz (Kd.R_reads' HO580.out).2.2); (case side4 => exact (Kd.R_reads' HO580.out).2.1); rintro e w77 ⟨rfl, hb⟩; refine ⟨_, rfl, ?_⟩; replace HO577 := qz HO577 hb; replace HO580 := qz HO580 hb; replace HB := Aside0.mk (below_step (bz0 HB.out) hb); (try clear hb); (try clear hi)) | ((with_reducible refine gate_callee (f := 12) rfl ?_); refine goesL_ (some 26) rfl rfl Tryd.func12 (by kernel_rfl) rfl #[.slice A0 l0.length c0] rfl lz ?_; (with_reducible refine (laws_toNodeS.calls k _ _ l0 t582 _ ?side1 ?side2 A13.out).mono ?_); (case side1 => exact cz (Kd.C_below HR0.out HB.out)); (case side2 => exact HC0.out); rintro e w78 ⟨v583, rfl, ho0, hb⟩; refine ⟨_, rfl, ?_⟩; have HO584 := Aside0.mk (Kd.R_lower (Kd.R_new' (Kd.R_new' ho0 (Kd.R_lt (rz HO577.out))) (Kd.R_lt (rz HO580.out))) (below_size (bz0 HB.out))); replace HO577 := Aside0.mk (Kd.R_elder' (rz HO577.out) (Kd.R_base ho0) hb); replace HO580 := Aside0.mk (Kd.R_elder' (rz HO580.out) (Kd.R_base ho0) hb); replace HB := Aside0.mk (below_step (bz0 HB.out) hb); (try clear hb); (try clear ho0)) | ((with_reducible refine gate_callee (f := 12) rfl ?_); refine goesL_ (some 28) rfl rfl Tryd.func12 (by kernel_rfl) rfl #[.slice A1 l1.length c1] rfl lz ?_; (with_reducible refine (laws_toNodeS.calls k _ _ l1 t585 _ ?side1 ?side2 A14.out).mono ?_); (case side1 => exact cz (Kd.C_below HR1.out HB.out)); (case side2 => exact HC1.out); rintro e w79 ⟨v586, rfl, ho0, hb⟩; refine ⟨_, rfl, ?_⟩; have HO587 := Aside0.mk (Kd.R_lower (Kd.R_new' (Kd.R_new' (Kd.R_new' ho0 (Kd.R_lt (rz HO577.out))) (Kd.R_lt (rz HO580.out))) (Kd.R_lt (rz HO584.out))) (below_size (bz0 HB.out))); replace HO577 := Aside0.mk (Kd.R_elder' (rz HO577.out) (Kd.R_base ho0) hb); replace HO580 := Aside0.mk (Kd.R_elder' (rz HO580.out) (Kd.R_base ho0) hb); replace HO584 := Aside0.mk (Kd.R_elder' (rz HO584.out) (Kd.R_base ho0) hb); replace HB := Aside0.mk (below_step (bz0 HB.out) hb); (try clear hb); (try clear ho0); obtain ⟨Ao80, co80, eo80⟩ := Kd.R_slice HO584.out; subst eo80; obtain ⟨Ao81, co81, eo81⟩ := Kd.R_slice HO587.out; subst eo81) | ((with_reducible refine gate_callee (f := 28) rfl ?_); refine goesL_ (some 31) rfl rfl Tryd.func28 (by kernel_rfl) rfl #[.slice Ao80 t582.length co80, .slice Ao81 t585.length co81] rfl lz ?_; (with_reducible refine (impl_AlphaSame.calls k _ _ t582 _ _ t585 t588 _ ?side1 ?side2 ?side3 ?side4 A15.out).mono ?_); (case side1 => exact cz (Kd.R_reads' HO584.out).2.2); (case side2 => exact (Kd.R_reads' HO584.out).2.1); (case side3 => exact cz (Kd.R_reads' HO587.out).2.2); (case side4 => exact (Kd.R_reads' HO587.out).2.1); rintro e w82 ⟨rfl, hb⟩; refine ⟨_, rfl, ?_⟩; replace HO577 := qz HO577 hb; replace HO580 := qz HO580 hb; replace HO584 := qz HO584 hb; replace HO587 := qz HO587 hb; replace HB := Aside0.mk (below_step (bz0 HB.out) hb); (try clear hb); (try clear hi)) | ((with_reducible refine gate_callee (f := 12) rfl ?_); refine goesL_ (some 37) rfl rfl Tryd.func12 (by kernel_rfl) rfl #[.slice A0 l0.length c0] rfl lz ?_; (with_reducible refine (laws_toNodeS.calls k _ _ l0 t589 _ ?side1 ?side2 A29.out).mono ?_); (case side1 => exact cz (Kd.C_below HR0.out HB.out)); (case side2 => exact HC0.out); rintro e w83 ⟨v590, rfl, ho0, hb⟩; refine ⟨_, rfl, ?_⟩; have HO591 := Aside0.mk (Kd.R_lower (Kd.R_new' (Kd.R_new' (Kd.R_new' (Kd.R_new' ho0 (Kd.R_lt (rz HO577.out))) (Kd.R_lt (rz HO580.out))) (Kd.R_lt (rz HO584.out))) (Kd.R_lt (rz HO587.out))) (below_size (bz0 HB.out))); replace HO577 := Aside0.mk (Kd.R_elder' (rz HO577.out) (Kd.R_base ho0) hb); replace HO580 := Aside0.mk (Kd.R_elder' (rz HO580.out) (Kd.R_base ho0) hb); replace HO584 := Aside0.mk (Kd.R_elder' (rz HO584.out) (Kd.R_base ho0) hb); replace HO587 := Aside0.mk (Kd.R_elder' (rz HO587.out) (Kd.R_base ho0) hb); replace HB := Aside0.mk (below_step (bz0 HB.out) hb); (try clear hb); (try clear ho0); obtain ⟨Ao84, co84, eo84⟩ := Kd.R_slice HO591.out; subst eo84) | ((with_reducible refine gate_callee (f := 14) rfl ?_); refine goesL_ (some 38) rfl rfl Tryd.func14 (by kernel_rfl) rfl #[.slice Ao80 t582.length co80, .slice Ao84 t589.length co84] rfl lz ?_; (with_reducible refine (laws_eqNodeS.calls k _ _ t582 _ _ t589 false _ ?side1 ?side2 ?side3 ?side4 A30.out).mono ?_); (case side1 => exact cz (Kd.R_reads' HO584.out).2.2); (case side2 => exact (Kd.R_reads' HO584.out).2.1); (case side3 => exact cz (Kd.R_reads' HO591.out).2.2); (case side4 => exact (Kd.R_reads' HO591.out).2.1); rintro e w85 ⟨rfl, hb⟩; refine ⟨_, rfl, ?_⟩; replace HO577 := qz HO577 hb; replace HO580 := qz HO580 hb; replace HO584 := qz HO584 hb; replace HO587 := qz HO587 hb; replace HO591 := qz HO591 hb; replace HB := Aside0.mk (below_step (bz0 HB.out) hb); (try clear hb); (try clear hi)))
     go_ret
     exact ⟨gz, (bz0 HB.out)⟩
end Go.Proofs.YtmilegjmiiccdaaDoor.PFnExactAlphaSame
