/- PFnExactUsesOfx18, of the words and walks that the law FnExactUsesOf needs; made by this session's program out of printed texts. -/

import Derived.Test.YthmkeimngfboiaaDoorVEUsesOfPx0
import Derived.Test.YthmkeimngfboiaaDoorVEUsesOfPx2
import Derived.Test.YthmkeimngfboiaaDoorVEUsesOfPx3
import Derived.Test.YthmkeimngfboiaaDoorVEUsesOfPx9
import Derived.Test.YthmkeimngfboiaaDoorVEUsesOfPx16
import Derived.Test.YthmkeimngfboiaaDoorVEUsesOfPx17
namespace Go.Proofs.YthmkeimngfboiaaDoor.PFnExactUsesOf
open Go.RowKit Go.Proofs.YthmkeimngfboiaaDoorW.PrintWords Go.Proofs.YthmkeimngfboiaaDoorW.PrintLast Go.Proofs.YthmkeimngfboiaaDoorW.PrintMore
attribute [local go_sem] max2_int min2_int max_two min_two max_three min_three max_four min_four
set_option linter.unusedVariables false
set_option linter.unusedSimpArgs false
def laws_FnExactUsesOf.j0 : Nat → List (S50) → List Int → List Int → Bool → Int → Int → Option (Bool)
 | 0, _, _, _, _, _, _ => none
 | k + 1, x0, x6, x8, x48, x420000, x420001 => if x48 = true then (some false) else ((laws_markIntS.f k x8 1).bind fun bt445 => ((laws_heldIntS.f k bt445.2 1).bind fun t447 => (if t447 < 0 then (some false) else (if t447 = bt445.1 then ((laws_toNodeS.f k x0).bind fun t448 => ((laws_toBind.f x420000 x420001).bind fun bt451 => ((impl_UsesOf.f k t448 bt451.1 bt451.2).bind fun t453 => ((laws_eqIntS.f k t453 x6).bind fun t456 => (if t456 = true then ((laws_heldIntS.f k bt445.2 1).bind fun t457 => (if t457 < 0 then (some false) else (if t457 = bt445.1 then (some true) else (some false)))) else (some false)))))) else (some false)))))
def laws_FnExactUsesOf.f (k : Nat) (l0 : List (S50)) (a1_0 : Int) (a1_1 : Int) : Option (Bool) := (laws_szNodeS.f k l0 1048576).bind fun t420 => (if t420 < 0 then (some true) else ((laws_toNodeS.f k l0).bind fun t421 => ((laws_toBind.f a1_0 a1_1).bind fun bt424 => ((spec_UsesOf.f k t421 bt424.1 bt424.2).bind fun t426 => ((laws_toNodeS.f k l0).bind fun t429 => ((laws_toBind.f a1_0 a1_1).bind fun bt432 => ((impl_UsesOf.f k t429 bt432.1 bt432.2).bind fun t434 => ((laws_eqIntS.f k t434 t426).bind fun t437 => (if t437 = true then ((laws_toNodeS.f k l0).bind fun t438 => ((laws_eqNodeS.f k t429 t438).bind fun t441 => (if t441 = true then ((laws_markNodeS.f k t429 1).bind fun bt442 => (if bt442.1 < 0 then (laws_FnExactUsesOf.j0 k l0 t426 t434 true a1_0 a1_1) else ((laws_eqIntS.f k t434 t426).bind fun t444 => (laws_FnExactUsesOf.j0 k l0 t426 t434 (!t444) a1_0 a1_1)))) else (some false)))) else (some false))))))))))
theorem laws_FnExactUsesOf.mono_l : ∀ k, (∀ y0 y1 y2 y3 y4 y5, LeO (laws_FnExactUsesOf.j0 k y0 y1 y2 y3 y4 y5) (laws_FnExactUsesOf.j0 (k + 1) y0 y1 y2 y3 y4 y5))
 | 0 => fun _ _ _ _ _ _ r h => by simp [laws_FnExactUsesOf.j0] at h
 | k + 1 => by
  have ih0 := laws_FnExactUsesOf.mono_l k
  ·intro y0 y1 y2 y3 y4 y5
   unfold laws_FnExactUsesOf.j0
   repeat' first
   | (with_reducible exact ih0 _ _ _ _ _ _)
   | (with_reducible exact impl_UsesOf.mono _ _ _ _)
   | (with_reducible exact laws_eqIntS.mono _ _ _)
   | (with_reducible exact laws_eqNodeS.mono _ _ _)
   | (with_reducible exact laws_heldIntS.mono _ _ _)
   | (with_reducible exact laws_markIntS.mono _ _ _)
   | (with_reducible exact laws_markNodeS.mono _ _ _)
   | (with_reducible exact laws_szNodeS.mono _ _ _)
   | (with_reducible exact laws_toNodeS.mono _ _)
   | (with_reducible exact spec_UsesOf.mono _ _ _ _)
   | (with_reducible exact LeO.refl _)
   | (with_reducible exact LeO.none _)
   | (with_reducible refine LeO.ite ?_ ?_)
   | (with_reducible refine LeO.bind ?_ (fun _ => ?_))
   | exact ih0 _ _ _ _ _ _
   | exact impl_UsesOf.mono _ _ _ _
   | exact laws_eqIntS.mono _ _ _
   | exact laws_eqNodeS.mono _ _ _
   | exact laws_heldIntS.mono _ _ _
   | exact laws_markIntS.mono _ _ _
   | exact laws_markNodeS.mono _ _ _
   | exact laws_szNodeS.mono _ _ _
   | exact laws_toNodeS.mono _ _
   | exact spec_UsesOf.mono _ _ _ _
   | exact LeO.none _
   | refine LeO.ite ?_ ?_
   | refine LeO.bind ?_ (fun _ => ?_)
theorem laws_FnExactUsesOf.mono : ∀ a0 a1 a2 k, LeO (laws_FnExactUsesOf.f k a0 a1 a2) (laws_FnExactUsesOf.f (k + 1) a0 a1 a2) := by
 intro a0 a1 a2 k
 have ih0 := laws_FnExactUsesOf.mono_l k
 unfold laws_FnExactUsesOf.f
 repeat' first
   | (with_reducible exact ih0 _ _ _ _ _ _)
   | (with_reducible exact impl_UsesOf.mono _ _ _ _)
   | (with_reducible exact laws_eqIntS.mono _ _ _)
   | (with_reducible exact laws_eqNodeS.mono _ _ _)
   | (with_reducible exact laws_heldIntS.mono _ _ _)
   | (with_reducible exact laws_markIntS.mono _ _ _)
   | (with_reducible exact laws_markNodeS.mono _ _ _)
   | (with_reducible exact laws_szNodeS.mono _ _ _)
   | (with_reducible exact laws_toNodeS.mono _ _)
   | (with_reducible exact spec_UsesOf.mono _ _ _ _)
   | (with_reducible exact LeO.refl _)
   | (with_reducible exact LeO.none _)
   | (with_reducible refine LeO.ite ?_ ?_)
   | (with_reducible refine LeO.bind ?_ (fun _ => ?_))
   | exact ih0 _ _ _ _ _ _
   | exact impl_UsesOf.mono _ _ _ _
   | exact laws_eqIntS.mono _ _ _
   | exact laws_eqNodeS.mono _ _ _
   | exact laws_heldIntS.mono _ _ _
   | exact laws_markIntS.mono _ _ _
   | exact laws_markNodeS.mono _ _ _
   | exact laws_szNodeS.mono _ _ _
   | exact laws_toNodeS.mono _ _
   | exact spec_UsesOf.mono _ _ _ _
   | exact LeO.none _
   | refine LeO.ite ?_ ?_
   | refine LeO.bind ?_ (fun _ => ?_)
set_option maxHeartbeats 8000000 in
set_option maxRecDepth 100000 in
theorem laws_FnExactUsesOf.calls (k : Nat) (A0 : Option Addr) (c0 : Nat) (l0 : List (S50)) (a1_0 : Int) (a1_1 : Int) (r : Bool) (w : World) (hr0 : Kd.C k50 w A0 l0.length l0) (hc0 : l0.length ≤ c0) (h : laws_FnExactUsesOf.f k l0 a1_0 a1_1 = some r) :
  Calls Tryd.prog 10 #[.slice A0 l0.length c0, .agg #[.int .i64 a1_0, .int .i64 a1_1]] w fun e w' => e = .returned (.bool r) ∧ Below w.heap.size w w' := by
 have hu41 := Tryd.underlying41
 have HR0 := Aside0.mk hr0
 have HC0 := Aside0.mk hc0
 clear hr0 hc0
 have HB := Aside0.mk (Below.refl w.heap.size w)
 have H : ((laws_szNodeS.f k l0 1048576).bind fun t420 => (if t420 < 0 then (some true) else ((laws_toNodeS.f k l0).bind fun t421 => ((laws_toBind.f a1_0 a1_1).bind fun bt424 => ((spec_UsesOf.f k t421 bt424.1 bt424.2).bind fun t426 => ((laws_toNodeS.f k l0).bind fun t429 => ((laws_toBind.f a1_0 a1_1).bind fun bt432 => ((impl_UsesOf.f k t429 bt432.1 bt432.2).bind fun t434 => ((laws_eqIntS.f k t434 t426).bind fun t437 => (if t437 = true then ((laws_toNodeS.f k l0).bind fun t438 => ((laws_eqNodeS.f k t429 t438).bind fun t441 => (if t441 = true then ((laws_markNodeS.f k t429 1).bind fun bt442 => (if bt442.1 < 0 then (laws_FnExactUsesOf.j0 k l0 t426 t434 true a1_0 a1_1) else ((laws_eqIntS.f k t434 t426).bind fun t444 => (laws_FnExactUsesOf.j0 k l0 t426 t434 (!t444) a1_0 a1_1)))) else (some false)))) else (some false))))))))))) = some r := h
 clear h
 replace H := Option.bind_eq_some_iff.mp H
 obtain ⟨t420, A30, H⟩ := H
 replace H : (if t420 < 0 then (some true) else ((laws_toNodeS.f k l0).bind fun t421 => ((laws_toBind.f a1_0 a1_1).bind fun bt424 => ((spec_UsesOf.f k t421 bt424.1 bt424.2).bind fun t426 => ((laws_toNodeS.f k l0).bind fun t429 => ((laws_toBind.f a1_0 a1_1).bind fun bt432 => ((impl_UsesOf.f k t429 bt432.1 bt432.2).bind fun t434 => ((laws_eqIntS.f k t434 t426).bind fun t437 => (if t437 = true then ((laws_toNodeS.f k l0).bind fun t438 => ((laws_eqNodeS.f k t429 t438).bind fun t441 => (if t441 = true then ((laws_markNodeS.f k t429 1).bind fun bt442 => (if bt442.1 < 0 then (laws_FnExactUsesOf.j0 k l0 t426 t434 true a1_0 a1_1) else ((laws_eqIntS.f k t434 t426).bind fun t444 => (laws_FnExactUsesOf.j0 k l0 t426 t434 (!t444) a1_0 a1_1)))) else (some false)))) else (some false)))))))))) = some r := H
 have A3 := Aside0.mk A30
 clear A30
 by_cases c4 : t420 < 0
 ·rw [if_pos c4] at H
  have c4b0 : decide (t420 < 0) = true := decide_eq_true c4
  clear c4
  obtain rfl := Option.some.inj H
  go_enter Tryd.func10, Tryd.ntmps10
  go_wp2_with (first | ((with_reducible refine gate_dst (N := 3) rfl ?_); refine box_event ?hg (N := 3) ?hd (cs := #[.int .i64 a1_0, .int .i64 a1_1]) (t := 41) ?hr ?_; (case hd => rfl); (case hg => rfl); (case hr => first | (go_simp; done) | (go_simp; rfl)); intro gb419 hg w5 hbox hb; have n0_ := Aside0.mk (below_step (bz0 HB.out) hb); have n1_ := Aside0.mk (hbox); have n2_ := Aside0.mk ((by rw [hg]; exact (below_size (bz0 HB.out)) : w.heap.size ≤ gb419)); have n3_ := Aside0.mk ((by rw [hg]; exact (below_size (bz0 HB.out)) : w.heap.size ≤ gb419)); clear HB; have HB := n0_; have BK419 := n1_; have GW419 := n2_; have GE419 := n3_; clear n0_ n1_ n2_ n3_; clear hb hbox hg) | ((with_reducible refine gate_callee (f := 11) rfl ?_); refine goesL_ (some 15) rfl rfl Tryd.func11 (by kernel_rfl) rfl #[.slice A0 l0.length c0, .int .i64 1048576] rfl lz ?_; (with_reducible refine (laws_szNodeS.calls k _ _ l0 1048576 t420 _ ?side1 ?side2 A3.out).mono ?_); (case side1 => exact cz (Kd.C_below HR0.out HB.out)); (case side2 => exact HC0.out); rintro e w6 ⟨rfl, hb⟩; refine ⟨_, rfl, ?_⟩; have n0_ := Aside0.mk (blk_below (g := gb419) (o := .cells #[.int .i64 a1_0, .int .i64 a1_1] 41 (0, 0)) (kz BK419.out) hb); have n1_ := Aside0.mk (below_step (bz1 HB.out GE419.out) hb); clear BK419; clear HB; have BK419 := n0_; have HB := n1_; clear n0_ n1_; (try clear hb); (try clear hb2); (try clear hk); (try clear hi)))
  go_ret
  exact ⟨gz, (bz1 HB.out GE419.out)⟩
 ·rw [if_neg c4] at H
  have c4b0 : decide (t420 < 0) = false := decide_eq_false c4
  clear c4
  replace H := Option.bind_eq_some_iff.mp H
  obtain ⟨t421, A70, H⟩ := H
  replace H : ((laws_toBind.f a1_0 a1_1).bind fun bt424 => ((spec_UsesOf.f k t421 bt424.1 bt424.2).bind fun t426 => ((laws_toNodeS.f k l0).bind fun t429 => ((laws_toBind.f a1_0 a1_1).bind fun bt432 => ((impl_UsesOf.f k t429 bt432.1 bt432.2).bind fun t434 => ((laws_eqIntS.f k t434 t426).bind fun t437 => (if t437 = true then ((laws_toNodeS.f k l0).bind fun t438 => ((laws_eqNodeS.f k t429 t438).bind fun t441 => (if t441 = true then ((laws_markNodeS.f k t429 1).bind fun bt442 => (if bt442.1 < 0 then (laws_FnExactUsesOf.j0 k l0 t426 t434 true a1_0 a1_1) else ((laws_eqIntS.f k t434 t426).bind fun t444 => (laws_FnExactUsesOf.j0 k l0 t426 t434 (!t444) a1_0 a1_1)))) else (some false)))) else (some false)))))))) = some r := H
  have A7 := Aside0.mk A70
  clear A70
  replace H := Option.bind_eq_some_iff.mp H
  obtain ⟨⟨t424, t425⟩, A80, H⟩ := H
  replace H : ((spec_UsesOf.f k t421 t424 t425).bind fun t426 => ((laws_toNodeS.f k l0).bind fun t429 => ((laws_toBind.f a1_0 a1_1).bind fun bt432 => ((impl_UsesOf.f k t429 bt432.1 bt432.2).bind fun t434 => ((laws_eqIntS.f k t434 t426).bind fun t437 => (if t437 = true then ((laws_toNodeS.f k l0).bind fun t438 => ((laws_eqNodeS.f k t429 t438).bind fun t441 => (if t441 = true then ((laws_markNodeS.f k t429 1).bind fun bt442 => (if bt442.1 < 0 then (laws_FnExactUsesOf.j0 k l0 t426 t434 true a1_0 a1_1) else ((laws_eqIntS.f k t434 t426).bind fun t444 => (laws_FnExactUsesOf.j0 k l0 t426 t434 (!t444) a1_0 a1_1)))) else (some false)))) else (some false))))))) = some r := H
  have A8 := Aside0.mk A80
  clear A80
  replace H := Option.bind_eq_some_iff.mp H
  obtain ⟨t426, A90, H⟩ := H
  replace H : ((laws_toNodeS.f k l0).bind fun t429 => ((laws_toBind.f a1_0 a1_1).bind fun bt432 => ((impl_UsesOf.f k t429 bt432.1 bt432.2).bind fun t434 => ((laws_eqIntS.f k t434 t426).bind fun t437 => (if t437 = true then ((laws_toNodeS.f k l0).bind fun t438 => ((laws_eqNodeS.f k t429 t438).bind fun t441 => (if t441 = true then ((laws_markNodeS.f k t429 1).bind fun bt442 => (if bt442.1 < 0 then (laws_FnExactUsesOf.j0 k l0 t426 t434 true a1_0 a1_1) else ((laws_eqIntS.f k t434 t426).bind fun t444 => (laws_FnExactUsesOf.j0 k l0 t426 t434 (!t444) a1_0 a1_1)))) else (some false)))) else (some false)))))) = some r := H
  have A9 := Aside0.mk A90
  clear A90
  replace H := Option.bind_eq_some_iff.mp H
  obtain ⟨t429, A100, H⟩ := H
  replace H : ((laws_toBind.f a1_0 a1_1).bind fun bt432 => ((impl_UsesOf.f k t429 bt432.1 bt432.2).bind fun t434 => ((laws_eqIntS.f k t434 t426).bind fun t437 => (if t437 = true then ((laws_toNodeS.f k l0).bind fun t438 => ((laws_eqNodeS.f k t429 t438).bind fun t441 => (if t441 = true then ((laws_markNodeS.f k t429 1).bind fun bt442 => (if bt442.1 < 0 then (laws_FnExactUsesOf.j0 k l0 t426 t434 true a1_0 a1_1) else ((laws_eqIntS.f k t434 t426).bind fun t444 => (laws_FnExactUsesOf.j0 k l0 t426 t434 (!t444) a1_0 a1_1)))) else (some false)))) else (some false))))) = some r := H
  have A10 := Aside0.mk A100
  clear A100
  replace H := Option.bind_eq_some_iff.mp H
  obtain ⟨⟨t432, t433⟩, A110, H⟩ := H
  replace H : ((impl_UsesOf.f k t429 t432 t433).bind fun t434 => ((laws_eqIntS.f k t434 t426).bind fun t437 => (if t437 = true then ((laws_toNodeS.f k l0).bind fun t438 => ((laws_eqNodeS.f k t429 t438).bind fun t441 => (if t441 = true then ((laws_markNodeS.f k t429 1).bind fun bt442 => (if bt442.1 < 0 then (laws_FnExactUsesOf.j0 k l0 t426 t434 true a1_0 a1_1) else ((laws_eqIntS.f k t434 t426).bind fun t444 => (laws_FnExactUsesOf.j0 k l0 t426 t434 (!t444) a1_0 a1_1)))) else (some false)))) else (some false)))) = some r := H
  have A11 := Aside0.mk A110
  clear A110
  replace H := Option.bind_eq_some_iff.mp H
  obtain ⟨t434, A120, H⟩ := H
  replace H : ((laws_eqIntS.f k t434 t426).bind fun t437 => (if t437 = true then ((laws_toNodeS.f k l0).bind fun t438 => ((laws_eqNodeS.f k t429 t438).bind fun t441 => (if t441 = true then ((laws_markNodeS.f k t429 1).bind fun bt442 => (if bt442.1 < 0 then (laws_FnExactUsesOf.j0 k l0 t426 t434 true a1_0 a1_1) else ((laws_eqIntS.f k t434 t426).bind fun t444 => (laws_FnExactUsesOf.j0 k l0 t426 t434 (!t444) a1_0 a1_1)))) else (some false)))) else (some false))) = some r := H
  have A12 := Aside0.mk A120
  clear A120
  replace H := Option.bind_eq_some_iff.mp H
  obtain ⟨t437, A130, H⟩ := H
  replace H : (if t437 = true then ((laws_toNodeS.f k l0).bind fun t438 => ((laws_eqNodeS.f k t429 t438).bind fun t441 => (if t441 = true then ((laws_markNodeS.f k t429 1).bind fun bt442 => (if bt442.1 < 0 then (laws_FnExactUsesOf.j0 k l0 t426 t434 true a1_0 a1_1) else ((laws_eqIntS.f k t434 t426).bind fun t444 => (laws_FnExactUsesOf.j0 k l0 t426 t434 (!t444) a1_0 a1_1)))) else (some false)))) else (some false)) = some r := H
  have A13 := Aside0.mk A130
  clear A130
  by_cases c14 : t437 = true
  ·subst c14
   have H1 : ((laws_toNodeS.f k l0).bind fun t438 => ((laws_eqNodeS.f k t429 t438).bind fun t441 => (if t441 = true then ((laws_markNodeS.f k t429 1).bind fun bt442 => (if bt442.1 < 0 then (laws_FnExactUsesOf.j0 k l0 t426 t434 true a1_0 a1_1) else ((laws_eqIntS.f k t434 t426).bind fun t444 => (laws_FnExactUsesOf.j0 k l0 t426 t434 (!t444) a1_0 a1_1)))) else (some false)))) = some r := by rw [if_pos rfl] at H; exact H
   clear H
   have H := H1
   clear H1
   replace H := Option.bind_eq_some_iff.mp H
   obtain ⟨t438, A150, H⟩ := H
   replace H : ((laws_eqNodeS.f k t429 t438).bind fun t441 => (if t441 = true then ((laws_markNodeS.f k t429 1).bind fun bt442 => (if bt442.1 < 0 then (laws_FnExactUsesOf.j0 k l0 t426 t434 true a1_0 a1_1) else ((laws_eqIntS.f k t434 t426).bind fun t444 => (laws_FnExactUsesOf.j0 k l0 t426 t434 (!t444) a1_0 a1_1)))) else (some false))) = some r := H
   have A15 := Aside0.mk A150
   clear A150
   replace H := Option.bind_eq_some_iff.mp H
   obtain ⟨t441, A160, H⟩ := H
   replace H : (if t441 = true then ((laws_markNodeS.f k t429 1).bind fun bt442 => (if bt442.1 < 0 then (laws_FnExactUsesOf.j0 k l0 t426 t434 true a1_0 a1_1) else ((laws_eqIntS.f k t434 t426).bind fun t444 => (laws_FnExactUsesOf.j0 k l0 t426 t434 (!t444) a1_0 a1_1)))) else (some false)) = some r := H
   have A16 := Aside0.mk A160
   clear A160
   by_cases c17 : t441 = true
   ·subst c17
    have H1 : ((laws_markNodeS.f k t429 1).bind fun bt442 => (if bt442.1 < 0 then (laws_FnExactUsesOf.j0 k l0 t426 t434 true a1_0 a1_1) else ((laws_eqIntS.f k t434 t426).bind fun t444 => (laws_FnExactUsesOf.j0 k l0 t426 t434 (!t444) a1_0 a1_1)))) = some r := by rw [if_pos rfl] at H; exact H
    clear H
    have H := H1
    clear H1
    replace H := Option.bind_eq_some_iff.mp H
    obtain ⟨⟨t442, t443⟩, A180, H⟩ := H
    replace H : (if t442 < 0 then (laws_FnExactUsesOf.j0 k l0 t426 t434 true a1_0 a1_1) else ((laws_eqIntS.f k t434 t426).bind fun t444 => (laws_FnExactUsesOf.j0 k l0 t426 t434 (!t444) a1_0 a1_1))) = some r := H
    have A18 := Aside0.mk A180
    clear A180
    have HC19 := Aside0.mk H
    clear H
    go_enter Tryd.func10, Tryd.ntmps10
    try go_wp2_with (first | ((with_reducible refine gate_dst (N := 3) rfl ?_); refine box_event ?hg (N := 3) ?hd (cs := #[.int .i64 a1_0, .int .i64 a1_1]) (t := 41) ?hr ?_; (case hd => rfl); (case hg => rfl); (case hr => first | (go_simp; done) | (go_simp; rfl)); intro gb419 hg w20 hbox hb; have n0_ := Aside0.mk (below_step (bz0 HB.out) hb); have n1_ := Aside0.mk (hbox); have n2_ := Aside0.mk ((by rw [hg]; exact (below_size (bz0 HB.out)) : w.heap.size ≤ gb419)); have n3_ := Aside0.mk ((by rw [hg]; exact (below_size (bz0 HB.out)) : w.heap.size ≤ gb419)); clear HB; have HB := n0_; have BK419 := n1_; have GW419 := n2_; have GE419 := n3_; clear n0_ n1_ n2_ n3_; clear hb hbox hg) | ((with_reducible refine gate_callee (f := 11) rfl ?_); refine goesL_ (some 15) rfl rfl Tryd.func11 (by kernel_rfl) rfl #[.slice A0 l0.length c0, .int .i64 1048576] rfl lz ?_; (with_reducible refine (laws_szNodeS.calls k _ _ l0 1048576 t420 _ ?side1 ?side2 A3.out).mono ?_); (case side1 => exact cz (Kd.C_below HR0.out HB.out)); (case side2 => exact HC0.out); rintro e w21 ⟨rfl, hb⟩; refine ⟨_, rfl, ?_⟩; have n0_ := Aside0.mk (blk_below (g := gb419) (o := .cells #[.int .i64 a1_0, .int .i64 a1_1] 41 (0, 0)) (kz BK419.out) hb); have n1_ := Aside0.mk (below_step (bz1 HB.out GE419.out) hb); clear BK419; clear HB; have BK419 := n0_; have HB := n1_; clear n0_ n1_; (try clear hb); (try clear hb2); (try clear hk); (try clear hi)))
    have n0_ := Aside0.mk (blk_drew BK419.out)
    have n1_ := Aside0.mk (below_drew1 HB.out)
    clear BK419
    clear HB
    have BK419 := n0_
    have HB := n1_
    clear n0_ n1_
    refine start_ (n := 6) (S := fun w' => w'.cell? ⟨gb419, 0, none⟩ = some (.int .i64 a1_0) ∧ w'.cell? ⟨gb419, 1, none⟩ = some (.int .i64 a1_1)) (ds := []) #[false, false, false, false, false, false] (by kernel_rfl) rfl rfl ⟨(blk_cell BK419.out 0).trans rfl, (blk_cell BK419.out 1).trans rfl⟩ (fun hHeld => ?_)
    generalize w21.drew = w22 at BK419 HB hHeld ⊢
    refine pure_ (i := 0) (N := some 18) (v := ?_) (a' := ?_) #[true, false, false, false, false, false] rfl rfl (by kernel_rfl) (fun _ _ _ h => h) (Or.inl ⟨by rfl, ?_⟩) ?_ ?_
    rotate_left
    ·intro w'
     go_simp
     with_reducible rfl
    rotate_left
    ·simp only [Act.put, List.setIfInBounds_toArray, List.set_cons_zero, List.set_cons_succ, i64_w, i32_w]
     rfl
    refine take_ (i := 2) (N := some 20) (v := ?_) (a' := ?_) #[true, false, true, false, false, false] rfl rfl (by kernel_rfl) (fun _ _ _ h => h) (Or.inl ⟨by rfl, ?_⟩) hHeld ?_ ?_
    rotate_left
    ·rintro w' ⟨s0, s1⟩
     go_simp
     with_reducible rfl
    rotate_left
    ·simp only [Act.put, List.setIfInBounds_toArray, List.set_cons_zero, List.set_cons_succ, i64_w, i32_w]
     rfl
    refine one_ (i := 1) (N := some 19) #[true, true, true, false, false, false] rfl rfl (by kernel_rfl) (by decide) (fun K hK => ?_)
    refine goes_ Tryd.func13 (by kernel_rfl) rfl #[.slice A0 l0.length c0] (by rfl) rfl rfl lz ?_
    with_reducible refine (laws_toNodeS.calls k _ _ l0 t421 _ ?side1 ?side2 A7.out).mono ?_
    (case side1 => exact cz (Kd.C_below HR0.out HB.out))
    (case side2 => exact HC0.out)
    rintro e w23 ⟨v422, rfl, ho0, hb⟩
    refine ⟨_, rfl, ?_⟩
    have n0_ := Aside0.mk (Kd.R_lower ho0 (below_size (bz1 HB.out GE419.out)))
    have n1_ := Aside0.mk (blk_below (g := gb419) (o := .cells #[.int .i64 a1_0, .int .i64 a1_1] 41 (0, 0)) (kz BK419.out) hb)
    have n2_ := Aside0.mk (below_step (bz1 HB.out GE419.out) hb)
    clear BK419
    clear HB
    have HO423 := n0_
    have BK419 := n1_
    have HB := n2_
    clear n0_ n1_ n2_
    (try clear hb)
    (try clear hb2)
    (try clear hk)
    (try clear hi)
    (try clear ho0)
    refine hK.out _ _ ⟨(blk_cell BK419.out 0).trans rfl, (blk_cell BK419.out 1).trans rfl⟩ (fun hHeld => ?_)
    clear hK K
    refine norm_ (a' := ?_) ?_ ?_
    rotate_left
    ·show Act.put _ (some 19) _ = _
     simp only [Act.put, List.setIfInBounds_toArray, List.set_cons_zero, List.set_cons_succ, i64_w, i32_w]
     rfl
    refine one_ (i := 3) (N := some 21) #[true, true, true, true, false, false] rfl rfl (by kernel_rfl) (by decide) (fun K hK => ?_)
    refine goes_ Tryd.func35 (by kernel_rfl) rfl #[.agg #[.int .i64 a1_0, .int .i64 a1_1]] (by rfl) rfl rfl lz ?_
    with_reducible refine (laws_toBind.calls a1_0 a1_1 t424 t425 _ A8.out).mono ?_
    rintro e w24 ⟨rfl, hb⟩
    refine ⟨_, rfl, ?_⟩
    have n0_ := Aside0.mk (Kd.R_below (rz HO423.out) hb)
    have n1_ := Aside0.mk (blk_below (g := gb419) (o := .cells #[.int .i64 a1_0, .int .i64 a1_1] 41 (0, 0)) (kz BK419.out) hb)
    have n2_ := Aside0.mk (below_step (bz1 HB.out GE419.out) hb)
    clear HO423
    clear BK419
    clear HB
    have HO423 := n0_
    have BK419 := n1_
    have HB := n2_
    clear n0_ n1_ n2_
    (try clear hb)
    (try clear hb2)
    (try clear hk)
    (try clear hi)
    obtain ⟨Ao25, co25, eo25⟩ := Kd.R_slice HO423.out
    (first | subst eo25 | (injection eo25 with f1_ f2_ f3_; have f4_ := f1_.symm; have f5_ := f3_.symm; clear f1_ f2_ f3_; subst f4_; subst f5_))
    refine hK.out _ _ ⟨(blk_cell BK419.out 0).trans rfl, (blk_cell BK419.out 1).trans rfl⟩ (fun hHeld => ?_)
    clear hK K
    refine norm_ (a' := ?_) ?_ ?_
    rotate_left
    ·show Act.put _ (some 21) _ = _
     simp only [Act.put, List.setIfInBounds_toArray, List.set_cons_zero, List.set_cons_succ, i64_w, i32_w]
     rfl
    refine one_ (i := 4) (N := some 22) #[true, true, true, true, true, false] rfl rfl (by kernel_rfl) (by decide) (fun K hK => ?_)
    refine goes_ Tryd.func34 (by kernel_rfl) rfl #[.slice Ao25 t421.length co25, .agg #[.int .i64 t424, .int .i64 t425]] (by rfl) rfl rfl lz ?_
    with_reducible refine (spec_UsesOf.calls k _ _ t421 t424 t425 t426 _ ?side1 ?side2 A9.out).mono ?_
    (case side1 => exact cz (Kd.R_reads' HO423.out).2.2)
    (case side2 => exact (Kd.R_reads' HO423.out).2.1)
    rintro e w26 ⟨v427, rfl, ho0, hb⟩
    refine ⟨_, rfl, ?_⟩
    have n0_ := Aside0.mk (Kd.R_below (rz HO423.out) hb)
    have n1_ := Aside0.mk (Kd.R_lower ho0 (below_size (bz1 HB.out GE419.out)))
    have n2_ := Aside0.mk (blk_below (g := gb419) (o := .cells #[.int .i64 a1_0, .int .i64 a1_1] 41 (0, 0)) (kz BK419.out) hb)
    have n3_ := Aside0.mk (below_step (bz1 HB.out GE419.out) hb)
    clear HO423
    clear BK419
    clear HB
    have HO423 := n0_
    have HO428 := n1_
    have BK419 := n2_
    have HB := n3_
    clear n0_ n1_ n2_ n3_
    (try clear hb)
    (try clear hb2)
    (try clear hk)
    (try clear hi)
    (try clear ho0)
    refine hK.out _ _ ⟨(blk_cell BK419.out 0).trans rfl, (blk_cell BK419.out 1).trans rfl⟩ (fun hHeld => ?_)
    clear hK K
    refine norm_ (a' := ?_) ?_ ?_
    rotate_left
    ·show Act.put _ (some 22) _ = _
     simp only [Act.put, List.setIfInBounds_toArray, List.set_cons_zero, List.set_cons_succ, i64_w, i32_w]
     rfl
    refine pure_ (i := 5) (N := some 6) (v := ?_) (a' := ?_) #[true, true, true, true, true, true] rfl rfl (by kernel_rfl) (fun _ _ _ h => h) (Or.inl ⟨by rfl, ?_⟩) ?_ ?_
    rotate_left
    ·intro w'
     go_simp
     with_reducible rfl
    rotate_left
    ·simp only [Act.put, List.setIfInBounds_toArray, List.set_cons_zero, List.set_cons_succ, i64_w, i32_w]
     rfl
    refine done_ (by kernel_rfl) ?_
    go_upto_region 14 with (first | ((with_reducible refine gate_callee (f := 13) rfl ?_); refine goesL_ (some 24) rfl rfl Tryd.func13 (by kernel_rfl) rfl #[.slice A0 l0.length c0] rfl lz ?_; (with_reducible refine (laws_toNodeS.calls k _ _ l0 t429 _ ?side1 ?side2 A10.out).mono ?_); (case side1 => exact cz (Kd.C_below HR0.out HB.out)); (case side2 => exact HC0.out); rintro e w27 ⟨v430, rfl, ho0, hb⟩; refine ⟨_, rfl, ?_⟩; have n0_ := Aside0.mk (Kd.R_elder' (rz HO423.out) (Kd.R_base ho0) hb); have n1_ := Aside0.mk (Kd.R_below (rz HO428.out) hb); have n2_ := Aside0.mk (Kd.R_lower (Kd.R_new' ho0 (Kd.R_lt (rz HO423.out))) (below_size (bz1 HB.out GE419.out))); have n3_ := Aside0.mk (blk_below (g := gb419) (o := .cells #[.int .i64 a1_0, .int .i64 a1_1] 41 (0, 0)) (kz BK419.out) hb); have n4_ := Aside0.mk (below_step (bz1 HB.out GE419.out) hb); clear HO423; clear HO428; clear BK419; clear HB; have HO423 := n0_; have HO428 := n1_; have HO431 := n2_; have BK419 := n3_; have HB := n4_; clear n0_ n1_ n2_ n3_ n4_; (try clear hb); (try clear hb2); (try clear hk); (try clear hi); (try clear ho0); have hcz28_0 : w27.cell? ⟨gb419, 0, none⟩ = some (.int .i64 a1_0) := (blk_cell BK419.out 0).trans rfl; have hcz28_1 : w27.cell? ⟨gb419, 1, none⟩ = some (.int .i64 a1_1) := (blk_cell BK419.out 1).trans rfl; have hfz28_0 := blk_frozen BK419.out 0; have hfz28_1 := blk_frozen BK419.out 1) | ((with_reducible refine gate_callee (f := 35) rfl ?_); refine goesL_ (some 27) rfl rfl Tryd.func35 (by kernel_rfl) rfl #[.agg #[.int .i64 a1_0, .int .i64 a1_1]] rfl lz ?_; (with_reducible refine (laws_toBind.calls a1_0 a1_1 t432 t433 _ A11.out).mono ?_); rintro e w29 ⟨rfl, hb⟩; refine ⟨_, rfl, ?_⟩; have n0_ := Aside0.mk (Kd.R_below (rz HO423.out) hb); have n1_ := Aside0.mk (Kd.R_below (rz HO428.out) hb); have n2_ := Aside0.mk (Kd.R_below (rz HO431.out) hb); have n3_ := Aside0.mk (blk_below (g := gb419) (o := .cells #[.int .i64 a1_0, .int .i64 a1_1] 41 (0, 0)) (kz BK419.out) hb); have n4_ := Aside0.mk (below_step (bz1 HB.out GE419.out) hb); clear HO423; clear HO428; clear HO431; clear BK419; clear HB; have HO423 := n0_; have HO428 := n1_; have HO431 := n2_; have BK419 := n3_; have HB := n4_; clear n0_ n1_ n2_ n3_ n4_; (try clear hb); (try clear hb2); (try clear hk); (try clear hi); obtain ⟨Ao30, co30, eo30⟩ := Kd.R_slice HO431.out; subst eo30) | ((with_reducible refine gate_callee (f := 36) rfl ?_); refine goesL_ (some 28) rfl rfl Tryd.func36 (by kernel_rfl) rfl #[.slice Ao30 t429.length co30, .agg #[.int .i64 t432, .int .i64 t433]] rfl lz ?_; (with_reducible refine (impl_UsesOf.calls k _ _ t429 t432 t433 t434 _ ?side1 ?side2 A12.out).mono ?_); (case side1 => exact cz (Kd.R_reads' HO431.out).2.2); (case side2 => exact (Kd.R_reads' HO431.out).2.1); rintro e w31 ⟨v435, rfl, ho0, hb⟩; refine ⟨_, rfl, ?_⟩; have n0_ := Aside0.mk (Kd.R_below (rz HO423.out) hb); have n1_ := Aside0.mk (Kd.R_elder' (rz HO428.out) (Kd.R_base ho0) hb); have n2_ := Aside0.mk (Kd.R_below (rz HO431.out) hb); have n3_ := Aside0.mk (Kd.R_lower (Kd.R_new' ho0 (Kd.R_lt (rz HO428.out))) (below_size (bz1 HB.out GE419.out))); have n4_ := Aside0.mk (blk_below (g := gb419) (o := .cells #[.int .i64 a1_0, .int .i64 a1_1] 41 (0, 0)) (kz BK419.out) hb); have n5_ := Aside0.mk (below_step (bz1 HB.out GE419.out) hb); clear HO423; clear HO428; clear HO431; clear BK419; clear HB; have HO423 := n0_; have HO428 := n1_; have HO431 := n2_; have HO436 := n3_; have BK419 := n4_; have HB := n5_; clear n0_ n1_ n2_ n3_ n4_ n5_; (try clear hb); (try clear hb2); (try clear hk); (try clear hi); (try clear ho0); obtain ⟨Ao32, co32, eo32⟩ := Kd.R_slice HO436.out; subst eo32; obtain ⟨Ao33, co33, eo33⟩ := Kd.R_slice HO428.out; subst eo33) | ((with_reducible refine gate_callee (f := 37) rfl ?_); refine goesL_ (some 31) rfl rfl Tryd.func37 (by kernel_rfl) rfl #[.slice Ao32 t434.length co32, .slice Ao33 t426.length co33] rfl lz ?_; (with_reducible refine (laws_eqIntS.calls k _ _ t434 _ _ t426 true _ ?side1 ?side2 ?side3 ?side4 A13.out).mono ?_); (case side1 => exact cz (Kd.R_reads' HO436.out).2.2); (case side2 => exact (Kd.R_reads' HO436.out).2.1); (case side3 => exact cz (Kd.R_reads' HO428.out).2.2); (case side4 => exact (Kd.R_reads' HO428.out).2.1); rintro e w' ⟨rfl, ⟨nd, rfl⟩⟩; refine ⟨_, rfl, ?_⟩) | ((with_reducible refine gate_callee (f := 13) rfl ?_); refine goesL_ (some 35) rfl rfl Tryd.func13 (by kernel_rfl) rfl #[.slice A0 l0.length c0] rfl lz ?_; (with_reducible refine (laws_toNodeS.calls k _ _ l0 t438 _ ?side1 ?side2 A15.out).mono ?_); (case side1 => exact cz (Kd.C_below HR0.out (bz1 HB.out GE419.out))); (case side2 => exact HC0.out); rintro e w34 ⟨v439, rfl, ho0, hb⟩; refine ⟨_, rfl, ?_⟩; have n0_ := Aside0.mk (Kd.R_elder' (rz HO423.out) (Kd.R_base ho0) hb); have n1_ := Aside0.mk (Kd.R_below (rz HO428.out) hb); have n2_ := Aside0.mk (Kd.R_elder' (rz HO431.out) (Kd.R_base ho0) hb); have n3_ := Aside0.mk (Kd.R_below (rz HO436.out) hb); have n4_ := Aside0.mk (Kd.R_lower (Kd.R_new' (Kd.R_new' ho0 (Kd.R_lt (rz HO423.out))) (Kd.R_lt (rz HO431.out))) (below_size (bz1 HB.out GE419.out))); have n5_ := Aside0.mk (blk_below (g := gb419) (o := .cells #[.int .i64 a1_0, .int .i64 a1_1] 41 (0, 0)) (kz BK419.out) hb); have n6_ := Aside0.mk (below_step (bz1 HB.out GE419.out) hb); clear HO423; clear HO428; clear HO431; clear HO436; clear BK419; clear HB; have HO423 := n0_; have HO428 := n1_; have HO431 := n2_; have HO436 := n3_; have HO440 := n4_; have BK419 := n5_; have HB := n6_; clear n0_ n1_ n2_ n3_ n4_ n5_ n6_; (try clear hb); (try clear hb2); (try clear hk); (try clear hi); (try clear ho0); obtain ⟨Ao35, co35, eo35⟩ := Kd.R_slice HO440.out; subst eo35) | ((with_reducible refine gate_callee (f := 15) rfl ?_); refine goesL_ (some 36) rfl rfl Tryd.func15 (by kernel_rfl) rfl #[.slice Ao30 t429.length co30, .slice Ao35 t438.length co35] rfl lz ?_; (with_reducible refine (laws_eqNodeS.calls k _ _ t429 _ _ t438 true _ ?side1 ?side2 ?side3 ?side4 A16.out).mono ?_); (case side1 => exact cz (Kd.R_reads' HO431.out).2.2); (case side2 => exact (Kd.R_reads' HO431.out).2.1); (case side3 => exact cz (Kd.R_reads' HO440.out).2.2); (case side4 => exact (Kd.R_reads' HO440.out).2.1); rintro e w36 ⟨rfl, hb⟩; refine ⟨_, rfl, ?_⟩; have n0_ := Aside0.mk (Kd.R_below (rz HO423.out) hb); have n1_ := Aside0.mk (Kd.R_below (rz HO428.out) hb); have n2_ := Aside0.mk (Kd.R_below (rz HO431.out) hb); have n3_ := Aside0.mk (Kd.R_below (rz HO436.out) hb); have n4_ := Aside0.mk (Kd.R_below (rz HO440.out) hb); have n5_ := Aside0.mk (blk_below (g := gb419) (o := .cells #[.int .i64 a1_0, .int .i64 a1_1] 41 (0, 0)) (kz BK419.out) hb); have n6_ := Aside0.mk (below_step (bz1 HB.out GE419.out) hb); clear HO423; clear HO428; clear HO431; clear HO436; clear HO440; clear BK419; clear HB; have HO423 := n0_; have HO428 := n1_; have HO431 := n2_; have HO436 := n3_; have HO440 := n4_; have BK419 := n5_; have HB := n6_; clear n0_ n1_ n2_ n3_ n4_ n5_ n6_; (try clear hb); (try clear hb2); (try clear hk); (try clear hi)) | ((with_reducible refine gate_callee (f := 25) rfl ?_); refine goesL_ (some 40) rfl rfl Tryd.func25 (by kernel_rfl) rfl #[.slice Ao30 t429.length co30, .int .i64 1] rfl lz ?_; (with_reducible refine (laws_markNodeS.calls k (fun k_ => some k_ = (.slice Ao30 t429.length co30 : Value).ownBlock) (.slice Ao30 t429.length co30) t429 1 t442 t443 w _ ?side1 ?side2 A18.out).mono ?_); (case side1 => repeat (first | (with_reducible first | exact HB.out | apply below_alloc | apply pw_below_drewN | apply below_drew1 | refine below_set ?_ GE419.out) | exact HB.out)); (case side2 => exact Kd.R_tight rfl HO431.out); rintro e w37 ⟨rfl, hy0, hb, hkp⟩; refine ⟨_, rfl, ?_⟩; have n0_ := Aside0.mk (blk_kept (kz BK419.out) hkp (fun hs_ => (fun e_ => (Kd.R_ne HO431.out BK419.out (by decide)) e_) hs_)); have n1_ := Aside0.mk (Kd.R_mono (ok' := fun k_ => some k_ ≠ (.slice Ao30 t429.length co30 : Value).ownBlock ∧ some k_ ≠ (.slice Ao35 t438.length co35 : Value).ownBlock) (Kd.R_keptB (HO423.out) hkp (fun k_ hk_ hs_ => (hk_.1.2) hs_)) (fun k_ hk_ => ⟨hk_.1.1.2, hk_.1.2⟩)); have n2_ := Aside0.mk (Kd.R_mono (ok' := fun k_ => some k_ ≠ (.slice Ao32 t434.length co32 : Value).ownBlock) (Kd.R_keptB ((Kd.R_apart' HO428.out (Kd.R_typed HO431.out) (by decide))) hkp (fun k_ hk_ hs_ => (hk_.2) hs_)) (fun k_ hk_ => hk_.1.1.2)); have n3_ := Aside0.mk (Kd.R_reok rfl hy0 (fun k_ e_ => HO431.out.1 k_ e_)); have n4_ := Aside0.mk (Kd.R_mono (ok' := fun k_ => some k_ ≠ (.slice Ao33 t426.length co33 : Value).ownBlock) (Kd.R_keptB ((Kd.R_apart' HO436.out (Kd.R_typed HO431.out) (by decide))) hkp (fun k_ hk_ hs_ => (hk_.2) hs_)) (fun k_ hk_ => hk_.1.1.2)); have n5_ := Aside0.mk (Kd.R_mono (ok' := fun k_ => some k_ ≠ (.slice Ao25 t421.length co25 : Value).ownBlock ∧ some k_ ≠ (.slice Ao30 t429.length co30 : Value).ownBlock) (Kd.R_keptB (HO440.out) hkp (fun k_ hk_ hs_ => (hk_.2) hs_)) (fun k_ hk_ => ⟨hk_.1.1.2, hk_.1.2⟩)); have n6_ := Aside0.mk (hb); clear BK419; clear HO423; clear HO428; clear HO431; clear HO436; clear HO440; clear HB; have BK419 := n0_; have HO423 := n1_; have HO428 := n2_; have HO431 := n3_; have HO436 := n4_; have HO440 := n5_; have HB := n6_; clear n0_ n1_ n2_ n3_ n4_ n5_ n6_; (try clear hb); (try clear hkp); (try clear hy0)))
    (try simp only [Act.put, List.setIfInBounds_toArray, List.set_cons_zero, List.set_cons_succ])
    go_cut [48] (fun v48 wc => ∃ (kq : Nat) (x48_18 : Bool), v48 = .bool x48_18 ∧ Aside0 (laws_FnExactUsesOf.j0 kq l0 t426 t434 x48_18 a1_0 a1_1 = some r) ∧ Aside0 (kq ≤ k) ∧ Aside0 (Kd.R (Kd.int .i64) 3 wc w.heap.size (fun k_ => some k_ ≠ ((.slice Ao32 t434.length co32) : Value).ownBlock) (.slice Ao33 t426.length co33) t426) ∧ Aside0 (Kd.R (Kd.int .i64) 3 wc w.heap.size (fun k_ => some k_ ≠ ((.slice Ao33 t426.length co33) : Value).ownBlock) (.slice Ao32 t434.length co32) t434) ∧ Aside0 (wc.heap[gb419]? = some (.cells #[.int .i64 a1_0, .int .i64 a1_1] 41 (0, 0))) ∧ Aside0 (Below w.heap.size w wc))
    case first =>
     have H := HC19.out
     clear HC19
     by_cases c38 : t442 < 0
     ·rw [if_pos c38] at H
      have c38b0 : decide (t442 < 0) = true := decide_eq_true c38
      clear c38
      (first | rw [c38b0] | (simp only [i64_w, i32_w]; rw [c38b0]) | skip)
      have H' := Aside0.mk H
      clear H
      go_wp2
      go_meet
      case rel => exact ⟨_, (true), ez, H', ⟨by first | omega | exact Nat.le_refl _⟩, ⟨by (with_reducible repeat (first | apply Kd.R_alloc | apply Kd.R_drewN | apply Kd.R_drew)); exact HO428.out⟩, ⟨by (with_reducible repeat (first | apply Kd.R_alloc | apply Kd.R_drewN | apply Kd.R_drew)); exact HO436.out⟩, ⟨by (with_reducible repeat (first | refine blk_drewN ?_ _ | refine blk_drew ?_ | refine blk_alloc ?_ _)); exact BK419.out⟩, ⟨(bz1 HB.out GE419.out)⟩⟩
     ·rw [if_neg c38] at H
      have c38b0 : decide (t442 < 0) = false := decide_eq_false c38
      clear c38
      (first | rw [c38b0] | (simp only [i64_w, i32_w]; rw [c38b0]) | skip)
      replace H := Option.bind_eq_some_iff.mp H
      obtain ⟨t444, A390, H⟩ := H
      replace H : (laws_FnExactUsesOf.j0 k l0 t426 t434 (!t444) a1_0 a1_1) = some r := H
      have A39 := Aside0.mk A390
      clear A390
      have H' := Aside0.mk H
      clear H
      go_wp2_with (first | (go_at_call 37; (with_reducible refine (laws_eqIntS.calls k _ _ t434 _ _ t426 t444 _ ?side1 ?side2 ?side3 ?side4 A39.out).mono ?_); (case side1 => exact cz (Kd.R_reads' HO436.out).2.2); (case side2 => exact (Kd.R_reads' HO436.out).2.1); (case side3 => exact cz (Kd.R_reads' HO428.out).2.2); (case side4 => exact (Kd.R_reads' HO428.out).2.1); rintro e w' ⟨rfl, ⟨nd, rfl⟩⟩))
      go_meet
      case rel => exact ⟨_, (!t444), ez, H', ⟨by first | omega | exact Nat.le_refl _⟩, ⟨by (with_reducible repeat (first | apply Kd.R_alloc | apply Kd.R_drewN | apply Kd.R_drew)); exact HO428.out⟩, ⟨by (with_reducible repeat (first | apply Kd.R_alloc | apply Kd.R_drewN | apply Kd.R_drew)); exact HO436.out⟩, ⟨by (with_reducible repeat (first | refine blk_drewN ?_ _ | refine blk_drew ?_ | refine blk_alloc ?_ _)); exact BK419.out⟩, ⟨(bz1 HB.out GE419.out)⟩⟩
    case rest =>
     clear HC19
     try clear c1
     try clear c2
     try clear p2
     try clear c3
     try clear c4
     try clear c4b0
     try clear c10
     try clear c11
     try clear c13
     try clear c14
     try clear c15
     try clear c17
     try clear c25
     try clear c34
     try clear c35
     try clear c36
     try clear c37
     try clear c38
     try clear c38b0
     try clear hcz28_0
     try clear hcz28_1
     try clear hfz28_0
     try clear hfz28_1
     obtain ⟨kq, x48_18, rfl, HA, HJ18, HO_6, HO_8, BK419, HB⟩ := hcut
     cases kq with
     | zero => exact absurd HA.out (by simp [laws_FnExactUsesOf.j0])
     | succ kj18 =>
      have H := HA.out
      clear HA
      simp only [laws_FnExactUsesOf.j0] at H
      by_cases c40 : x48_18 = true
      ·subst c40
       have H1 : (some false) = some r := by rw [if_pos rfl] at H; exact H
       clear H
       have H := H1
       clear H1
       obtain rfl := Option.some.inj H
       go_wp2
       go_ret
       exact ⟨gz, (bz1 HB.out GE419.out)⟩
      ·replace c40 := Bool.eq_false_iff.mpr c40
       subst c40
       have H1 : ((laws_markIntS.f kj18 t434 1).bind fun bt445 => ((laws_heldIntS.f kj18 bt445.2 1).bind fun t447 => (if t447 < 0 then (some false) else (if t447 = bt445.1 then ((laws_toNodeS.f kj18 l0).bind fun t448 => ((laws_toBind.f a1_0 a1_1).bind fun bt451 => ((impl_UsesOf.f kj18 t448 bt451.1 bt451.2).bind fun t453 => ((laws_eqIntS.f kj18 t453 t426).bind fun t456 => (if t456 = true then ((laws_heldIntS.f kj18 bt445.2 1).bind fun t457 => (if t457 < 0 then (some false) else (if t457 = bt445.1 then (some true) else (some false)))) else (some false)))))) else (some false))))) = some r := by rw [if_neg (show ¬ (false = true) by decide)] at H; exact H
       clear H
       have H := H1
       clear H1
       replace H := Option.bind_eq_some_iff.mp H
       obtain ⟨⟨t445, t446⟩, A410, H⟩ := H
       replace H : ((laws_heldIntS.f kj18 t446 1).bind fun t447 => (if t447 < 0 then (some false) else (if t447 = t445 then ((laws_toNodeS.f kj18 l0).bind fun t448 => ((laws_toBind.f a1_0 a1_1).bind fun bt451 => ((impl_UsesOf.f kj18 t448 bt451.1 bt451.2).bind fun t453 => ((laws_eqIntS.f kj18 t453 t426).bind fun t456 => (if t456 = true then ((laws_heldIntS.f kj18 t446 1).bind fun t457 => (if t457 < 0 then (some false) else (if t457 = t445 then (some true) else (some false)))) else (some false)))))) else (some false)))) = some r := H
       have A41 := Aside0.mk A410
       clear A410
       replace H := Option.bind_eq_some_iff.mp H
       obtain ⟨t447, A420, H⟩ := H
       replace H : (if t447 < 0 then (some false) else (if t447 = t445 then ((laws_toNodeS.f kj18 l0).bind fun t448 => ((laws_toBind.f a1_0 a1_1).bind fun bt451 => ((impl_UsesOf.f kj18 t448 bt451.1 bt451.2).bind fun t453 => ((laws_eqIntS.f kj18 t453 t426).bind fun t456 => (if t456 = true then ((laws_heldIntS.f kj18 t446 1).bind fun t457 => (if t457 < 0 then (some false) else (if t457 = t445 then (some true) else (some false)))) else (some false)))))) else (some false))) = some r := H
       have A42 := Aside0.mk A420
       clear A420
       by_cases c43 : t447 < 0
       ·rw [if_pos c43] at H
        have c43b0 : decide (t447 < 0) = true := decide_eq_true c43
        clear c43
        obtain rfl := Option.some.inj H
        go_wp2_with (first | ((with_reducible refine gate_callee (f := 38) rfl ?_); refine goesL_ (some 51) rfl rfl Tryd.func38 (by kernel_rfl) rfl #[.slice Ao32 t434.length co32, .int .i64 1] rfl lz ?_; (with_reducible refine (laws_markIntS.calls kj18 (fun k_ => some k_ = (.slice Ao32 t434.length co32 : Value).ownBlock) (.slice Ao32 t434.length co32) t434 1 t445 t446 w _ ?side1 ?side2 A41.out).mono ?_); (case side1 => repeat (first | (with_reducible first | exact HB.out | apply below_alloc | apply pw_below_drewN | apply below_drew1 | refine below_set ?_ GE419.out) | exact HB.out)); (case side2 => exact Kd.R_tight rfl HO_8.out); rintro e w44 ⟨rfl, hy0, hb, hkp⟩; refine ⟨_, rfl, ?_⟩; have n0_ := Aside0.mk (Kd.R_mono (ok' := fun k_ => some k_ ≠ (.slice Ao32 t434.length co32 : Value).ownBlock) (Kd.R_keptB (HO_6.out) hkp (fun k_ hk_ hs_ => (hk_) hs_)) (fun k_ hk_ => hk_.1)); have n1_ := Aside0.mk (Kd.R_reok rfl hy0 (fun k_ e_ => HO_8.out.1 k_ e_)); have n2_ := Aside0.mk (blk_kept (kz BK419.out) hkp (fun hs_ => (fun e_ => (Kd.R_ne HO_8.out BK419.out (by decide)) e_) hs_)); have n3_ := Aside0.mk (hb); clear HO_6; clear HO_8; clear BK419; clear HB; have HO_6 := n0_; have HO_8 := n1_; have BK419 := n2_; have HB := n3_; clear n0_ n1_ n2_ n3_; (try clear hb); (try clear hkp); (try clear hy0)) | ((with_reducible refine gate_callee (f := 39) rfl ?_); refine goesL_ (some 54) rfl rfl Tryd.func39 (by kernel_rfl) rfl #[.slice Ao32 t446.length co32, .int .i64 1] rfl (by (try simp only [List.map_toArray, List.map_cons, List.map_nil]); first | done | (rw [show t446.length = t434.length from (Kd.R_reads' HO_8.out).1.symm] <;> rfl) | rfl | (simp only [List.length_drop, List.length_take]; rfl)) ?_; (with_reducible refine (laws_heldIntS.calls kj18 _ _ t446 1 t447 _ ?side1 ?side2 A42.out).mono ?_); (case side1 => exact cz (Kd.R_reads' HO_8.out).2.2); (case side2 => rw [show t446.length = t434.length from (Kd.R_reads' HO_8.out).1.symm]; exact (Kd.R_reads' HO_8.out).2.1); rintro e w' ⟨rfl, ⟨nd, rfl⟩⟩; refine ⟨_, rfl, ?_⟩))
        go_ret
        exact ⟨gz, (bz1 HB.out GE419.out)⟩
       ·rw [if_neg c43] at H
        have c43b0 : decide (t447 < 0) = false := decide_eq_false c43
        clear c43
        by_cases c45 : t447 = t445
        ·rw [if_pos c45] at H
         have c45b0 : (t447 == t445) = true := beq_iff_eq.mpr c45
         have c45b1 : (t447 != t445) = false := bne_eq_false_iff_eq.mpr c45
         clear c45
         replace H := Option.bind_eq_some_iff.mp H
         obtain ⟨t448, A460, H⟩ := H
         replace H : ((laws_toBind.f a1_0 a1_1).bind fun bt451 => ((impl_UsesOf.f kj18 t448 bt451.1 bt451.2).bind fun t453 => ((laws_eqIntS.f kj18 t453 t426).bind fun t456 => (if t456 = true then ((laws_heldIntS.f kj18 t446 1).bind fun t457 => (if t457 < 0 then (some false) else (if t457 = t445 then (some true) else (some false)))) else (some false))))) = some r := H
         have A46 := Aside0.mk A460
         clear A460
         replace H := Option.bind_eq_some_iff.mp H
         obtain ⟨⟨t451, t452⟩, A470, H⟩ := H
         replace H : ((impl_UsesOf.f kj18 t448 t451 t452).bind fun t453 => ((laws_eqIntS.f kj18 t453 t426).bind fun t456 => (if t456 = true then ((laws_heldIntS.f kj18 t446 1).bind fun t457 => (if t457 < 0 then (some false) else (if t457 = t445 then (some true) else (some false)))) else (some false)))) = some r := H
         have A47 := Aside0.mk A470
         clear A470
         replace H := Option.bind_eq_some_iff.mp H
         obtain ⟨t453, A480, H⟩ := H
         replace H : ((laws_eqIntS.f kj18 t453 t426).bind fun t456 => (if t456 = true then ((laws_heldIntS.f kj18 t446 1).bind fun t457 => (if t457 < 0 then (some false) else (if t457 = t445 then (some true) else (some false)))) else (some false))) = some r := H
         have A48 := Aside0.mk A480
         clear A480
         replace H := Option.bind_eq_some_iff.mp H
         obtain ⟨t456, A490, H⟩ := H
         replace H : (if t456 = true then ((laws_heldIntS.f kj18 t446 1).bind fun t457 => (if t457 < 0 then (some false) else (if t457 = t445 then (some true) else (some false)))) else (some false)) = some r := H
         have A49 := Aside0.mk A490
         clear A490
         by_cases c50 : t456 = true
         ·subst c50
          have H1 : ((laws_heldIntS.f kj18 t446 1).bind fun t457 => (if t457 < 0 then (some false) else (if t457 = t445 then (some true) else (some false)))) = some r := by rw [if_pos rfl] at H; exact H
          clear H
          have H := H1
          clear H1
          replace H := Option.bind_eq_some_iff.mp H
          obtain ⟨t457, A510, H⟩ := H
          replace H : (if t457 < 0 then (some false) else (if t457 = t445 then (some true) else (some false))) = some r := H
          have A51 := Aside0.mk A510
          clear A510
          by_cases c52 : t457 < 0
          ·rw [if_pos c52] at H
           have c52b0 : decide (t457 < 0) = true := decide_eq_true c52
           clear c52
           obtain rfl := Option.some.inj H
           try go_wp2_with (first | ((with_reducible refine gate_callee (f := 38) rfl ?_); refine goesL_ (some 51) rfl rfl Tryd.func38 (by kernel_rfl) rfl #[.slice Ao32 t434.length co32, .int .i64 1] rfl lz ?_; (with_reducible refine (laws_markIntS.calls kj18 (fun k_ => some k_ = (.slice Ao32 t434.length co32 : Value).ownBlock) (.slice Ao32 t434.length co32) t434 1 t445 t446 w _ ?side1 ?side2 A41.out).mono ?_); (case side1 => repeat (first | (with_reducible first | exact HB.out | apply below_alloc | apply pw_below_drewN | apply below_drew1 | refine below_set ?_ GE419.out) | exact HB.out)); (case side2 => exact Kd.R_tight rfl HO_8.out); rintro e w53 ⟨rfl, hy0, hb, hkp⟩; refine ⟨_, rfl, ?_⟩; have n0_ := Aside0.mk (Kd.R_mono (ok' := fun k_ => some k_ ≠ (.slice Ao32 t434.length co32 : Value).ownBlock) (Kd.R_keptB (HO_6.out) hkp (fun k_ hk_ hs_ => (hk_) hs_)) (fun k_ hk_ => hk_.1)); have n1_ := Aside0.mk (Kd.R_reok rfl hy0 (fun k_ e_ => HO_8.out.1 k_ e_)); have n2_ := Aside0.mk (blk_kept (kz BK419.out) hkp (fun hs_ => (fun e_ => (Kd.R_ne HO_8.out BK419.out (by decide)) e_) hs_)); have n3_ := Aside0.mk (hb); clear HO_6; clear HO_8; clear BK419; clear HB; have HO_6 := n0_; have HO_8 := n1_; have BK419 := n2_; have HB := n3_; clear n0_ n1_ n2_ n3_; (try clear hb); (try clear hkp); (try clear hy0)) | ((with_reducible refine gate_callee (f := 39) rfl ?_); refine goesL_ (some 54) rfl rfl Tryd.func39 (by kernel_rfl) rfl #[.slice Ao32 t446.length co32, .int .i64 1] rfl (by (try simp only [List.map_toArray, List.map_cons, List.map_nil]); first | done | (rw [show t446.length = t434.length from (Kd.R_reads' HO_8.out).1.symm] <;> rfl) | rfl | (simp only [List.length_drop, List.length_take]; rfl)) ?_; (with_reducible refine (laws_heldIntS.calls kj18 _ _ t446 1 t447 _ ?side1 ?side2 A42.out).mono ?_); (case side1 => exact cz (Kd.R_reads' HO_8.out).2.2); (case side2 => rw [show t446.length = t434.length from (Kd.R_reads' HO_8.out).1.symm]; exact (Kd.R_reads' HO_8.out).2.1); rintro e w' ⟨rfl, ⟨nd, rfl⟩⟩; refine ⟨_, rfl, ?_⟩))
           (try (rw [drewN_self w53]; generalize hq_ : World.drewN w53 _ = w53; have n0_ : Aside0 (Kd.R (Kd.int .i64) 3 w53 w.heap.size (fun k_ => some k_ ≠ (.slice Ao32 t434.length co32 : Value).ownBlock) (.slice Ao33 t426.length co33) t426) := ⟨by rw [← hq_]; exact (rz HO_6.out)⟩; have n1_ : Aside0 (Kd.R (Kd.int .i64) 3 w53 w.heap.size (fun k_ => some k_ ≠ (.slice Ao33 t426.length co33 : Value).ownBlock) (.slice Ao32 t434.length co32) t446) := ⟨by rw [← hq_]; exact (rz HO_8.out)⟩; have n2_ : Aside0 (w53.heap[gb419]? = some (.cells #[.int .i64 a1_0, .int .i64 a1_1] 41 (0, 0))) := ⟨by rw [← hq_]; exact (kz BK419.out)⟩; have n3_ : Aside0 (Below w.heap.size w w53) := ⟨by rw [← hq_]; exact (bz1 HB.out GE419.out)⟩; clear HO_6 HO_8 BK419 HB hq_; have HO_6 := n0_; have HO_8 := n1_; have BK419 := n2_; have HB := n3_; clear n0_ n1_ n2_ n3_))
           have n0_ := Aside0.mk (Kd.R_drew HO_6.out)
           have n1_ := Aside0.mk (Kd.R_drew HO_8.out)
           have n2_ := Aside0.mk (blk_drew BK419.out)
           have n3_ := Aside0.mk (below_drew1 HB.out)
           clear HO_6
           clear HO_8
           clear BK419
           clear HB
           have HO_6 := n0_
           have HO_8 := n1_
           have BK419 := n2_
           have HB := n3_
           clear n0_ n1_ n2_ n3_
           refine start_ (n := 6) (S := fun w' => w'.cell? ⟨gb419, 0, none⟩ = some (.int .i64 a1_0) ∧ w'.cell? ⟨gb419, 1, none⟩ = some (.int .i64 a1_1)) (ds := []) #[false, false, false, false, false, false] (by kernel_rfl) rfl rfl ⟨(blk_cell BK419.out 0).trans rfl, (blk_cell BK419.out 1).trans rfl⟩ (fun hHeld => ?_)
           generalize w53.drew = w54 at HO_6 HO_8 BK419 HB hHeld ⊢
           refine pure_ (i := 0) (N := some 60) (v := ?_) (a' := ?_) #[true, false, false, false, false, false] rfl rfl (by kernel_rfl) (fun _ _ _ h => h) (Or.inl ⟨by rfl, ?_⟩) ?_ ?_
           rotate_left
           ·intro w'
            go_simp
            with_reducible rfl
           rotate_left
           ·simp only [Act.put, List.setIfInBounds_toArray, List.set_cons_zero, List.set_cons_succ, i64_w, i32_w]
            rfl
           refine take_ (i := 2) (N := some 62) (v := ?_) (a' := ?_) #[true, false, true, false, false, false] rfl rfl (by kernel_rfl) (fun _ _ _ h => h) (Or.inl ⟨by rfl, ?_⟩) hHeld ?_ ?_
           rotate_left
           ·rintro w' ⟨s0, s1⟩
            go_simp
            with_reducible rfl
           rotate_left
           ·simp only [Act.put, List.setIfInBounds_toArray, List.set_cons_zero, List.set_cons_succ, i64_w, i32_w]
            rfl
           refine one_ (i := 1) (N := some 61) #[true, true, true, false, false, false] rfl rfl (by kernel_rfl) (by decide) (fun K hK => ?_)
           refine goes_ Tryd.func13 (by kernel_rfl) rfl #[.slice A0 l0.length c0] (by rfl) rfl rfl lz ?_
           with_reducible refine (laws_toNodeS.calls kj18 _ _ l0 t448 _ ?side1 ?side2 A46.out).mono ?_
           (case side1 => exact cz (Kd.C_below HR0.out HB.out))
           (case side2 => exact HC0.out)
           rintro e w55 ⟨v449, rfl, ho0, hb⟩
           refine ⟨_, rfl, ?_⟩
           have n0_ := Aside0.mk (Kd.R_below (rz HO_6.out) hb)
           have n1_ := Aside0.mk (Kd.R_below (rz HO_8.out) hb)
           have n2_ := Aside0.mk (Kd.R_lower ho0 (below_size (bz1 HB.out GE419.out)))
           have n3_ := Aside0.mk (blk_below (g := gb419) (o := .cells #[.int .i64 a1_0, .int .i64 a1_1] 41 (0, 0)) (kz BK419.out) hb)
           have n4_ := Aside0.mk (below_step (bz1 HB.out GE419.out) hb)
           clear HO_6
           clear HO_8
           clear BK419
           clear HB
           have HO_6 := n0_
           have HO_8 := n1_
           have HO450 := n2_
           have BK419 := n3_
           have HB := n4_
           clear n0_ n1_ n2_ n3_ n4_
           (try clear hb)
           (try clear hb2)
           (try clear hk)
           (try clear hi)
           (try clear ho0)
           refine hK.out _ _ ⟨(blk_cell BK419.out 0).trans rfl, (blk_cell BK419.out 1).trans rfl⟩ (fun hHeld => ?_)
           clear hK K
           refine norm_ (a' := ?_) ?_ ?_
           rotate_left
           ·show Act.put _ (some 61) _ = _
            simp only [Act.put, List.setIfInBounds_toArray, List.set_cons_zero, List.set_cons_succ, i64_w, i32_w]
            rfl
           refine one_ (i := 3) (N := some 63) #[true, true, true, true, false, false] rfl rfl (by kernel_rfl) (by decide) (fun K hK => ?_)
           refine goes_ Tryd.func35 (by kernel_rfl) rfl #[.agg #[.int .i64 a1_0, .int .i64 a1_1]] (by rfl) rfl rfl lz ?_
           with_reducible refine (laws_toBind.calls a1_0 a1_1 t451 t452 _ A47.out).mono ?_
           rintro e w56 ⟨rfl, hb⟩
           refine ⟨_, rfl, ?_⟩
           have n0_ := Aside0.mk (Kd.R_below (rz HO_6.out) hb)
           have n1_ := Aside0.mk (Kd.R_below (rz HO_8.out) hb)
           have n2_ := Aside0.mk (Kd.R_below (rz HO450.out) hb)
           have n3_ := Aside0.mk (blk_below (g := gb419) (o := .cells #[.int .i64 a1_0, .int .i64 a1_1] 41 (0, 0)) (kz BK419.out) hb)
           have n4_ := Aside0.mk (below_step (bz1 HB.out GE419.out) hb)
           clear HO_6
           clear HO_8
           clear HO450
           clear BK419
           clear HB
           have HO_6 := n0_
           have HO_8 := n1_
           have HO450 := n2_
           have BK419 := n3_
           have HB := n4_
           clear n0_ n1_ n2_ n3_ n4_
           (try clear hb)
           (try clear hb2)
           (try clear hk)
           (try clear hi)
           obtain ⟨Ao57, co57, eo57⟩ := Kd.R_slice HO450.out
           (first | subst eo57 | (injection eo57 with f1_ f2_ f3_; have f4_ := f1_.symm; have f5_ := f3_.symm; clear f1_ f2_ f3_; subst f4_; subst f5_))
           refine hK.out _ _ ⟨(blk_cell BK419.out 0).trans rfl, (blk_cell BK419.out 1).trans rfl⟩ (fun hHeld => ?_)
           clear hK K
           refine norm_ (a' := ?_) ?_ ?_
           rotate_left
           ·show Act.put _ (some 63) _ = _
            simp only [Act.put, List.setIfInBounds_toArray, List.set_cons_zero, List.set_cons_succ, i64_w, i32_w]
            rfl
           refine one_ (i := 4) (N := some 64) #[true, true, true, true, true, false] rfl rfl (by kernel_rfl) (by decide) (fun K hK => ?_)
           refine goes_ Tryd.func36 (by kernel_rfl) rfl #[.slice Ao57 t448.length co57, .agg #[.int .i64 t451, .int .i64 t452]] (by rfl) rfl rfl lz ?_
           with_reducible refine (impl_UsesOf.calls kj18 _ _ t448 t451 t452 t453 _ ?side1 ?side2 A48.out).mono ?_
           (case side1 => exact cz (Kd.R_reads' HO450.out).2.2)
           (case side2 => exact (Kd.R_reads' HO450.out).2.1)
           rintro e w58 ⟨v454, rfl, ho0, hb⟩
           refine ⟨_, rfl, ?_⟩
           have n0_ := Aside0.mk (Kd.R_elder' (rz HO_6.out) (Kd.R_base ho0) hb)
           have n1_ := Aside0.mk (Kd.R_elder' (rz HO_8.out) (Kd.R_base ho0) hb)
           have n2_ := Aside0.mk (Kd.R_below (rz HO450.out) hb)
           have n3_ := Aside0.mk (Kd.R_lower (Kd.R_new' (Kd.R_new' ho0 (Kd.R_lt (rz HO_6.out))) (Kd.R_lt (rz HO_8.out))) (below_size (bz1 HB.out GE419.out)))
           have n4_ := Aside0.mk (blk_below (g := gb419) (o := .cells #[.int .i64 a1_0, .int .i64 a1_1] 41 (0, 0)) (kz BK419.out) hb)
           have n5_ := Aside0.mk (below_step (bz1 HB.out GE419.out) hb)
           clear HO_6
           clear HO_8
           clear HO450
           clear BK419
           clear HB
           have HO_6 := n0_
           have HO_8 := n1_
           have HO450 := n2_
           have HO455 := n3_
           have BK419 := n4_
           have HB := n5_
           clear n0_ n1_ n2_ n3_ n4_ n5_
           (try clear hb)
           (try clear hb2)
           (try clear hk)
           (try clear hi)
           (try clear ho0)
           refine hK.out _ _ ⟨(blk_cell BK419.out 0).trans rfl, (blk_cell BK419.out 1).trans rfl⟩ (fun hHeld => ?_)
           clear hK K
           refine norm_ (a' := ?_) ?_ ?_
           rotate_left
           ·show Act.put _ (some 64) _ = _
            simp only [Act.put, List.setIfInBounds_toArray, List.set_cons_zero, List.set_cons_succ, i64_w, i32_w]
            rfl
           refine pure_ (i := 5) (N := some 12) (v := ?_) (a' := ?_) #[true, true, true, true, true, true] rfl rfl (by kernel_rfl) (fun _ _ _ h => h) (Or.inl ⟨by rfl, ?_⟩) ?_ ?_
           rotate_left
           ·intro w'
            go_simp
            with_reducible rfl
           rotate_left
           ·simp only [Act.put, List.setIfInBounds_toArray, List.set_cons_zero, List.set_cons_succ, i64_w, i32_w]
            rfl
           refine done_ (by kernel_rfl) ?_
           obtain ⟨Ao59, co59, eo59⟩ := Kd.R_slice HO455.out
           subst eo59
           try go_wp2_with (first | ((with_reducible refine gate_callee (f := 37) rfl ?_); refine goesL_ (some 67) rfl rfl Tryd.func37 (by kernel_rfl) rfl #[.slice Ao59 t453.length co59, .slice Ao33 t426.length co33] rfl lz ?_; (with_reducible refine (laws_eqIntS.calls kj18 _ _ t453 _ _ t426 true _ ?side1 ?side2 ?side3 ?side4 A49.out).mono ?_); (case side1 => exact cz (Kd.R_reads' HO455.out).2.2); (case side2 => exact (Kd.R_reads' HO455.out).2.1); (case side3 => exact cz (Kd.R_reads' HO_6.out).2.2); (case side4 => exact (Kd.R_reads' HO_6.out).2.1); rintro e w' ⟨rfl, ⟨nd, rfl⟩⟩; refine ⟨_, rfl, ?_⟩) | ((with_reducible refine gate_callee (f := 39) rfl ?_); refine goesL_ (some 71) rfl rfl Tryd.func39 (by kernel_rfl) rfl #[.slice Ao32 t446.length co32, .int .i64 1] rfl (by (try simp only [List.map_toArray, List.map_cons, List.map_nil]); first | done | (rw [show t446.length = t434.length from (Kd.R_reads' HO_8.out).1.symm] <;> rfl) | rfl | (simp only [List.length_drop, List.length_take]; rfl)) ?_; (with_reducible refine (laws_heldIntS.calls kj18 _ _ t446 1 t457 _ ?side1 ?side2 A51.out).mono ?_); (case side1 => exact cz (Kd.R_reads' HO_8.out).2.2); (case side2 => rw [show t446.length = t434.length from (Kd.R_reads' HO_8.out).1.symm]; exact (Kd.R_reads' HO_8.out).2.1); rintro e w' ⟨rfl, ⟨nd, rfl⟩⟩; refine ⟨_, rfl, ?_⟩))
           go_ret
           exact ⟨gz, (bz1 HB.out GE419.out)⟩
          ·rw [if_neg c52] at H
           have c52b0 : decide (t457 < 0) = false := decide_eq_false c52
           clear c52
           by_cases c60 : t457 = t445
           ·rw [if_pos c60] at H
            have c60b0 : (t457 == t445) = true := beq_iff_eq.mpr c60
            have c60b1 : (t457 != t445) = false := bne_eq_false_iff_eq.mpr c60
            clear c60
            obtain rfl := Option.some.inj H
            try go_wp2_with (first | ((with_reducible refine gate_callee (f := 38) rfl ?_); refine goesL_ (some 51) rfl rfl Tryd.func38 (by kernel_rfl) rfl #[.slice Ao32 t434.length co32, .int .i64 1] rfl lz ?_; (with_reducible refine (laws_markIntS.calls kj18 (fun k_ => some k_ = (.slice Ao32 t434.length co32 : Value).ownBlock) (.slice Ao32 t434.length co32) t434 1 t445 t446 w _ ?side1 ?side2 A41.out).mono ?_); (case side1 => repeat (first | (with_reducible first | exact HB.out | apply below_alloc | apply pw_below_drewN | apply below_drew1 | refine below_set ?_ GE419.out) | exact HB.out)); (case side2 => exact Kd.R_tight rfl HO_8.out); rintro e w61 ⟨rfl, hy0, hb, hkp⟩; refine ⟨_, rfl, ?_⟩; have n0_ := Aside0.mk (Kd.R_mono (ok' := fun k_ => some k_ ≠ (.slice Ao32 t434.length co32 : Value).ownBlock) (Kd.R_keptB (HO_6.out) hkp (fun k_ hk_ hs_ => (hk_) hs_)) (fun k_ hk_ => hk_.1)); have n1_ := Aside0.mk (Kd.R_reok rfl hy0 (fun k_ e_ => HO_8.out.1 k_ e_)); have n2_ := Aside0.mk (blk_kept (kz BK419.out) hkp (fun hs_ => (fun e_ => (Kd.R_ne HO_8.out BK419.out (by decide)) e_) hs_)); have n3_ := Aside0.mk (hb); clear HO_6; clear HO_8; clear BK419; clear HB; have HO_6 := n0_; have HO_8 := n1_; have BK419 := n2_; have HB := n3_; clear n0_ n1_ n2_ n3_; (try clear hb); (try clear hkp); (try clear hy0)) | ((with_reducible refine gate_callee (f := 39) rfl ?_); refine goesL_ (some 54) rfl rfl Tryd.func39 (by kernel_rfl) rfl #[.slice Ao32 t446.length co32, .int .i64 1] rfl (by (try simp only [List.map_toArray, List.map_cons, List.map_nil]); first | done | (rw [show t446.length = t434.length from (Kd.R_reads' HO_8.out).1.symm] <;> rfl) | rfl | (simp only [List.length_drop, List.length_take]; rfl)) ?_; (with_reducible refine (laws_heldIntS.calls kj18 _ _ t446 1 t447 _ ?side1 ?side2 A42.out).mono ?_); (case side1 => exact cz (Kd.R_reads' HO_8.out).2.2); (case side2 => rw [show t446.length = t434.length from (Kd.R_reads' HO_8.out).1.symm]; exact (Kd.R_reads' HO_8.out).2.1); rintro e w' ⟨rfl, ⟨nd, rfl⟩⟩; refine ⟨_, rfl, ?_⟩))
            (try (rw [drewN_self w61]; generalize hq_ : World.drewN w61 _ = w61; have n0_ : Aside0 (Kd.R (Kd.int .i64) 3 w61 w.heap.size (fun k_ => some k_ ≠ (.slice Ao32 t434.length co32 : Value).ownBlock) (.slice Ao33 t426.length co33) t426) := ⟨by rw [← hq_]; exact (rz HO_6.out)⟩; have n1_ : Aside0 (Kd.R (Kd.int .i64) 3 w61 w.heap.size (fun k_ => some k_ ≠ (.slice Ao33 t426.length co33 : Value).ownBlock) (.slice Ao32 t434.length co32) t446) := ⟨by rw [← hq_]; exact (rz HO_8.out)⟩; have n2_ : Aside0 (w61.heap[gb419]? = some (.cells #[.int .i64 a1_0, .int .i64 a1_1] 41 (0, 0))) := ⟨by rw [← hq_]; exact (kz BK419.out)⟩; have n3_ : Aside0 (Below w.heap.size w w61) := ⟨by rw [← hq_]; exact (bz1 HB.out GE419.out)⟩; clear HO_6 HO_8 BK419 HB hq_; have HO_6 := n0_; have HO_8 := n1_; have BK419 := n2_; have HB := n3_; clear n0_ n1_ n2_ n3_))
            have n0_ := Aside0.mk (Kd.R_drew HO_6.out)
            have n1_ := Aside0.mk (Kd.R_drew HO_8.out)
            have n2_ := Aside0.mk (blk_drew BK419.out)
            have n3_ := Aside0.mk (below_drew1 HB.out)
            clear HO_6
            clear HO_8
            clear BK419
            clear HB
            have HO_6 := n0_
            have HO_8 := n1_
            have BK419 := n2_
            have HB := n3_
            clear n0_ n1_ n2_ n3_
            refine start_ (n := 6) (S := fun w' => w'.cell? ⟨gb419, 0, none⟩ = some (.int .i64 a1_0) ∧ w'.cell? ⟨gb419, 1, none⟩ = some (.int .i64 a1_1)) (ds := []) #[false, false, false, false, false, false] (by kernel_rfl) rfl rfl ⟨(blk_cell BK419.out 0).trans rfl, (blk_cell BK419.out 1).trans rfl⟩ (fun hHeld => ?_)
            generalize w61.drew = w62 at HO_6 HO_8 BK419 HB hHeld ⊢
            refine pure_ (i := 0) (N := some 60) (v := ?_) (a' := ?_) #[true, false, false, false, false, false] rfl rfl (by kernel_rfl) (fun _ _ _ h => h) (Or.inl ⟨by rfl, ?_⟩) ?_ ?_
            rotate_left
            ·intro w'
             go_simp
             with_reducible rfl
            rotate_left
            ·simp only [Act.put, List.setIfInBounds_toArray, List.set_cons_zero, List.set_cons_succ, i64_w, i32_w]
             rfl
            refine take_ (i := 2) (N := some 62) (v := ?_) (a' := ?_) #[true, false, true, false, false, false] rfl rfl (by kernel_rfl) (fun _ _ _ h => h) (Or.inl ⟨by rfl, ?_⟩) hHeld ?_ ?_
            rotate_left
            ·rintro w' ⟨s0, s1⟩
             go_simp
             with_reducible rfl
            rotate_left
            ·simp only [Act.put, List.setIfInBounds_toArray, List.set_cons_zero, List.set_cons_succ, i64_w, i32_w]
             rfl
            refine one_ (i := 1) (N := some 61) #[true, true, true, false, false, false] rfl rfl (by kernel_rfl) (by decide) (fun K hK => ?_)
            refine goes_ Tryd.func13 (by kernel_rfl) rfl #[.slice A0 l0.length c0] (by rfl) rfl rfl lz ?_
            with_reducible refine (laws_toNodeS.calls kj18 _ _ l0 t448 _ ?side1 ?side2 A46.out).mono ?_
            (case side1 => exact cz (Kd.C_below HR0.out HB.out))
            (case side2 => exact HC0.out)
            rintro e w63 ⟨v449, rfl, ho0, hb⟩
            refine ⟨_, rfl, ?_⟩
            have n0_ := Aside0.mk (Kd.R_below (rz HO_6.out) hb)
            have n1_ := Aside0.mk (Kd.R_below (rz HO_8.out) hb)
            have n2_ := Aside0.mk (Kd.R_lower ho0 (below_size (bz1 HB.out GE419.out)))
            have n3_ := Aside0.mk (blk_below (g := gb419) (o := .cells #[.int .i64 a1_0, .int .i64 a1_1] 41 (0, 0)) (kz BK419.out) hb)
            have n4_ := Aside0.mk (below_step (bz1 HB.out GE419.out) hb)
            clear HO_6
            clear HO_8
            clear BK419
            clear HB
            have HO_6 := n0_
            have HO_8 := n1_
            have HO450 := n2_
            have BK419 := n3_
            have HB := n4_
            clear n0_ n1_ n2_ n3_ n4_
            (try clear hb)
            (try clear hb2)
            (try clear hk)
            (try clear hi)
            (try clear ho0)
            refine hK.out _ _ ⟨(blk_cell BK419.out 0).trans rfl, (blk_cell BK419.out 1).trans rfl⟩ (fun hHeld => ?_)
            clear hK K
            refine norm_ (a' := ?_) ?_ ?_
            rotate_left
            ·show Act.put _ (some 61) _ = _
             simp only [Act.put, List.setIfInBounds_toArray, List.set_cons_zero, List.set_cons_succ, i64_w, i32_w]
             rfl
            refine one_ (i := 3) (N := some 63) #[true, true, true, true, false, false] rfl rfl (by kernel_rfl) (by decide) (fun K hK => ?_)
            refine goes_ Tryd.func35 (by kernel_rfl) rfl #[.agg #[.int .i64 a1_0, .int .i64 a1_1]] (by rfl) rfl rfl lz ?_
            with_reducible refine (laws_toBind.calls a1_0 a1_1 t451 t452 _ A47.out).mono ?_
            rintro e w64 ⟨rfl, hb⟩
            refine ⟨_, rfl, ?_⟩
            have n0_ := Aside0.mk (Kd.R_below (rz HO_6.out) hb)
            have n1_ := Aside0.mk (Kd.R_below (rz HO_8.out) hb)
            have n2_ := Aside0.mk (Kd.R_below (rz HO450.out) hb)
            have n3_ := Aside0.mk (blk_below (g := gb419) (o := .cells #[.int .i64 a1_0, .int .i64 a1_1] 41 (0, 0)) (kz BK419.out) hb)
            have n4_ := Aside0.mk (below_step (bz1 HB.out GE419.out) hb)
            clear HO_6
            clear HO_8
            clear HO450
            clear BK419
            clear HB
            have HO_6 := n0_
            have HO_8 := n1_
            have HO450 := n2_
            have BK419 := n3_
            have HB := n4_
            clear n0_ n1_ n2_ n3_ n4_
            (try clear hb)
            (try clear hb2)
            (try clear hk)
            (try clear hi)
            obtain ⟨Ao65, co65, eo65⟩ := Kd.R_slice HO450.out
            (first | subst eo65 | (injection eo65 with f1_ f2_ f3_; have f4_ := f1_.symm; have f5_ := f3_.symm; clear f1_ f2_ f3_; subst f4_; subst f5_))
            refine hK.out _ _ ⟨(blk_cell BK419.out 0).trans rfl, (blk_cell BK419.out 1).trans rfl⟩ (fun hHeld => ?_)
            clear hK K
            refine norm_ (a' := ?_) ?_ ?_
            rotate_left
            ·show Act.put _ (some 63) _ = _
             simp only [Act.put, List.setIfInBounds_toArray, List.set_cons_zero, List.set_cons_succ, i64_w, i32_w]
             rfl
            refine one_ (i := 4) (N := some 64) #[true, true, true, true, true, false] rfl rfl (by kernel_rfl) (by decide) (fun K hK => ?_)
            refine goes_ Tryd.func36 (by kernel_rfl) rfl #[.slice Ao65 t448.length co65, .agg #[.int .i64 t451, .int .i64 t452]] (by rfl) rfl rfl lz ?_
            with_reducible refine (impl_UsesOf.calls kj18 _ _ t448 t451 t452 t453 _ ?side1 ?side2 A48.out).mono ?_
            (case side1 => exact cz (Kd.R_reads' HO450.out).2.2)
            (case side2 => exact (Kd.R_reads' HO450.out).2.1)
            rintro e w66 ⟨v454, rfl, ho0, hb⟩
            refine ⟨_, rfl, ?_⟩
            have n0_ := Aside0.mk (Kd.R_elder' (rz HO_6.out) (Kd.R_base ho0) hb)
            have n1_ := Aside0.mk (Kd.R_elder' (rz HO_8.out) (Kd.R_base ho0) hb)
            have n2_ := Aside0.mk (Kd.R_below (rz HO450.out) hb)
            have n3_ := Aside0.mk (Kd.R_lower (Kd.R_new' (Kd.R_new' ho0 (Kd.R_lt (rz HO_6.out))) (Kd.R_lt (rz HO_8.out))) (below_size (bz1 HB.out GE419.out)))
            have n4_ := Aside0.mk (blk_below (g := gb419) (o := .cells #[.int .i64 a1_0, .int .i64 a1_1] 41 (0, 0)) (kz BK419.out) hb)
            have n5_ := Aside0.mk (below_step (bz1 HB.out GE419.out) hb)
            clear HO_6
            clear HO_8
            clear HO450
            clear BK419
            clear HB
            have HO_6 := n0_
            have HO_8 := n1_
            have HO450 := n2_
            have HO455 := n3_
            have BK419 := n4_
            have HB := n5_
            clear n0_ n1_ n2_ n3_ n4_ n5_
            (try clear hb)
            (try clear hb2)
            (try clear hk)
            (try clear hi)
            (try clear ho0)
            refine hK.out _ _ ⟨(blk_cell BK419.out 0).trans rfl, (blk_cell BK419.out 1).trans rfl⟩ (fun hHeld => ?_)
            clear hK K
            refine norm_ (a' := ?_) ?_ ?_
            rotate_left
            ·show Act.put _ (some 64) _ = _
             simp only [Act.put, List.setIfInBounds_toArray, List.set_cons_zero, List.set_cons_succ, i64_w, i32_w]
             rfl
            refine pure_ (i := 5) (N := some 12) (v := ?_) (a' := ?_) #[true, true, true, true, true, true] rfl rfl (by kernel_rfl) (fun _ _ _ h => h) (Or.inl ⟨by rfl, ?_⟩) ?_ ?_
            rotate_left
            ·intro w'
             go_simp
             with_reducible rfl
            rotate_left
            ·simp only [Act.put, List.setIfInBounds_toArray, List.set_cons_zero, List.set_cons_succ, i64_w, i32_w]
             rfl
            refine done_ (by kernel_rfl) ?_
            obtain ⟨Ao67, co67, eo67⟩ := Kd.R_slice HO455.out
            subst eo67
            try go_wp2_with (first | ((with_reducible refine gate_callee (f := 37) rfl ?_); refine goesL_ (some 67) rfl rfl Tryd.func37 (by kernel_rfl) rfl #[.slice Ao67 t453.length co67, .slice Ao33 t426.length co33] rfl lz ?_; (with_reducible refine (laws_eqIntS.calls kj18 _ _ t453 _ _ t426 true _ ?side1 ?side2 ?side3 ?side4 A49.out).mono ?_); (case side1 => exact cz (Kd.R_reads' HO455.out).2.2); (case side2 => exact (Kd.R_reads' HO455.out).2.1); (case side3 => exact cz (Kd.R_reads' HO_6.out).2.2); (case side4 => exact (Kd.R_reads' HO_6.out).2.1); rintro e w' ⟨rfl, ⟨nd, rfl⟩⟩; refine ⟨_, rfl, ?_⟩) | ((with_reducible refine gate_callee (f := 39) rfl ?_); refine goesL_ (some 71) rfl rfl Tryd.func39 (by kernel_rfl) rfl #[.slice Ao32 t446.length co32, .int .i64 1] rfl (by (try simp only [List.map_toArray, List.map_cons, List.map_nil]); first | done | (rw [show t446.length = t434.length from (Kd.R_reads' HO_8.out).1.symm] <;> rfl) | rfl | (simp only [List.length_drop, List.length_take]; rfl)) ?_; (with_reducible refine (laws_heldIntS.calls kj18 _ _ t446 1 t457 _ ?side1 ?side2 A51.out).mono ?_); (case side1 => exact cz (Kd.R_reads' HO_8.out).2.2); (case side2 => rw [show t446.length = t434.length from (Kd.R_reads' HO_8.out).1.symm]; exact (Kd.R_reads' HO_8.out).2.1); rintro e w' ⟨rfl, ⟨nd, rfl⟩⟩; refine ⟨_, rfl, ?_⟩))
            go_ret
            exact ⟨gz, (bz1 HB.out GE419.out)⟩
           ·rw [if_neg c60] at H
            have c60b0 : (t457 == t445) = false := beq_eq_false_iff_ne.mpr c60
            have c60b1 : (t457 != t445) = true := bne_iff_ne.mpr c60
            obtain rfl := Option.some.inj H
            try go_wp2_with (first | ((with_reducible refine gate_callee (f := 38) rfl ?_); refine goesL_ (some 51) rfl rfl Tryd.func38 (by kernel_rfl) rfl #[.slice Ao32 t434.length co32, .int .i64 1] rfl lz ?_; (with_reducible refine (laws_markIntS.calls kj18 (fun k_ => some k_ = (.slice Ao32 t434.length co32 : Value).ownBlock) (.slice Ao32 t434.length co32) t434 1 t445 t446 w _ ?side1 ?side2 A41.out).mono ?_); (case side1 => repeat (first | (with_reducible first | exact HB.out | apply below_alloc | apply pw_below_drewN | apply below_drew1 | refine below_set ?_ GE419.out) | exact HB.out)); (case side2 => exact Kd.R_tight rfl HO_8.out); rintro e w68 ⟨rfl, hy0, hb, hkp⟩; refine ⟨_, rfl, ?_⟩; have n0_ := Aside0.mk (Kd.R_mono (ok' := fun k_ => some k_ ≠ (.slice Ao32 t434.length co32 : Value).ownBlock) (Kd.R_keptB (HO_6.out) hkp (fun k_ hk_ hs_ => (hk_) hs_)) (fun k_ hk_ => hk_.1)); have n1_ := Aside0.mk (Kd.R_reok rfl hy0 (fun k_ e_ => HO_8.out.1 k_ e_)); have n2_ := Aside0.mk (blk_kept (kz BK419.out) hkp (fun hs_ => (fun e_ => (Kd.R_ne HO_8.out BK419.out (by decide)) e_) hs_)); have n3_ := Aside0.mk (hb); clear HO_6; clear HO_8; clear BK419; clear HB; have HO_6 := n0_; have HO_8 := n1_; have BK419 := n2_; have HB := n3_; clear n0_ n1_ n2_ n3_; (try clear hb); (try clear hkp); (try clear hy0)) | ((with_reducible refine gate_callee (f := 39) rfl ?_); refine goesL_ (some 54) rfl rfl Tryd.func39 (by kernel_rfl) rfl #[.slice Ao32 t446.length co32, .int .i64 1] rfl (by (try simp only [List.map_toArray, List.map_cons, List.map_nil]); first | done | (rw [show t446.length = t434.length from (Kd.R_reads' HO_8.out).1.symm] <;> rfl) | rfl | (simp only [List.length_drop, List.length_take]; rfl)) ?_; (with_reducible refine (laws_heldIntS.calls kj18 _ _ t446 1 t447 _ ?side1 ?side2 A42.out).mono ?_); (case side1 => exact cz (Kd.R_reads' HO_8.out).2.2); (case side2 => rw [show t446.length = t434.length from (Kd.R_reads' HO_8.out).1.symm]; exact (Kd.R_reads' HO_8.out).2.1); rintro e w' ⟨rfl, ⟨nd, rfl⟩⟩; refine ⟨_, rfl, ?_⟩))
            (try (rw [drewN_self w68]; generalize hq_ : World.drewN w68 _ = w68; have n0_ : Aside0 (Kd.R (Kd.int .i64) 3 w68 w.heap.size (fun k_ => some k_ ≠ (.slice Ao32 t434.length co32 : Value).ownBlock) (.slice Ao33 t426.length co33) t426) := ⟨by rw [← hq_]; exact (rz HO_6.out)⟩; have n1_ : Aside0 (Kd.R (Kd.int .i64) 3 w68 w.heap.size (fun k_ => some k_ ≠ (.slice Ao33 t426.length co33 : Value).ownBlock) (.slice Ao32 t434.length co32) t446) := ⟨by rw [← hq_]; exact (rz HO_8.out)⟩; have n2_ : Aside0 (w68.heap[gb419]? = some (.cells #[.int .i64 a1_0, .int .i64 a1_1] 41 (0, 0))) := ⟨by rw [← hq_]; exact (kz BK419.out)⟩; have n3_ : Aside0 (Below w.heap.size w w68) := ⟨by rw [← hq_]; exact (bz1 HB.out GE419.out)⟩; clear HO_6 HO_8 BK419 HB hq_; have HO_6 := n0_; have HO_8 := n1_; have BK419 := n2_; have HB := n3_; clear n0_ n1_ n2_ n3_))
            have n0_ := Aside0.mk (Kd.R_drew HO_6.out)
            have n1_ := Aside0.mk (Kd.R_drew HO_8.out)
            have n2_ := Aside0.mk (blk_drew BK419.out)
            have n3_ := Aside0.mk (below_drew1 HB.out)
            clear HO_6
            clear HO_8
            clear BK419
            clear HB
            have HO_6 := n0_
            have HO_8 := n1_
            have BK419 := n2_
            have HB := n3_
            clear n0_ n1_ n2_ n3_
            refine start_ (n := 6) (S := fun w' => w'.cell? ⟨gb419, 0, none⟩ = some (.int .i64 a1_0) ∧ w'.cell? ⟨gb419, 1, none⟩ = some (.int .i64 a1_1)) (ds := []) #[false, false, false, false, false, false] (by kernel_rfl) rfl rfl ⟨(blk_cell BK419.out 0).trans rfl, (blk_cell BK419.out 1).trans rfl⟩ (fun hHeld => ?_)
            generalize w68.drew = w69 at HO_6 HO_8 BK419 HB hHeld ⊢
            refine pure_ (i := 0) (N := some 60) (v := ?_) (a' := ?_) #[true, false, false, false, false, false] rfl rfl (by kernel_rfl) (fun _ _ _ h => h) (Or.inl ⟨by rfl, ?_⟩) ?_ ?_
            rotate_left
            ·intro w'
             go_simp
             with_reducible rfl
            rotate_left
            ·simp only [Act.put, List.setIfInBounds_toArray, List.set_cons_zero, List.set_cons_succ, i64_w, i32_w]
             rfl
            refine take_ (i := 2) (N := some 62) (v := ?_) (a' := ?_) #[true, false, true, false, false, false] rfl rfl (by kernel_rfl) (fun _ _ _ h => h) (Or.inl ⟨by rfl, ?_⟩) hHeld ?_ ?_
            rotate_left
            ·rintro w' ⟨s0, s1⟩
             go_simp
             with_reducible rfl
            rotate_left
            ·simp only [Act.put, List.setIfInBounds_toArray, List.set_cons_zero, List.set_cons_succ, i64_w, i32_w]
             rfl
            refine one_ (i := 1) (N := some 61) #[true, true, true, false, false, false] rfl rfl (by kernel_rfl) (by decide) (fun K hK => ?_)
            refine goes_ Tryd.func13 (by kernel_rfl) rfl #[.slice A0 l0.length c0] (by rfl) rfl rfl lz ?_
            with_reducible refine (laws_toNodeS.calls kj18 _ _ l0 t448 _ ?side1 ?side2 A46.out).mono ?_
            (case side1 => exact cz (Kd.C_below HR0.out HB.out))
            (case side2 => exact HC0.out)
            rintro e w70 ⟨v449, rfl, ho0, hb⟩
            refine ⟨_, rfl, ?_⟩
            have n0_ := Aside0.mk (Kd.R_below (rz HO_6.out) hb)
            have n1_ := Aside0.mk (Kd.R_below (rz HO_8.out) hb)
            have n2_ := Aside0.mk (Kd.R_lower ho0 (below_size (bz1 HB.out GE419.out)))
            have n3_ := Aside0.mk (blk_below (g := gb419) (o := .cells #[.int .i64 a1_0, .int .i64 a1_1] 41 (0, 0)) (kz BK419.out) hb)
            have n4_ := Aside0.mk (below_step (bz1 HB.out GE419.out) hb)
            clear HO_6
            clear HO_8
            clear BK419
            clear HB
            have HO_6 := n0_
            have HO_8 := n1_
            have HO450 := n2_
            have BK419 := n3_
            have HB := n4_
            clear n0_ n1_ n2_ n3_ n4_
            (try clear hb)
            (try clear hb2)
            (try clear hk)
            (try clear hi)
            (try clear ho0)
            refine hK.out _ _ ⟨(blk_cell BK419.out 0).trans rfl, (blk_cell BK419.out 1).trans rfl⟩ (fun hHeld => ?_)
            clear hK K
            refine norm_ (a' := ?_) ?_ ?_
            rotate_left
            ·show Act.put _ (some 61) _ = _
             simp only [Act.put, List.setIfInBounds_toArray, List.set_cons_zero, List.set_cons_succ, i64_w, i32_w]
             rfl
            refine one_ (i := 3) (N := some 63) #[true, true, true, true, false, false] rfl rfl (by kernel_rfl) (by decide) (fun K hK => ?_)
            refine goes_ Tryd.func35 (by kernel_rfl) rfl #[.agg #[.int .i64 a1_0, .int .i64 a1_1]] (by rfl) rfl rfl lz ?_
            with_reducible refine (laws_toBind.calls a1_0 a1_1 t451 t452 _ A47.out).mono ?_
            rintro e w71 ⟨rfl, hb⟩
            refine ⟨_, rfl, ?_⟩
            have n0_ := Aside0.mk (Kd.R_below (rz HO_6.out) hb)
            have n1_ := Aside0.mk (Kd.R_below (rz HO_8.out) hb)
            have n2_ := Aside0.mk (Kd.R_below (rz HO450.out) hb)
            have n3_ := Aside0.mk (blk_below (g := gb419) (o := .cells #[.int .i64 a1_0, .int .i64 a1_1] 41 (0, 0)) (kz BK419.out) hb)
            have n4_ := Aside0.mk (below_step (bz1 HB.out GE419.out) hb)
            clear HO_6
            clear HO_8
            clear HO450
            clear BK419
            clear HB
            have HO_6 := n0_
            have HO_8 := n1_
            have HO450 := n2_
            have BK419 := n3_
            have HB := n4_
            clear n0_ n1_ n2_ n3_ n4_
            (try clear hb)
            (try clear hb2)
            (try clear hk)
            (try clear hi)
            obtain ⟨Ao72, co72, eo72⟩ := Kd.R_slice HO450.out
            (first | subst eo72 | (injection eo72 with f1_ f2_ f3_; have f4_ := f1_.symm; have f5_ := f3_.symm; clear f1_ f2_ f3_; subst f4_; subst f5_))
            refine hK.out _ _ ⟨(blk_cell BK419.out 0).trans rfl, (blk_cell BK419.out 1).trans rfl⟩ (fun hHeld => ?_)
            clear hK K
            refine norm_ (a' := ?_) ?_ ?_
            rotate_left
            ·show Act.put _ (some 63) _ = _
             simp only [Act.put, List.setIfInBounds_toArray, List.set_cons_zero, List.set_cons_succ, i64_w, i32_w]
             rfl
            refine one_ (i := 4) (N := some 64) #[true, true, true, true, true, false] rfl rfl (by kernel_rfl) (by decide) (fun K hK => ?_)
            refine goes_ Tryd.func36 (by kernel_rfl) rfl #[.slice Ao72 t448.length co72, .agg #[.int .i64 t451, .int .i64 t452]] (by rfl) rfl rfl lz ?_
            with_reducible refine (impl_UsesOf.calls kj18 _ _ t448 t451 t452 t453 _ ?side1 ?side2 A48.out).mono ?_
            (case side1 => exact cz (Kd.R_reads' HO450.out).2.2)
            (case side2 => exact (Kd.R_reads' HO450.out).2.1)
            rintro e w73 ⟨v454, rfl, ho0, hb⟩
            refine ⟨_, rfl, ?_⟩
            have n0_ := Aside0.mk (Kd.R_elder' (rz HO_6.out) (Kd.R_base ho0) hb)
            have n1_ := Aside0.mk (Kd.R_elder' (rz HO_8.out) (Kd.R_base ho0) hb)
            have n2_ := Aside0.mk (Kd.R_below (rz HO450.out) hb)
            have n3_ := Aside0.mk (Kd.R_lower (Kd.R_new' (Kd.R_new' ho0 (Kd.R_lt (rz HO_6.out))) (Kd.R_lt (rz HO_8.out))) (below_size (bz1 HB.out GE419.out)))
            have n4_ := Aside0.mk (blk_below (g := gb419) (o := .cells #[.int .i64 a1_0, .int .i64 a1_1] 41 (0, 0)) (kz BK419.out) hb)
            have n5_ := Aside0.mk (below_step (bz1 HB.out GE419.out) hb)
            clear HO_6
            clear HO_8
            clear HO450
            clear BK419
            clear HB
            have HO_6 := n0_
            have HO_8 := n1_
            have HO450 := n2_
            have HO455 := n3_
            have BK419 := n4_
            have HB := n5_
            clear n0_ n1_ n2_ n3_ n4_ n5_
            (try clear hb)
            (try clear hb2)
            (try clear hk)
            (try clear hi)
            (try clear ho0)
            refine hK.out _ _ ⟨(blk_cell BK419.out 0).trans rfl, (blk_cell BK419.out 1).trans rfl⟩ (fun hHeld => ?_)
            clear hK K
            refine norm_ (a' := ?_) ?_ ?_
            rotate_left
            ·show Act.put _ (some 64) _ = _
             simp only [Act.put, List.setIfInBounds_toArray, List.set_cons_zero, List.set_cons_succ, i64_w, i32_w]
             rfl
            refine pure_ (i := 5) (N := some 12) (v := ?_) (a' := ?_) #[true, true, true, true, true, true] rfl rfl (by kernel_rfl) (fun _ _ _ h => h) (Or.inl ⟨by rfl, ?_⟩) ?_ ?_
            rotate_left
            ·intro w'
             go_simp
             with_reducible rfl
            rotate_left
            ·simp only [Act.put, List.setIfInBounds_toArray, List.set_cons_zero, List.set_cons_succ, i64_w, i32_w]
             rfl
            refine done_ (by kernel_rfl) ?_
            obtain ⟨Ao74, co74, eo74⟩ := Kd.R_slice HO455.out
            subst eo74
            try go_wp2_with (first | ((with_reducible refine gate_callee (f := 37) rfl ?_); refine goesL_ (some 67) rfl rfl Tryd.func37 (by kernel_rfl) rfl #[.slice Ao74 t453.length co74, .slice Ao33 t426.length co33] rfl lz ?_; (with_reducible refine (laws_eqIntS.calls kj18 _ _ t453 _ _ t426 true _ ?side1 ?side2 ?side3 ?side4 A49.out).mono ?_); (case side1 => exact cz (Kd.R_reads' HO455.out).2.2); (case side2 => exact (Kd.R_reads' HO455.out).2.1); (case side3 => exact cz (Kd.R_reads' HO_6.out).2.2); (case side4 => exact (Kd.R_reads' HO_6.out).2.1); rintro e w' ⟨rfl, ⟨nd, rfl⟩⟩; refine ⟨_, rfl, ?_⟩) | ((with_reducible refine gate_callee (f := 39) rfl ?_); refine goesL_ (some 71) rfl rfl Tryd.func39 (by kernel_rfl) rfl #[.slice Ao32 t446.length co32, .int .i64 1] rfl (by (try simp only [List.map_toArray, List.map_cons, List.map_nil]); first | done | (rw [show t446.length = t434.length from (Kd.R_reads' HO_8.out).1.symm] <;> rfl) | rfl | (simp only [List.length_drop, List.length_take]; rfl)) ?_; (with_reducible refine (laws_heldIntS.calls kj18 _ _ t446 1 t457 _ ?side1 ?side2 A51.out).mono ?_); (case side1 => exact cz (Kd.R_reads' HO_8.out).2.2); (case side2 => rw [show t446.length = t434.length from (Kd.R_reads' HO_8.out).1.symm]; exact (Kd.R_reads' HO_8.out).2.1); rintro e w' ⟨rfl, ⟨nd, rfl⟩⟩; refine ⟨_, rfl, ?_⟩))
            go_ret
            exact ⟨gz, (bz1 HB.out GE419.out)⟩
         ·replace c50 := Bool.eq_false_iff.mpr c50
          subst c50
          have H1 : (some false) = some r := by rw [if_neg (show ¬ (false = true) by decide)] at H; exact H
          clear H
          have H := H1
          clear H1
          obtain rfl := Option.some.inj H
          try go_wp2_with (first | ((with_reducible refine gate_callee (f := 38) rfl ?_); refine goesL_ (some 51) rfl rfl Tryd.func38 (by kernel_rfl) rfl #[.slice Ao32 t434.length co32, .int .i64 1] rfl lz ?_; (with_reducible refine (laws_markIntS.calls kj18 (fun k_ => some k_ = (.slice Ao32 t434.length co32 : Value).ownBlock) (.slice Ao32 t434.length co32) t434 1 t445 t446 w _ ?side1 ?side2 A41.out).mono ?_); (case side1 => repeat (first | (with_reducible first | exact HB.out | apply below_alloc | apply pw_below_drewN | apply below_drew1 | refine below_set ?_ GE419.out) | exact HB.out)); (case side2 => exact Kd.R_tight rfl HO_8.out); rintro e w75 ⟨rfl, hy0, hb, hkp⟩; refine ⟨_, rfl, ?_⟩; have n0_ := Aside0.mk (Kd.R_mono (ok' := fun k_ => some k_ ≠ (.slice Ao32 t434.length co32 : Value).ownBlock) (Kd.R_keptB (HO_6.out) hkp (fun k_ hk_ hs_ => (hk_) hs_)) (fun k_ hk_ => hk_.1)); have n1_ := Aside0.mk (Kd.R_reok rfl hy0 (fun k_ e_ => HO_8.out.1 k_ e_)); have n2_ := Aside0.mk (blk_kept (kz BK419.out) hkp (fun hs_ => (fun e_ => (Kd.R_ne HO_8.out BK419.out (by decide)) e_) hs_)); have n3_ := Aside0.mk (hb); clear HO_6; clear HO_8; clear BK419; clear HB; have HO_6 := n0_; have HO_8 := n1_; have BK419 := n2_; have HB := n3_; clear n0_ n1_ n2_ n3_; (try clear hb); (try clear hkp); (try clear hy0)) | ((with_reducible refine gate_callee (f := 39) rfl ?_); refine goesL_ (some 54) rfl rfl Tryd.func39 (by kernel_rfl) rfl #[.slice Ao32 t446.length co32, .int .i64 1] rfl (by (try simp only [List.map_toArray, List.map_cons, List.map_nil]); first | done | (rw [show t446.length = t434.length from (Kd.R_reads' HO_8.out).1.symm] <;> rfl) | rfl | (simp only [List.length_drop, List.length_take]; rfl)) ?_; (with_reducible refine (laws_heldIntS.calls kj18 _ _ t446 1 t447 _ ?side1 ?side2 A42.out).mono ?_); (case side1 => exact cz (Kd.R_reads' HO_8.out).2.2); (case side2 => rw [show t446.length = t434.length from (Kd.R_reads' HO_8.out).1.symm]; exact (Kd.R_reads' HO_8.out).2.1); rintro e w' ⟨rfl, ⟨nd, rfl⟩⟩; refine ⟨_, rfl, ?_⟩))
          (try (rw [drewN_self w75]; generalize hq_ : World.drewN w75 _ = w75; have n0_ : Aside0 (Kd.R (Kd.int .i64) 3 w75 w.heap.size (fun k_ => some k_ ≠ (.slice Ao32 t434.length co32 : Value).ownBlock) (.slice Ao33 t426.length co33) t426) := ⟨by rw [← hq_]; exact (rz HO_6.out)⟩; have n1_ : Aside0 (Kd.R (Kd.int .i64) 3 w75 w.heap.size (fun k_ => some k_ ≠ (.slice Ao33 t426.length co33 : Value).ownBlock) (.slice Ao32 t434.length co32) t446) := ⟨by rw [← hq_]; exact (rz HO_8.out)⟩; have n2_ : Aside0 (w75.heap[gb419]? = some (.cells #[.int .i64 a1_0, .int .i64 a1_1] 41 (0, 0))) := ⟨by rw [← hq_]; exact (kz BK419.out)⟩; have n3_ : Aside0 (Below w.heap.size w w75) := ⟨by rw [← hq_]; exact (bz1 HB.out GE419.out)⟩; clear HO_6 HO_8 BK419 HB hq_; have HO_6 := n0_; have HO_8 := n1_; have BK419 := n2_; have HB := n3_; clear n0_ n1_ n2_ n3_))
          have n0_ := Aside0.mk (Kd.R_drew HO_6.out)
          have n1_ := Aside0.mk (Kd.R_drew HO_8.out)
          have n2_ := Aside0.mk (blk_drew BK419.out)
          have n3_ := Aside0.mk (below_drew1 HB.out)
          clear HO_6
          clear HO_8
          clear BK419
          clear HB
          have HO_6 := n0_
          have HO_8 := n1_
          have BK419 := n2_
          have HB := n3_
          clear n0_ n1_ n2_ n3_
          refine start_ (n := 6) (S := fun w' => w'.cell? ⟨gb419, 0, none⟩ = some (.int .i64 a1_0) ∧ w'.cell? ⟨gb419, 1, none⟩ = some (.int .i64 a1_1)) (ds := []) #[false, false, false, false, false, false] (by kernel_rfl) rfl rfl ⟨(blk_cell BK419.out 0).trans rfl, (blk_cell BK419.out 1).trans rfl⟩ (fun hHeld => ?_)
          generalize w75.drew = w76 at HO_6 HO_8 BK419 HB hHeld ⊢
          refine pure_ (i := 0) (N := some 60) (v := ?_) (a' := ?_) #[true, false, false, false, false, false] rfl rfl (by kernel_rfl) (fun _ _ _ h => h) (Or.inl ⟨by rfl, ?_⟩) ?_ ?_
          rotate_left
          ·intro w'
           go_simp
           with_reducible rfl
          rotate_left
          ·simp only [Act.put, List.setIfInBounds_toArray, List.set_cons_zero, List.set_cons_succ, i64_w, i32_w]
           rfl
          refine take_ (i := 2) (N := some 62) (v := ?_) (a' := ?_) #[true, false, true, false, false, false] rfl rfl (by kernel_rfl) (fun _ _ _ h => h) (Or.inl ⟨by rfl, ?_⟩) hHeld ?_ ?_
          rotate_left
          ·rintro w' ⟨s0, s1⟩
           go_simp
           with_reducible rfl
          rotate_left
          ·simp only [Act.put, List.setIfInBounds_toArray, List.set_cons_zero, List.set_cons_succ, i64_w, i32_w]
           rfl
          refine one_ (i := 1) (N := some 61) #[true, true, true, false, false, false] rfl rfl (by kernel_rfl) (by decide) (fun K hK => ?_)
          refine goes_ Tryd.func13 (by kernel_rfl) rfl #[.slice A0 l0.length c0] (by rfl) rfl rfl lz ?_
          with_reducible refine (laws_toNodeS.calls kj18 _ _ l0 t448 _ ?side1 ?side2 A46.out).mono ?_
          (case side1 => exact cz (Kd.C_below HR0.out HB.out))
          (case side2 => exact HC0.out)
          rintro e w77 ⟨v449, rfl, ho0, hb⟩
          refine ⟨_, rfl, ?_⟩
          have n0_ := Aside0.mk (Kd.R_below (rz HO_6.out) hb)
          have n1_ := Aside0.mk (Kd.R_below (rz HO_8.out) hb)
          have n2_ := Aside0.mk (Kd.R_lower ho0 (below_size (bz1 HB.out GE419.out)))
          have n3_ := Aside0.mk (blk_below (g := gb419) (o := .cells #[.int .i64 a1_0, .int .i64 a1_1] 41 (0, 0)) (kz BK419.out) hb)
          have n4_ := Aside0.mk (below_step (bz1 HB.out GE419.out) hb)
          clear HO_6
          clear HO_8
          clear BK419
          clear HB
          have HO_6 := n0_
          have HO_8 := n1_
          have HO450 := n2_
          have BK419 := n3_
          have HB := n4_
          clear n0_ n1_ n2_ n3_ n4_
          (try clear hb)
          (try clear hb2)
          (try clear hk)
          (try clear hi)
          (try clear ho0)
          refine hK.out _ _ ⟨(blk_cell BK419.out 0).trans rfl, (blk_cell BK419.out 1).trans rfl⟩ (fun hHeld => ?_)
          clear hK K
          refine norm_ (a' := ?_) ?_ ?_
          rotate_left
          ·show Act.put _ (some 61) _ = _
           simp only [Act.put, List.setIfInBounds_toArray, List.set_cons_zero, List.set_cons_succ, i64_w, i32_w]
           rfl
          refine one_ (i := 3) (N := some 63) #[true, true, true, true, false, false] rfl rfl (by kernel_rfl) (by decide) (fun K hK => ?_)
          refine goes_ Tryd.func35 (by kernel_rfl) rfl #[.agg #[.int .i64 a1_0, .int .i64 a1_1]] (by rfl) rfl rfl lz ?_
          with_reducible refine (laws_toBind.calls a1_0 a1_1 t451 t452 _ A47.out).mono ?_
          rintro e w78 ⟨rfl, hb⟩
          refine ⟨_, rfl, ?_⟩
          have n0_ := Aside0.mk (Kd.R_below (rz HO_6.out) hb)
          have n1_ := Aside0.mk (Kd.R_below (rz HO_8.out) hb)
          have n2_ := Aside0.mk (Kd.R_below (rz HO450.out) hb)
          have n3_ := Aside0.mk (blk_below (g := gb419) (o := .cells #[.int .i64 a1_0, .int .i64 a1_1] 41 (0, 0)) (kz BK419.out) hb)
          have n4_ := Aside0.mk (below_step (bz1 HB.out GE419.out) hb)
          clear HO_6
          clear HO_8
          clear HO450
          clear BK419
          clear HB
          have HO_6 := n0_
          have HO_8 := n1_
          have HO450 := n2_
          have BK419 := n3_
          have HB := n4_
          clear n0_ n1_ n2_ n3_ n4_
          (try clear hb)
          (try clear hb2)
          (try clear hk)
          (try clear hi)
          obtain ⟨Ao79, co79, eo79⟩ := Kd.R_slice HO450.out
          (first | subst eo79 | (injection eo79 with f1_ f2_ f3_; have f4_ := f1_.symm; have f5_ := f3_.symm; clear f1_ f2_ f3_; subst f4_; subst f5_))
          refine hK.out _ _ ⟨(blk_cell BK419.out 0).trans rfl, (blk_cell BK419.out 1).trans rfl⟩ (fun hHeld => ?_)
          clear hK K
          refine norm_ (a' := ?_) ?_ ?_
          rotate_left
          ·show Act.put _ (some 63) _ = _
           simp only [Act.put, List.setIfInBounds_toArray, List.set_cons_zero, List.set_cons_succ, i64_w, i32_w]
           rfl
          refine one_ (i := 4) (N := some 64) #[true, true, true, true, true, false] rfl rfl (by kernel_rfl) (by decide) (fun K hK => ?_)
          refine goes_ Tryd.func36 (by kernel_rfl) rfl #[.slice Ao79 t448.length co79, .agg #[.int .i64 t451, .int .i64 t452]] (by rfl) rfl rfl lz ?_
          with_reducible refine (impl_UsesOf.calls kj18 _ _ t448 t451 t452 t453 _ ?side1 ?side2 A48.out).mono ?_
          (case side1 => exact cz (Kd.R_reads' HO450.out).2.2)
          (case side2 => exact (Kd.R_reads' HO450.out).2.1)
          rintro e w80 ⟨v454, rfl, ho0, hb⟩
          refine ⟨_, rfl, ?_⟩
          have n0_ := Aside0.mk (Kd.R_elder' (rz HO_6.out) (Kd.R_base ho0) hb)
          have n1_ := Aside0.mk (Kd.R_elder' (rz HO_8.out) (Kd.R_base ho0) hb)
          have n2_ := Aside0.mk (Kd.R_below (rz HO450.out) hb)
          have n3_ := Aside0.mk (Kd.R_lower (Kd.R_new' (Kd.R_new' ho0 (Kd.R_lt (rz HO_6.out))) (Kd.R_lt (rz HO_8.out))) (below_size (bz1 HB.out GE419.out)))
          have n4_ := Aside0.mk (blk_below (g := gb419) (o := .cells #[.int .i64 a1_0, .int .i64 a1_1] 41 (0, 0)) (kz BK419.out) hb)
          have n5_ := Aside0.mk (below_step (bz1 HB.out GE419.out) hb)
          clear HO_6
          clear HO_8
          clear HO450
          clear BK419
          clear HB
          have HO_6 := n0_
          have HO_8 := n1_
          have HO450 := n2_
          have HO455 := n3_
          have BK419 := n4_
          have HB := n5_
          clear n0_ n1_ n2_ n3_ n4_ n5_
          (try clear hb)
          (try clear hb2)
          (try clear hk)
          (try clear hi)
          (try clear ho0)
          refine hK.out _ _ ⟨(blk_cell BK419.out 0).trans rfl, (blk_cell BK419.out 1).trans rfl⟩ (fun hHeld => ?_)
          clear hK K
          refine norm_ (a' := ?_) ?_ ?_
          rotate_left
          ·show Act.put _ (some 64) _ = _
           simp only [Act.put, List.setIfInBounds_toArray, List.set_cons_zero, List.set_cons_succ, i64_w, i32_w]
           rfl
          refine pure_ (i := 5) (N := some 12) (v := ?_) (a' := ?_) #[true, true, true, true, true, true] rfl rfl (by kernel_rfl) (fun _ _ _ h => h) (Or.inl ⟨by rfl, ?_⟩) ?_ ?_
          rotate_left
          ·intro w'
           go_simp
           with_reducible rfl
          rotate_left
          ·simp only [Act.put, List.setIfInBounds_toArray, List.set_cons_zero, List.set_cons_succ, i64_w, i32_w]
           rfl
          refine done_ (by kernel_rfl) ?_
          obtain ⟨Ao81, co81, eo81⟩ := Kd.R_slice HO455.out
          subst eo81
          try go_wp2_with (first | ((with_reducible refine gate_callee (f := 37) rfl ?_); refine goesL_ (some 67) rfl rfl Tryd.func37 (by kernel_rfl) rfl #[.slice Ao81 t453.length co81, .slice Ao33 t426.length co33] rfl lz ?_; (with_reducible refine (laws_eqIntS.calls kj18 _ _ t453 _ _ t426 false _ ?side1 ?side2 ?side3 ?side4 A49.out).mono ?_); (case side1 => exact cz (Kd.R_reads' HO455.out).2.2); (case side2 => exact (Kd.R_reads' HO455.out).2.1); (case side3 => exact cz (Kd.R_reads' HO_6.out).2.2); (case side4 => exact (Kd.R_reads' HO_6.out).2.1); rintro e w' ⟨rfl, ⟨nd, rfl⟩⟩; refine ⟨_, rfl, ?_⟩))
          go_ret
          exact ⟨gz, (bz1 HB.out GE419.out)⟩
        ·rw [if_neg c45] at H
         have c45b0 : (t447 == t445) = false := beq_eq_false_iff_ne.mpr c45
         have c45b1 : (t447 != t445) = true := bne_iff_ne.mpr c45
         obtain rfl := Option.some.inj H
         go_wp2_with (first | ((with_reducible refine gate_callee (f := 38) rfl ?_); refine goesL_ (some 51) rfl rfl Tryd.func38 (by kernel_rfl) rfl #[.slice Ao32 t434.length co32, .int .i64 1] rfl lz ?_; (with_reducible refine (laws_markIntS.calls kj18 (fun k_ => some k_ = (.slice Ao32 t434.length co32 : Value).ownBlock) (.slice Ao32 t434.length co32) t434 1 t445 t446 w _ ?side1 ?side2 A41.out).mono ?_); (case side1 => repeat (first | (with_reducible first | exact HB.out | apply below_alloc | apply pw_below_drewN | apply below_drew1 | refine below_set ?_ GE419.out) | exact HB.out)); (case side2 => exact Kd.R_tight rfl HO_8.out); rintro e w82 ⟨rfl, hy0, hb, hkp⟩; refine ⟨_, rfl, ?_⟩; have n0_ := Aside0.mk (Kd.R_mono (ok' := fun k_ => some k_ ≠ (.slice Ao32 t434.length co32 : Value).ownBlock) (Kd.R_keptB (HO_6.out) hkp (fun k_ hk_ hs_ => (hk_) hs_)) (fun k_ hk_ => hk_.1)); have n1_ := Aside0.mk (Kd.R_reok rfl hy0 (fun k_ e_ => HO_8.out.1 k_ e_)); have n2_ := Aside0.mk (blk_kept (kz BK419.out) hkp (fun hs_ => (fun e_ => (Kd.R_ne HO_8.out BK419.out (by decide)) e_) hs_)); have n3_ := Aside0.mk (hb); clear HO_6; clear HO_8; clear BK419; clear HB; have HO_6 := n0_; have HO_8 := n1_; have BK419 := n2_; have HB := n3_; clear n0_ n1_ n2_ n3_; (try clear hb); (try clear hkp); (try clear hy0)) | ((with_reducible refine gate_callee (f := 39) rfl ?_); refine goesL_ (some 54) rfl rfl Tryd.func39 (by kernel_rfl) rfl #[.slice Ao32 t446.length co32, .int .i64 1] rfl (by (try simp only [List.map_toArray, List.map_cons, List.map_nil]); first | done | (rw [show t446.length = t434.length from (Kd.R_reads' HO_8.out).1.symm] <;> rfl) | rfl | (simp only [List.length_drop, List.length_take]; rfl)) ?_; (with_reducible refine (laws_heldIntS.calls kj18 _ _ t446 1 t447 _ ?side1 ?side2 A42.out).mono ?_); (case side1 => exact cz (Kd.R_reads' HO_8.out).2.2); (case side2 => rw [show t446.length = t434.length from (Kd.R_reads' HO_8.out).1.symm]; exact (Kd.R_reads' HO_8.out).2.1); rintro e w' ⟨rfl, ⟨nd, rfl⟩⟩; refine ⟨_, rfl, ?_⟩))
         go_ret
         exact ⟨gz, (bz1 HB.out GE419.out)⟩
   ·replace c17 := Bool.eq_false_iff.mpr c17
    subst c17
    have H1 : (some false) = some r := by rw [if_neg (show ¬ (false = true) by decide)] at H; exact H
    clear H
    have H := H1
    clear H1
    obtain rfl := Option.some.inj H
    go_enter Tryd.func10, Tryd.ntmps10
    try go_wp2_with (first | ((with_reducible refine gate_dst (N := 3) rfl ?_); refine box_event ?hg (N := 3) ?hd (cs := #[.int .i64 a1_0, .int .i64 a1_1]) (t := 41) ?hr ?_; (case hd => rfl); (case hg => rfl); (case hr => first | (go_simp; done) | (go_simp; rfl)); intro gb419 hg w83 hbox hb; have n0_ := Aside0.mk (below_step (bz0 HB.out) hb); have n1_ := Aside0.mk (hbox); have n2_ := Aside0.mk ((by rw [hg]; exact (below_size (bz0 HB.out)) : w.heap.size ≤ gb419)); have n3_ := Aside0.mk ((by rw [hg]; exact (below_size (bz0 HB.out)) : w.heap.size ≤ gb419)); clear HB; have HB := n0_; have BK419 := n1_; have GW419 := n2_; have GE419 := n3_; clear n0_ n1_ n2_ n3_; clear hb hbox hg) | ((with_reducible refine gate_callee (f := 11) rfl ?_); refine goesL_ (some 15) rfl rfl Tryd.func11 (by kernel_rfl) rfl #[.slice A0 l0.length c0, .int .i64 1048576] rfl lz ?_; (with_reducible refine (laws_szNodeS.calls k _ _ l0 1048576 t420 _ ?side1 ?side2 A3.out).mono ?_); (case side1 => exact cz (Kd.C_below HR0.out HB.out)); (case side2 => exact HC0.out); rintro e w84 ⟨rfl, hb⟩; refine ⟨_, rfl, ?_⟩; have n0_ := Aside0.mk (blk_below (g := gb419) (o := .cells #[.int .i64 a1_0, .int .i64 a1_1] 41 (0, 0)) (kz BK419.out) hb); have n1_ := Aside0.mk (below_step (bz1 HB.out GE419.out) hb); clear BK419; clear HB; have BK419 := n0_; have HB := n1_; clear n0_ n1_; (try clear hb); (try clear hb2); (try clear hk); (try clear hi)))
    have n0_ := Aside0.mk (blk_drew BK419.out)
    have n1_ := Aside0.mk (below_drew1 HB.out)
    clear BK419
    clear HB
    have BK419 := n0_
    have HB := n1_
    clear n0_ n1_
    refine start_ (n := 6) (S := fun w' => w'.cell? ⟨gb419, 0, none⟩ = some (.int .i64 a1_0) ∧ w'.cell? ⟨gb419, 1, none⟩ = some (.int .i64 a1_1)) (ds := []) #[false, false, false, false, false, false] (by kernel_rfl) rfl rfl ⟨(blk_cell BK419.out 0).trans rfl, (blk_cell BK419.out 1).trans rfl⟩ (fun hHeld => ?_)
    generalize w84.drew = w85 at BK419 HB hHeld ⊢
    refine pure_ (i := 0) (N := some 18) (v := ?_) (a' := ?_) #[true, false, false, false, false, false] rfl rfl (by kernel_rfl) (fun _ _ _ h => h) (Or.inl ⟨by rfl, ?_⟩) ?_ ?_
    rotate_left
    ·intro w'
     go_simp
     with_reducible rfl
    rotate_left
    ·simp only [Act.put, List.setIfInBounds_toArray, List.set_cons_zero, List.set_cons_succ, i64_w, i32_w]
     rfl
    refine take_ (i := 2) (N := some 20) (v := ?_) (a' := ?_) #[true, false, true, false, false, false] rfl rfl (by kernel_rfl) (fun _ _ _ h => h) (Or.inl ⟨by rfl, ?_⟩) hHeld ?_ ?_
    rotate_left
    ·rintro w' ⟨s0, s1⟩
     go_simp
     with_reducible rfl
    rotate_left
    ·simp only [Act.put, List.setIfInBounds_toArray, List.set_cons_zero, List.set_cons_succ, i64_w, i32_w]
     rfl
    refine one_ (i := 1) (N := some 19) #[true, true, true, false, false, false] rfl rfl (by kernel_rfl) (by decide) (fun K hK => ?_)
    refine goes_ Tryd.func13 (by kernel_rfl) rfl #[.slice A0 l0.length c0] (by rfl) rfl rfl lz ?_
    with_reducible refine (laws_toNodeS.calls k _ _ l0 t421 _ ?side1 ?side2 A7.out).mono ?_
    (case side1 => exact cz (Kd.C_below HR0.out HB.out))
    (case side2 => exact HC0.out)
    rintro e w86 ⟨v422, rfl, ho0, hb⟩
    refine ⟨_, rfl, ?_⟩
    have n0_ := Aside0.mk (Kd.R_lower ho0 (below_size (bz1 HB.out GE419.out)))
    have n1_ := Aside0.mk (blk_below (g := gb419) (o := .cells #[.int .i64 a1_0, .int .i64 a1_1] 41 (0, 0)) (kz BK419.out) hb)
    have n2_ := Aside0.mk (below_step (bz1 HB.out GE419.out) hb)
    clear BK419
    clear HB
    have HO423 := n0_
    have BK419 := n1_
    have HB := n2_
    clear n0_ n1_ n2_
    (try clear hb)
    (try clear hb2)
    (try clear hk)
    (try clear hi)
    (try clear ho0)
    refine hK.out _ _ ⟨(blk_cell BK419.out 0).trans rfl, (blk_cell BK419.out 1).trans rfl⟩ (fun hHeld => ?_)
    clear hK K
    refine norm_ (a' := ?_) ?_ ?_
    rotate_left
    ·show Act.put _ (some 19) _ = _
     simp only [Act.put, List.setIfInBounds_toArray, List.set_cons_zero, List.set_cons_succ, i64_w, i32_w]
     rfl
    refine one_ (i := 3) (N := some 21) #[true, true, true, true, false, false] rfl rfl (by kernel_rfl) (by decide) (fun K hK => ?_)
    refine goes_ Tryd.func35 (by kernel_rfl) rfl #[.agg #[.int .i64 a1_0, .int .i64 a1_1]] (by rfl) rfl rfl lz ?_
    with_reducible refine (laws_toBind.calls a1_0 a1_1 t424 t425 _ A8.out).mono ?_
    rintro e w87 ⟨rfl, hb⟩
    refine ⟨_, rfl, ?_⟩
    have n0_ := Aside0.mk (Kd.R_below (rz HO423.out) hb)
    have n1_ := Aside0.mk (blk_below (g := gb419) (o := .cells #[.int .i64 a1_0, .int .i64 a1_1] 41 (0, 0)) (kz BK419.out) hb)
    have n2_ := Aside0.mk (below_step (bz1 HB.out GE419.out) hb)
    clear HO423
    clear BK419
    clear HB
    have HO423 := n0_
    have BK419 := n1_
    have HB := n2_
    clear n0_ n1_ n2_
    (try clear hb)
    (try clear hb2)
    (try clear hk)
    (try clear hi)
    obtain ⟨Ao88, co88, eo88⟩ := Kd.R_slice HO423.out
    (first | subst eo88 | (injection eo88 with f1_ f2_ f3_; have f4_ := f1_.symm; have f5_ := f3_.symm; clear f1_ f2_ f3_; subst f4_; subst f5_))
    refine hK.out _ _ ⟨(blk_cell BK419.out 0).trans rfl, (blk_cell BK419.out 1).trans rfl⟩ (fun hHeld => ?_)
    clear hK K
    refine norm_ (a' := ?_) ?_ ?_
    rotate_left
    ·show Act.put _ (some 21) _ = _
     simp only [Act.put, List.setIfInBounds_toArray, List.set_cons_zero, List.set_cons_succ, i64_w, i32_w]
     rfl
    refine one_ (i := 4) (N := some 22) #[true, true, true, true, true, false] rfl rfl (by kernel_rfl) (by decide) (fun K hK => ?_)
    refine goes_ Tryd.func34 (by kernel_rfl) rfl #[.slice Ao88 t421.length co88, .agg #[.int .i64 t424, .int .i64 t425]] (by rfl) rfl rfl lz ?_
    with_reducible refine (spec_UsesOf.calls k _ _ t421 t424 t425 t426 _ ?side1 ?side2 A9.out).mono ?_
    (case side1 => exact cz (Kd.R_reads' HO423.out).2.2)
    (case side2 => exact (Kd.R_reads' HO423.out).2.1)
    rintro e w89 ⟨v427, rfl, ho0, hb⟩
    refine ⟨_, rfl, ?_⟩
    have n0_ := Aside0.mk (Kd.R_below (rz HO423.out) hb)
    have n1_ := Aside0.mk (Kd.R_lower ho0 (below_size (bz1 HB.out GE419.out)))
    have n2_ := Aside0.mk (blk_below (g := gb419) (o := .cells #[.int .i64 a1_0, .int .i64 a1_1] 41 (0, 0)) (kz BK419.out) hb)
    have n3_ := Aside0.mk (below_step (bz1 HB.out GE419.out) hb)
    clear HO423
    clear BK419
    clear HB
    have HO423 := n0_
    have HO428 := n1_
    have BK419 := n2_
    have HB := n3_
    clear n0_ n1_ n2_ n3_
    (try clear hb)
    (try clear hb2)
    (try clear hk)
    (try clear hi)
    (try clear ho0)
    refine hK.out _ _ ⟨(blk_cell BK419.out 0).trans rfl, (blk_cell BK419.out 1).trans rfl⟩ (fun hHeld => ?_)
    clear hK K
    refine norm_ (a' := ?_) ?_ ?_
    rotate_left
    ·show Act.put _ (some 22) _ = _
     simp only [Act.put, List.setIfInBounds_toArray, List.set_cons_zero, List.set_cons_succ, i64_w, i32_w]
     rfl
    refine pure_ (i := 5) (N := some 6) (v := ?_) (a' := ?_) #[true, true, true, true, true, true] rfl rfl (by kernel_rfl) (fun _ _ _ h => h) (Or.inl ⟨by rfl, ?_⟩) ?_ ?_
    rotate_left
    ·intro w'
     go_simp
     with_reducible rfl
    rotate_left
    ·simp only [Act.put, List.setIfInBounds_toArray, List.set_cons_zero, List.set_cons_succ, i64_w, i32_w]
     rfl
    refine done_ (by kernel_rfl) ?_
    try go_wp2_with (first | ((with_reducible refine gate_callee (f := 13) rfl ?_); refine goesL_ (some 24) rfl rfl Tryd.func13 (by kernel_rfl) rfl #[.slice A0 l0.length c0] rfl lz ?_; (with_reducible refine (laws_toNodeS.calls k _ _ l0 t429 _ ?side1 ?side2 A10.out).mono ?_); (case side1 => exact cz (Kd.C_below HR0.out HB.out)); (case side2 => exact HC0.out); rintro e w90 ⟨v430, rfl, ho0, hb⟩; refine ⟨_, rfl, ?_⟩; have n0_ := Aside0.mk (Kd.R_elder' (rz HO423.out) (Kd.R_base ho0) hb); have n1_ := Aside0.mk (Kd.R_below (rz HO428.out) hb); have n2_ := Aside0.mk (Kd.R_lower (Kd.R_new' ho0 (Kd.R_lt (rz HO423.out))) (below_size (bz1 HB.out GE419.out))); have n3_ := Aside0.mk (blk_below (g := gb419) (o := .cells #[.int .i64 a1_0, .int .i64 a1_1] 41 (0, 0)) (kz BK419.out) hb); have n4_ := Aside0.mk (below_step (bz1 HB.out GE419.out) hb); clear HO423; clear HO428; clear BK419; clear HB; have HO423 := n0_; have HO428 := n1_; have HO431 := n2_; have BK419 := n3_; have HB := n4_; clear n0_ n1_ n2_ n3_ n4_; (try clear hb); (try clear hb2); (try clear hk); (try clear hi); (try clear ho0); have hcz91_0 : w90.cell? ⟨gb419, 0, none⟩ = some (.int .i64 a1_0) := (blk_cell BK419.out 0).trans rfl; have hcz91_1 : w90.cell? ⟨gb419, 1, none⟩ = some (.int .i64 a1_1) := (blk_cell BK419.out 1).trans rfl; have hfz91_0 := blk_frozen BK419.out 0; have hfz91_1 := blk_frozen BK419.out 1) | ((with_reducible refine gate_callee (f := 35) rfl ?_); refine goesL_ (some 27) rfl rfl Tryd.func35 (by kernel_rfl) rfl #[.agg #[.int .i64 a1_0, .int .i64 a1_1]] rfl lz ?_; (with_reducible refine (laws_toBind.calls a1_0 a1_1 t432 t433 _ A11.out).mono ?_); rintro e w92 ⟨rfl, hb⟩; refine ⟨_, rfl, ?_⟩; have n0_ := Aside0.mk (Kd.R_below (rz HO423.out) hb); have n1_ := Aside0.mk (Kd.R_below (rz HO428.out) hb); have n2_ := Aside0.mk (Kd.R_below (rz HO431.out) hb); have n3_ := Aside0.mk (blk_below (g := gb419) (o := .cells #[.int .i64 a1_0, .int .i64 a1_1] 41 (0, 0)) (kz BK419.out) hb); have n4_ := Aside0.mk (below_step (bz1 HB.out GE419.out) hb); clear HO423; clear HO428; clear HO431; clear BK419; clear HB; have HO423 := n0_; have HO428 := n1_; have HO431 := n2_; have BK419 := n3_; have HB := n4_; clear n0_ n1_ n2_ n3_ n4_; (try clear hb); (try clear hb2); (try clear hk); (try clear hi); obtain ⟨Ao93, co93, eo93⟩ := Kd.R_slice HO431.out; subst eo93) | ((with_reducible refine gate_callee (f := 36) rfl ?_); refine goesL_ (some 28) rfl rfl Tryd.func36 (by kernel_rfl) rfl #[.slice Ao93 t429.length co93, .agg #[.int .i64 t432, .int .i64 t433]] rfl lz ?_; (with_reducible refine (impl_UsesOf.calls k _ _ t429 t432 t433 t434 _ ?side1 ?side2 A12.out).mono ?_); (case side1 => exact cz (Kd.R_reads' HO431.out).2.2); (case side2 => exact (Kd.R_reads' HO431.out).2.1); rintro e w94 ⟨v435, rfl, ho0, hb⟩; refine ⟨_, rfl, ?_⟩; have n0_ := Aside0.mk (Kd.R_below (rz HO423.out) hb); have n1_ := Aside0.mk (Kd.R_elder' (rz HO428.out) (Kd.R_base ho0) hb); have n2_ := Aside0.mk (Kd.R_below (rz HO431.out) hb); have n3_ := Aside0.mk (Kd.R_lower (Kd.R_new' ho0 (Kd.R_lt (rz HO428.out))) (below_size (bz1 HB.out GE419.out))); have n4_ := Aside0.mk (blk_below (g := gb419) (o := .cells #[.int .i64 a1_0, .int .i64 a1_1] 41 (0, 0)) (kz BK419.out) hb); have n5_ := Aside0.mk (below_step (bz1 HB.out GE419.out) hb); clear HO423; clear HO428; clear HO431; clear BK419; clear HB; have HO423 := n0_; have HO428 := n1_; have HO431 := n2_; have HO436 := n3_; have BK419 := n4_; have HB := n5_; clear n0_ n1_ n2_ n3_ n4_ n5_; (try clear hb); (try clear hb2); (try clear hk); (try clear hi); (try clear ho0); obtain ⟨Ao95, co95, eo95⟩ := Kd.R_slice HO436.out; subst eo95; obtain ⟨Ao96, co96, eo96⟩ := Kd.R_slice HO428.out; subst eo96) | ((with_reducible refine gate_callee (f := 37) rfl ?_); refine goesL_ (some 31) rfl rfl Tryd.func37 (by kernel_rfl) rfl #[.slice Ao95 t434.length co95, .slice Ao96 t426.length co96] rfl lz ?_; (with_reducible refine (laws_eqIntS.calls k _ _ t434 _ _ t426 true _ ?side1 ?side2 ?side3 ?side4 A13.out).mono ?_); (case side1 => exact cz (Kd.R_reads' HO436.out).2.2); (case side2 => exact (Kd.R_reads' HO436.out).2.1); (case side3 => exact cz (Kd.R_reads' HO428.out).2.2); (case side4 => exact (Kd.R_reads' HO428.out).2.1); rintro e w' ⟨rfl, ⟨nd, rfl⟩⟩; refine ⟨_, rfl, ?_⟩) | ((with_reducible refine gate_callee (f := 13) rfl ?_); refine goesL_ (some 35) rfl rfl Tryd.func13 (by kernel_rfl) rfl #[.slice A0 l0.length c0] rfl lz ?_; (with_reducible refine (laws_toNodeS.calls k _ _ l0 t438 _ ?side1 ?side2 A15.out).mono ?_); (case side1 => exact cz (Kd.C_below HR0.out (bz1 HB.out GE419.out))); (case side2 => exact HC0.out); rintro e w97 ⟨v439, rfl, ho0, hb⟩; refine ⟨_, rfl, ?_⟩; have n0_ := Aside0.mk (Kd.R_elder' (rz HO423.out) (Kd.R_base ho0) hb); have n1_ := Aside0.mk (Kd.R_below (rz HO428.out) hb); have n2_ := Aside0.mk (Kd.R_elder' (rz HO431.out) (Kd.R_base ho0) hb); have n3_ := Aside0.mk (Kd.R_below (rz HO436.out) hb); have n4_ := Aside0.mk (Kd.R_lower (Kd.R_new' (Kd.R_new' ho0 (Kd.R_lt (rz HO423.out))) (Kd.R_lt (rz HO431.out))) (below_size (bz1 HB.out GE419.out))); have n5_ := Aside0.mk (blk_below (g := gb419) (o := .cells #[.int .i64 a1_0, .int .i64 a1_1] 41 (0, 0)) (kz BK419.out) hb); have n6_ := Aside0.mk (below_step (bz1 HB.out GE419.out) hb); clear HO423; clear HO428; clear HO431; clear HO436; clear BK419; clear HB; have HO423 := n0_; have HO428 := n1_; have HO431 := n2_; have HO436 := n3_; have HO440 := n4_; have BK419 := n5_; have HB := n6_; clear n0_ n1_ n2_ n3_ n4_ n5_ n6_; (try clear hb); (try clear hb2); (try clear hk); (try clear hi); (try clear ho0); obtain ⟨Ao98, co98, eo98⟩ := Kd.R_slice HO440.out; subst eo98) | ((with_reducible refine gate_callee (f := 15) rfl ?_); refine goesL_ (some 36) rfl rfl Tryd.func15 (by kernel_rfl) rfl #[.slice Ao93 t429.length co93, .slice Ao98 t438.length co98] rfl lz ?_; (with_reducible refine (laws_eqNodeS.calls k _ _ t429 _ _ t438 false _ ?side1 ?side2 ?side3 ?side4 A16.out).mono ?_); (case side1 => exact cz (Kd.R_reads' HO431.out).2.2); (case side2 => exact (Kd.R_reads' HO431.out).2.1); (case side3 => exact cz (Kd.R_reads' HO440.out).2.2); (case side4 => exact (Kd.R_reads' HO440.out).2.1); rintro e w99 ⟨rfl, hb⟩; refine ⟨_, rfl, ?_⟩; have n0_ := Aside0.mk (Kd.R_below (rz HO423.out) hb); have n1_ := Aside0.mk (Kd.R_below (rz HO428.out) hb); have n2_ := Aside0.mk (Kd.R_below (rz HO431.out) hb); have n3_ := Aside0.mk (Kd.R_below (rz HO436.out) hb); have n4_ := Aside0.mk (Kd.R_below (rz HO440.out) hb); have n5_ := Aside0.mk (blk_below (g := gb419) (o := .cells #[.int .i64 a1_0, .int .i64 a1_1] 41 (0, 0)) (kz BK419.out) hb); have n6_ := Aside0.mk (below_step (bz1 HB.out GE419.out) hb); clear HO423; clear HO428; clear HO431; clear HO436; clear HO440; clear BK419; clear HB; have HO423 := n0_; have HO428 := n1_; have HO431 := n2_; have HO436 := n3_; have HO440 := n4_; have BK419 := n5_; have HB := n6_; clear n0_ n1_ n2_ n3_ n4_ n5_ n6_; (try clear hb); (try clear hb2); (try clear hk); (try clear hi)))
    go_ret
    exact ⟨gz, (bz1 HB.out GE419.out)⟩
  ·replace c14 := Bool.eq_false_iff.mpr c14
   subst c14
   have H1 : (some false) = some r := by rw [if_neg (show ¬ (false = true) by decide)] at H; exact H
   clear H
   have H := H1
   clear H1
   obtain rfl := Option.some.inj H
   go_enter Tryd.func10, Tryd.ntmps10
   try go_wp2_with (first | ((with_reducible refine gate_dst (N := 3) rfl ?_); refine box_event ?hg (N := 3) ?hd (cs := #[.int .i64 a1_0, .int .i64 a1_1]) (t := 41) ?hr ?_; (case hd => rfl); (case hg => rfl); (case hr => first | (go_simp; done) | (go_simp; rfl)); intro gb419 hg w100 hbox hb; have n0_ := Aside0.mk (below_step (bz0 HB.out) hb); have n1_ := Aside0.mk (hbox); have n2_ := Aside0.mk ((by rw [hg]; exact (below_size (bz0 HB.out)) : w.heap.size ≤ gb419)); have n3_ := Aside0.mk ((by rw [hg]; exact (below_size (bz0 HB.out)) : w.heap.size ≤ gb419)); clear HB; have HB := n0_; have BK419 := n1_; have GW419 := n2_; have GE419 := n3_; clear n0_ n1_ n2_ n3_; clear hb hbox hg) | ((with_reducible refine gate_callee (f := 11) rfl ?_); refine goesL_ (some 15) rfl rfl Tryd.func11 (by kernel_rfl) rfl #[.slice A0 l0.length c0, .int .i64 1048576] rfl lz ?_; (with_reducible refine (laws_szNodeS.calls k _ _ l0 1048576 t420 _ ?side1 ?side2 A3.out).mono ?_); (case side1 => exact cz (Kd.C_below HR0.out HB.out)); (case side2 => exact HC0.out); rintro e w101 ⟨rfl, hb⟩; refine ⟨_, rfl, ?_⟩; have n0_ := Aside0.mk (blk_below (g := gb419) (o := .cells #[.int .i64 a1_0, .int .i64 a1_1] 41 (0, 0)) (kz BK419.out) hb); have n1_ := Aside0.mk (below_step (bz1 HB.out GE419.out) hb); clear BK419; clear HB; have BK419 := n0_; have HB := n1_; clear n0_ n1_; (try clear hb); (try clear hb2); (try clear hk); (try clear hi)))
   have n0_ := Aside0.mk (blk_drew BK419.out)
   have n1_ := Aside0.mk (below_drew1 HB.out)
   clear BK419
   clear HB
   have BK419 := n0_
   have HB := n1_
   clear n0_ n1_
   refine start_ (n := 6) (S := fun w' => w'.cell? ⟨gb419, 0, none⟩ = some (.int .i64 a1_0) ∧ w'.cell? ⟨gb419, 1, none⟩ = some (.int .i64 a1_1)) (ds := []) #[false, false, false, false, false, false] (by kernel_rfl) rfl rfl ⟨(blk_cell BK419.out 0).trans rfl, (blk_cell BK419.out 1).trans rfl⟩ (fun hHeld => ?_)
   generalize w101.drew = w102 at BK419 HB hHeld ⊢
   refine pure_ (i := 0) (N := some 18) (v := ?_) (a' := ?_) #[true, false, false, false, false, false] rfl rfl (by kernel_rfl) (fun _ _ _ h => h) (Or.inl ⟨by rfl, ?_⟩) ?_ ?_
   rotate_left
   ·intro w'
    go_simp
    with_reducible rfl
   rotate_left
   ·simp only [Act.put, List.setIfInBounds_toArray, List.set_cons_zero, List.set_cons_succ, i64_w, i32_w]
    rfl
   refine take_ (i := 2) (N := some 20) (v := ?_) (a' := ?_) #[true, false, true, false, false, false] rfl rfl (by kernel_rfl) (fun _ _ _ h => h) (Or.inl ⟨by rfl, ?_⟩) hHeld ?_ ?_
   rotate_left
   ·rintro w' ⟨s0, s1⟩
    go_simp
    with_reducible rfl
   rotate_left
   ·simp only [Act.put, List.setIfInBounds_toArray, List.set_cons_zero, List.set_cons_succ, i64_w, i32_w]
    rfl
   refine one_ (i := 1) (N := some 19) #[true, true, true, false, false, false] rfl rfl (by kernel_rfl) (by decide) (fun K hK => ?_)
   refine goes_ Tryd.func13 (by kernel_rfl) rfl #[.slice A0 l0.length c0] (by rfl) rfl rfl lz ?_
   with_reducible refine (laws_toNodeS.calls k _ _ l0 t421 _ ?side1 ?side2 A7.out).mono ?_
   (case side1 => exact cz (Kd.C_below HR0.out HB.out))
   (case side2 => exact HC0.out)
   rintro e w103 ⟨v422, rfl, ho0, hb⟩
   refine ⟨_, rfl, ?_⟩
   have n0_ := Aside0.mk (Kd.R_lower ho0 (below_size (bz1 HB.out GE419.out)))
   have n1_ := Aside0.mk (blk_below (g := gb419) (o := .cells #[.int .i64 a1_0, .int .i64 a1_1] 41 (0, 0)) (kz BK419.out) hb)
   have n2_ := Aside0.mk (below_step (bz1 HB.out GE419.out) hb)
   clear BK419
   clear HB
   have HO423 := n0_
   have BK419 := n1_
   have HB := n2_
   clear n0_ n1_ n2_
   (try clear hb)
   (try clear hb2)
   (try clear hk)
   (try clear hi)
   (try clear ho0)
   refine hK.out _ _ ⟨(blk_cell BK419.out 0).trans rfl, (blk_cell BK419.out 1).trans rfl⟩ (fun hHeld => ?_)
   clear hK K
   refine norm_ (a' := ?_) ?_ ?_
   rotate_left
   ·show Act.put _ (some 19) _ = _
    simp only [Act.put, List.setIfInBounds_toArray, List.set_cons_zero, List.set_cons_succ, i64_w, i32_w]
    rfl
   refine one_ (i := 3) (N := some 21) #[true, true, true, true, false, false] rfl rfl (by kernel_rfl) (by decide) (fun K hK => ?_)
   refine goes_ Tryd.func35 (by kernel_rfl) rfl #[.agg #[.int .i64 a1_0, .int .i64 a1_1]] (by rfl) rfl rfl lz ?_
   with_reducible refine (laws_toBind.calls a1_0 a1_1 t424 t425 _ A8.out).mono ?_
   rintro e w104 ⟨rfl, hb⟩
   refine ⟨_, rfl, ?_⟩
   have n0_ := Aside0.mk (Kd.R_below (rz HO423.out) hb)
   have n1_ := Aside0.mk (blk_below (g := gb419) (o := .cells #[.int .i64 a1_0, .int .i64 a1_1] 41 (0, 0)) (kz BK419.out) hb)
   have n2_ := Aside0.mk (below_step (bz1 HB.out GE419.out) hb)
   clear HO423
   clear BK419
   clear HB
   have HO423 := n0_
   have BK419 := n1_
   have HB := n2_
   clear n0_ n1_ n2_
   (try clear hb)
   (try clear hb2)
   (try clear hk)
   (try clear hi)
   obtain ⟨Ao105, co105, eo105⟩ := Kd.R_slice HO423.out
   (first | subst eo105 | (injection eo105 with f1_ f2_ f3_; have f4_ := f1_.symm; have f5_ := f3_.symm; clear f1_ f2_ f3_; subst f4_; subst f5_))
   refine hK.out _ _ ⟨(blk_cell BK419.out 0).trans rfl, (blk_cell BK419.out 1).trans rfl⟩ (fun hHeld => ?_)
   clear hK K
   refine norm_ (a' := ?_) ?_ ?_
   rotate_left
   ·show Act.put _ (some 21) _ = _
    simp only [Act.put, List.setIfInBounds_toArray, List.set_cons_zero, List.set_cons_succ, i64_w, i32_w]
    rfl
   refine one_ (i := 4) (N := some 22) #[true, true, true, true, true, false] rfl rfl (by kernel_rfl) (by decide) (fun K hK => ?_)
   refine goes_ Tryd.func34 (by kernel_rfl) rfl #[.slice Ao105 t421.length co105, .agg #[.int .i64 t424, .int .i64 t425]] (by rfl) rfl rfl lz ?_
   with_reducible refine (spec_UsesOf.calls k _ _ t421 t424 t425 t426 _ ?side1 ?side2 A9.out).mono ?_
   (case side1 => exact cz (Kd.R_reads' HO423.out).2.2)
   (case side2 => exact (Kd.R_reads' HO423.out).2.1)
   rintro e w106 ⟨v427, rfl, ho0, hb⟩
   refine ⟨_, rfl, ?_⟩
   have n0_ := Aside0.mk (Kd.R_below (rz HO423.out) hb)
   have n1_ := Aside0.mk (Kd.R_lower ho0 (below_size (bz1 HB.out GE419.out)))
   have n2_ := Aside0.mk (blk_below (g := gb419) (o := .cells #[.int .i64 a1_0, .int .i64 a1_1] 41 (0, 0)) (kz BK419.out) hb)
   have n3_ := Aside0.mk (below_step (bz1 HB.out GE419.out) hb)
   clear HO423
   clear BK419
   clear HB
   have HO423 := n0_
   have HO428 := n1_
   have BK419 := n2_
   have HB := n3_
   clear n0_ n1_ n2_ n3_
   (try clear hb)
   (try clear hb2)
   (try clear hk)
   (try clear hi)
   (try clear ho0)
   refine hK.out _ _ ⟨(blk_cell BK419.out 0).trans rfl, (blk_cell BK419.out 1).trans rfl⟩ (fun hHeld => ?_)
   clear hK K
   refine norm_ (a' := ?_) ?_ ?_
   rotate_left
   ·show Act.put _ (some 22) _ = _
    simp only [Act.put, List.setIfInBounds_toArray, List.set_cons_zero, List.set_cons_succ, i64_w, i32_w]
    rfl
   refine pure_ (i := 5) (N := some 6) (v := ?_) (a' := ?_) #[true, true, true, true, true, true] rfl rfl (by kernel_rfl) (fun _ _ _ h => h) (Or.inl ⟨by rfl, ?_⟩) ?_ ?_
   rotate_left
   ·intro w'
    go_simp
    with_reducible rfl
   rotate_left
   ·simp only [Act.put, List.setIfInBounds_toArray, List.set_cons_zero, List.set_cons_succ, i64_w, i32_w]
    rfl
   refine done_ (by kernel_rfl) ?_
   try go_wp2_with (first | ((with_reducible refine gate_callee (f := 13) rfl ?_); refine goesL_ (some 24) rfl rfl Tryd.func13 (by kernel_rfl) rfl #[.slice A0 l0.length c0] rfl lz ?_; (with_reducible refine (laws_toNodeS.calls k _ _ l0 t429 _ ?side1 ?side2 A10.out).mono ?_); (case side1 => exact cz (Kd.C_below HR0.out HB.out)); (case side2 => exact HC0.out); rintro e w107 ⟨v430, rfl, ho0, hb⟩; refine ⟨_, rfl, ?_⟩; have n0_ := Aside0.mk (Kd.R_elder' (rz HO423.out) (Kd.R_base ho0) hb); have n1_ := Aside0.mk (Kd.R_below (rz HO428.out) hb); have n2_ := Aside0.mk (Kd.R_lower (Kd.R_new' ho0 (Kd.R_lt (rz HO423.out))) (below_size (bz1 HB.out GE419.out))); have n3_ := Aside0.mk (blk_below (g := gb419) (o := .cells #[.int .i64 a1_0, .int .i64 a1_1] 41 (0, 0)) (kz BK419.out) hb); have n4_ := Aside0.mk (below_step (bz1 HB.out GE419.out) hb); clear HO423; clear HO428; clear BK419; clear HB; have HO423 := n0_; have HO428 := n1_; have HO431 := n2_; have BK419 := n3_; have HB := n4_; clear n0_ n1_ n2_ n3_ n4_; (try clear hb); (try clear hb2); (try clear hk); (try clear hi); (try clear ho0); have hcz108_0 : w107.cell? ⟨gb419, 0, none⟩ = some (.int .i64 a1_0) := (blk_cell BK419.out 0).trans rfl; have hcz108_1 : w107.cell? ⟨gb419, 1, none⟩ = some (.int .i64 a1_1) := (blk_cell BK419.out 1).trans rfl; have hfz108_0 := blk_frozen BK419.out 0; have hfz108_1 := blk_frozen BK419.out 1) | ((with_reducible refine gate_callee (f := 35) rfl ?_); refine goesL_ (some 27) rfl rfl Tryd.func35 (by kernel_rfl) rfl #[.agg #[.int .i64 a1_0, .int .i64 a1_1]] rfl lz ?_; (with_reducible refine (laws_toBind.calls a1_0 a1_1 t432 t433 _ A11.out).mono ?_); rintro e w109 ⟨rfl, hb⟩; refine ⟨_, rfl, ?_⟩; have n0_ := Aside0.mk (Kd.R_below (rz HO423.out) hb); have n1_ := Aside0.mk (Kd.R_below (rz HO428.out) hb); have n2_ := Aside0.mk (Kd.R_below (rz HO431.out) hb); have n3_ := Aside0.mk (blk_below (g := gb419) (o := .cells #[.int .i64 a1_0, .int .i64 a1_1] 41 (0, 0)) (kz BK419.out) hb); have n4_ := Aside0.mk (below_step (bz1 HB.out GE419.out) hb); clear HO423; clear HO428; clear HO431; clear BK419; clear HB; have HO423 := n0_; have HO428 := n1_; have HO431 := n2_; have BK419 := n3_; have HB := n4_; clear n0_ n1_ n2_ n3_ n4_; (try clear hb); (try clear hb2); (try clear hk); (try clear hi); obtain ⟨Ao110, co110, eo110⟩ := Kd.R_slice HO431.out; subst eo110) | ((with_reducible refine gate_callee (f := 36) rfl ?_); refine goesL_ (some 28) rfl rfl Tryd.func36 (by kernel_rfl) rfl #[.slice Ao110 t429.length co110, .agg #[.int .i64 t432, .int .i64 t433]] rfl lz ?_; (with_reducible refine (impl_UsesOf.calls k _ _ t429 t432 t433 t434 _ ?side1 ?side2 A12.out).mono ?_); (case side1 => exact cz (Kd.R_reads' HO431.out).2.2); (case side2 => exact (Kd.R_reads' HO431.out).2.1); rintro e w111 ⟨v435, rfl, ho0, hb⟩; refine ⟨_, rfl, ?_⟩; have n0_ := Aside0.mk (Kd.R_below (rz HO423.out) hb); have n1_ := Aside0.mk (Kd.R_elder' (rz HO428.out) (Kd.R_base ho0) hb); have n2_ := Aside0.mk (Kd.R_below (rz HO431.out) hb); have n3_ := Aside0.mk (Kd.R_lower (Kd.R_new' ho0 (Kd.R_lt (rz HO428.out))) (below_size (bz1 HB.out GE419.out))); have n4_ := Aside0.mk (blk_below (g := gb419) (o := .cells #[.int .i64 a1_0, .int .i64 a1_1] 41 (0, 0)) (kz BK419.out) hb); have n5_ := Aside0.mk (below_step (bz1 HB.out GE419.out) hb); clear HO423; clear HO428; clear HO431; clear BK419; clear HB; have HO423 := n0_; have HO428 := n1_; have HO431 := n2_; have HO436 := n3_; have BK419 := n4_; have HB := n5_; clear n0_ n1_ n2_ n3_ n4_ n5_; (try clear hb); (try clear hb2); (try clear hk); (try clear hi); (try clear ho0); obtain ⟨Ao112, co112, eo112⟩ := Kd.R_slice HO436.out; subst eo112; obtain ⟨Ao113, co113, eo113⟩ := Kd.R_slice HO428.out; subst eo113) | ((with_reducible refine gate_callee (f := 37) rfl ?_); refine goesL_ (some 31) rfl rfl Tryd.func37 (by kernel_rfl) rfl #[.slice Ao112 t434.length co112, .slice Ao113 t426.length co113] rfl lz ?_; (with_reducible refine (laws_eqIntS.calls k _ _ t434 _ _ t426 false _ ?side1 ?side2 ?side3 ?side4 A13.out).mono ?_); (case side1 => exact cz (Kd.R_reads' HO436.out).2.2); (case side2 => exact (Kd.R_reads' HO436.out).2.1); (case side3 => exact cz (Kd.R_reads' HO428.out).2.2); (case side4 => exact (Kd.R_reads' HO428.out).2.1); rintro e w' ⟨rfl, ⟨nd, rfl⟩⟩; refine ⟨_, rfl, ?_⟩))
   go_ret
   exact ⟨gz, (bz1 HB.out GE419.out)⟩
end Go.Proofs.YthmkeimngfboiaaDoor.PFnExactUsesOf
