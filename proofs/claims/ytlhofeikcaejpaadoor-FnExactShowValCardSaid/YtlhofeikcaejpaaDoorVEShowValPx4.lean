/- PFnExactShowValx4, of the words and walks that the law FnExactShowVal needs; made by this session's program out of printed texts. -/

import Derived.Test.YtlhofeikcaejpaaDoorVEShowValPx0
import Derived.Test.YtlhofeikcaejpaaDoorVEShowValPx3
namespace Go.Proofs.YtlhofeikcaejpaaDoor.PFnExactShowVal
open Go.RowKit Go.Proofs.YtlhofeikcaejpaaDoorW.PrintWords Go.Proofs.YtlhofeikcaejpaaDoorW.PrintLast Go.Proofs.YtlhofeikcaejpaaDoorW.PrintMore
attribute [local go_sem] max2_int min2_int max_two min_two max_three min_three max_four min_four
set_option linter.unusedVariables false
set_option linter.unusedSimpArgs false
def laws_szCloS.f (l0 : List (S132)) (a1 : Int) : Option (Int) := if (wrap64 (a1 - (l0.length : Int))) < 0 then (some (-1)) else (some (wrap64 (a1 - (l0.length : Int))))
set_option maxHeartbeats 8000000 in
set_option maxRecDepth 100000 in
theorem laws_szCloS.calls (A0 : Option Addr) (c0 : Nat) (l0 : List (S132)) (a1 : Int) (r : Int) (w : World) (hr0 : Kd.C k132 w A0 l0.length l0) (hc0 : l0.length <= c0) (h : laws_szCloS.f l0 a1 = some r) :
  Calls Tryd.prog 63 #[.slice A0 l0.length c0, .int .i64 a1] w fun e w' => e = .returned (.int .i64 r) /\ Drawn0 w w' := by
 have HR0 := Aside0.mk hr0
 have HC0 := Aside0.mk hc0
 clear hr0 hc0
 have H : (if (wrap64 (a1 - (l0.length : Int))) < 0 then (some (-1)) else (some (wrap64 (a1 - (l0.length : Int))))) = some r := h
 clear h
 by_cases c3 : (wrap64 (a1 - (l0.length : Int))) < 0
 ·rw [if_pos c3] at H
  have c3b0 := decide_eq_true c3
  clear c3
  obtain rfl := Option.some.inj H
  go_enter Tryd.func63, Tryd.ntmps63
  go_wp2
  go_ret
  exact ⟨e2z, dz⟩
 ·rw [if_neg c3] at H
  have c3b0 := decide_eq_false c3
  clear c3
  obtain rfl := Option.some.inj H
  go_enter Tryd.func63, Tryd.ntmps63
  go_wp2
  go_ret
  exact ⟨e2z, dz⟩
def laws_szTwoS.f (l0 : List (S135)) (a1 : Int) : Option (Int) := if (wrap64 (a1 - (l0.length : Int))) < 0 then (some (-1)) else (some (wrap64 (a1 - (l0.length : Int))))
set_option maxHeartbeats 8000000 in
set_option maxRecDepth 100000 in
theorem laws_szTwoS.calls (A0 : Option Addr) (c0 : Nat) (l0 : List (S135)) (a1 : Int) (r : Int) (w : World) (hr0 : Kd.C k135 w A0 l0.length l0) (hc0 : l0.length <= c0) (h : laws_szTwoS.f l0 a1 = some r) :
  Calls Tryd.prog 64 #[.slice A0 l0.length c0, .int .i64 a1] w fun e w' => e = .returned (.int .i64 r) /\ Drawn0 w w' := by
 have HR0 := Aside0.mk hr0
 have HC0 := Aside0.mk hc0
 clear hr0 hc0
 have H : (if (wrap64 (a1 - (l0.length : Int))) < 0 then (some (-1)) else (some (wrap64 (a1 - (l0.length : Int))))) = some r := h
 clear h
 by_cases c3 : (wrap64 (a1 - (l0.length : Int))) < 0
 ·rw [if_pos c3] at H
  have c3b0 := decide_eq_true c3
  clear c3
  obtain rfl := Option.some.inj H
  go_enter Tryd.func64, Tryd.ntmps64
  go_wp2
  go_ret
  exact ⟨e2z, dz⟩
 ·rw [if_neg c3] at H
  have c3b0 := decide_eq_false c3
  clear c3
  obtain rfl := Option.some.inj H
  go_enter Tryd.func64, Tryd.ntmps64
  go_wp2
  go_ret
  exact ⟨e2z, dz⟩
def laws_szValS.f (l0 : List (S71)) (a1 : Int) : Option (Int) := if (wrap64 (a1 - (l0.length : Int))) < 0 then (some (-1)) else (some (wrap64 (a1 - (l0.length : Int))))
set_option maxHeartbeats 8000000 in
set_option maxRecDepth 100000 in
theorem laws_szValS.calls (A0 : Option Addr) (c0 : Nat) (l0 : List (S71)) (a1 : Int) (r : Int) (w : World) (hr0 : Kd.C k71 w A0 l0.length l0) (hc0 : l0.length <= c0) (h : laws_szValS.f l0 a1 = some r) :
  Calls Tryd.prog 65 #[.slice A0 l0.length c0, .int .i64 a1] w fun e w' => e = .returned (.int .i64 r) /\ Drawn0 w w' := by
 have HR0 := Aside0.mk hr0
 have HC0 := Aside0.mk hc0
 clear hr0 hc0
 have H : (if (wrap64 (a1 - (l0.length : Int))) < 0 then (some (-1)) else (some (wrap64 (a1 - (l0.length : Int))))) = some r := h
 clear h
 by_cases c3 : (wrap64 (a1 - (l0.length : Int))) < 0
 ·rw [if_pos c3] at H
  have c3b0 := decide_eq_true c3
  clear c3
  obtain rfl := Option.some.inj H
  go_enter Tryd.func65, Tryd.ntmps65
  go_wp2
  go_ret
  exact ⟨e2z, dz⟩
 ·rw [if_neg c3] at H
  have c3b0 := decide_eq_false c3
  clear c3
  obtain rfl := Option.some.inj H
  go_enter Tryd.func65, Tryd.ntmps65
  go_wp2
  go_ret
  exact ⟨e2z, dz⟩
def laws_szHeap.f (l0_0 : List (S130)) (l0_1 : List (S132)) (l0_2 : List (S135)) (l0_3 : List (S71)) (a1 : Int) : Option (Int) := (laws_szEnvCellS.f l0_0 a1).bind fun t137 => (if t137 < 0 then (some (-1)) else ((laws_szCloS.f l0_1 t137).bind fun t138 => (if t138 < 0 then (some (-1)) else ((laws_szTwoS.f l0_2 t138).bind fun t139 => (if t139 < 0 then (some (-1)) else ((laws_szValS.f l0_3 t139).bind fun t140 => (if t140 < 0 then (some (-1)) else (some t140))))))))
set_option maxHeartbeats 8000000 in
set_option maxRecDepth 100000 in
theorem laws_szHeap.calls (A0_0 : Option Addr) (c0_0 : Nat) (l0_0 : List (S130)) (A0_1 : Option Addr) (c0_1 : Nat) (l0_1 : List (S132)) (A0_2 : Option Addr) (c0_2 : Nat) (l0_2 : List (S135)) (A0_3 : Option Addr) (c0_3 : Nat) (l0_3 : List (S71)) (a1 : Int) (r : Int) (w : World) (hr0_0 : Kd.C k130 w A0_0 l0_0.length l0_0) (hc0_0 : l0_0.length <= c0_0) (hr0_1 : Kd.C k132 w A0_1 l0_1.length l0_1) (hc0_1 : l0_1.length <= c0_1) (hr0_2 : Kd.C k135 w A0_2 l0_2.length l0_2) (hc0_2 : l0_2.length <= c0_2) (hr0_3 : Kd.C k71 w A0_3 l0_3.length l0_3) (hc0_3 : l0_3.length <= c0_3) (h : laws_szHeap.f l0_0 l0_1 l0_2 l0_3 a1 = some r) :
  Calls Tryd.prog 31 #[.agg #[.slice A0_0 l0_0.length c0_0, .slice A0_1 l0_1.length c0_1, .slice A0_2 l0_2.length c0_2, .slice A0_3 l0_3.length c0_3], .int .i64 a1] w fun e w' => e = .returned (.int .i64 r) /\ Below w.heap.size w w' := by
 have hu70 := Tryd.underlying70
 have HR0_0 := Aside0.mk hr0_0
 have HC0_0 := Aside0.mk hc0_0
 clear hr0_0 hc0_0
 have HR0_1 := Aside0.mk hr0_1
 have HC0_1 := Aside0.mk hc0_1
 clear hr0_1 hc0_1
 have HR0_2 := Aside0.mk hr0_2
 have HC0_2 := Aside0.mk hc0_2
 clear hr0_2 hc0_2
 have HR0_3 := Aside0.mk hr0_3
 have HC0_3 := Aside0.mk hc0_3
 clear hr0_3 hc0_3
 have HB := Aside0.mk (Below.refl w.heap.size w)
 have H : ((laws_szEnvCellS.f l0_0 a1).bind fun t137 => (if t137 < 0 then (some (-1)) else ((laws_szCloS.f l0_1 t137).bind fun t138 => (if t138 < 0 then (some (-1)) else ((laws_szTwoS.f l0_2 t138).bind fun t139 => (if t139 < 0 then (some (-1)) else ((laws_szValS.f l0_3 t139).bind fun t140 => (if t140 < 0 then (some (-1)) else (some t140))))))))) = some r := h
 clear h
 replace H := bi H
 obtain ⟨t137, A30, H⟩ := H
 try dsimp only at H
 have A3 := Aside0.mk A30
 clear A30
 by_cases c4 : t137 < 0
 ·rw [if_pos c4] at H
  have c4b0 := decide_eq_true c4
  clear c4
  obtain rfl := Option.some.inj H
  go_enter Tryd.func31, Tryd.ntmps31
  go_wp2_with (first | ((with_reducible refine gate_dst (N := 2) rfl ?_); refine box_event ?hg (N := 2) ?hd (cs := #[.slice A0_0 l0_0.length c0_0, .slice A0_1 l0_1.length c0_1, .slice A0_2 l0_2.length c0_2, .slice A0_3 l0_3.length c0_3]) (t := 70) ?hr ?_; (case hd => rfl); (case hg => rfl); (case hr => exact vz); intro gb136 hg w5 hbox hb; have BK136 := Aside0.mk (hbox); have GW136 := Aside0.mk ((by rw [hg]; exact (below_size (bz0 HB.out)) : w.heap.size <= gb136)); have GE136 := Aside0.mk ((by rw [hg]; exact (below_size (bz0 HB.out)) : w.heap.size <= gb136)); replace HB := Aside0.mk (below_step (bz0 HB.out) hb); clear hb hbox hg; obtain ⟨hcz6_0, hcz6_1, hcz6_2, hcz6_3⟩ := cz4 BK136.out; obtain ⟨hfz6_0, hfz6_1, hfz6_2, hfz6_3⟩ := fz4 BK136.out) | ((with_reducible refine gate_callee (f := 62) rfl ?_); refine goesL_ (some 8) rfl rfl Tryd.func62 (by kernel_rfl) rfl #[.slice A0_0 l0_0.length c0_0, .int .i64 a1] rfl lz ?_; (with_reducible refine (laws_szEnvCellS.calls _ _ l0_0 a1 t137 _ ?side1 ?side2 A3.out).mono ?_); (case side1 => exact cz (Kd.C_below HR0_0.out HB.out)); (case side2 => exact HC0_0.out); rintro e w' ⟨rfl, ⟨nd, rfl⟩⟩; refine ⟨_, rfl, ?_⟩))
  go_ret
  exact ⟨gz, (bz1 HB.out GE136.out)⟩
 ·rw [if_neg c4] at H
  have c4b0 := decide_eq_false c4
  clear c4
  replace H := bi H
  obtain ⟨t138, A70, H⟩ := H
  try dsimp only at H
  have A7 := Aside0.mk A70
  clear A70
  by_cases c8 : t138 < 0
  ·rw [if_pos c8] at H
   have c8b0 := decide_eq_true c8
   clear c8
   obtain rfl := Option.some.inj H
   go_enter Tryd.func31, Tryd.ntmps31
   go_wp2_with (first | ((with_reducible refine gate_dst (N := 2) rfl ?_); refine box_event ?hg (N := 2) ?hd (cs := #[.slice A0_0 l0_0.length c0_0, .slice A0_1 l0_1.length c0_1, .slice A0_2 l0_2.length c0_2, .slice A0_3 l0_3.length c0_3]) (t := 70) ?hr ?_; (case hd => rfl); (case hg => rfl); (case hr => exact vz); intro gb136 hg w9 hbox hb; have BK136 := Aside0.mk (hbox); have GW136 := Aside0.mk ((by rw [hg]; exact (below_size (bz0 HB.out)) : w.heap.size <= gb136)); have GE136 := Aside0.mk ((by rw [hg]; exact (below_size (bz0 HB.out)) : w.heap.size <= gb136)); replace HB := Aside0.mk (below_step (bz0 HB.out) hb); clear hb hbox hg; obtain ⟨hcz10_0, hcz10_1, hcz10_2, hcz10_3⟩ := cz4 BK136.out; obtain ⟨hfz10_0, hfz10_1, hfz10_2, hfz10_3⟩ := fz4 BK136.out) | ((with_reducible refine gate_callee (f := 62) rfl ?_); refine goesL_ (some 8) rfl rfl Tryd.func62 (by kernel_rfl) rfl #[.slice A0_0 l0_0.length c0_0, .int .i64 a1] rfl lz ?_; (with_reducible refine (laws_szEnvCellS.calls _ _ l0_0 a1 t137 _ ?side1 ?side2 A3.out).mono ?_); (case side1 => exact cz (Kd.C_below HR0_0.out HB.out)); (case side2 => exact HC0_0.out); rintro e w' ⟨rfl, ⟨nd, rfl⟩⟩; refine ⟨_, rfl, ?_⟩) | ((with_reducible refine gate_callee (f := 63) rfl ?_); refine goesL_ (some 14) rfl rfl Tryd.func63 (by kernel_rfl) rfl #[.slice A0_1 l0_1.length c0_1, .int .i64 t137] rfl lz ?_; (with_reducible refine (laws_szCloS.calls _ _ l0_1 t137 t138 _ ?side1 ?side2 A7.out).mono ?_); (case side1 => exact cz (Kd.C_below HR0_1.out (bz1 HB.out GE136.out))); (case side2 => exact HC0_1.out); rintro e w' ⟨rfl, ⟨nd, rfl⟩⟩; refine ⟨_, rfl, ?_⟩))
   go_ret
   exact ⟨gz, (bz1 HB.out GE136.out)⟩
  ·rw [if_neg c8] at H
   have c8b0 := decide_eq_false c8
   clear c8
   replace H := bi H
   obtain ⟨t139, A110, H⟩ := H
   try dsimp only at H
   have A11 := Aside0.mk A110
   clear A110
   by_cases c12 : t139 < 0
   ·rw [if_pos c12] at H
    have c12b0 := decide_eq_true c12
    clear c12
    obtain rfl := Option.some.inj H
    go_enter Tryd.func31, Tryd.ntmps31
    go_wp2_with (first | ((with_reducible refine gate_dst (N := 2) rfl ?_); refine box_event ?hg (N := 2) ?hd (cs := #[.slice A0_0 l0_0.length c0_0, .slice A0_1 l0_1.length c0_1, .slice A0_2 l0_2.length c0_2, .slice A0_3 l0_3.length c0_3]) (t := 70) ?hr ?_; (case hd => rfl); (case hg => rfl); (case hr => exact vz); intro gb136 hg w13 hbox hb; have BK136 := Aside0.mk (hbox); have GW136 := Aside0.mk ((by rw [hg]; exact (below_size (bz0 HB.out)) : w.heap.size <= gb136)); have GE136 := Aside0.mk ((by rw [hg]; exact (below_size (bz0 HB.out)) : w.heap.size <= gb136)); replace HB := Aside0.mk (below_step (bz0 HB.out) hb); clear hb hbox hg; obtain ⟨hcz14_0, hcz14_1, hcz14_2, hcz14_3⟩ := cz4 BK136.out; obtain ⟨hfz14_0, hfz14_1, hfz14_2, hfz14_3⟩ := fz4 BK136.out) | ((with_reducible refine gate_callee (f := 62) rfl ?_); refine goesL_ (some 8) rfl rfl Tryd.func62 (by kernel_rfl) rfl #[.slice A0_0 l0_0.length c0_0, .int .i64 a1] rfl lz ?_; (with_reducible refine (laws_szEnvCellS.calls _ _ l0_0 a1 t137 _ ?side1 ?side2 A3.out).mono ?_); (case side1 => exact cz (Kd.C_below HR0_0.out HB.out)); (case side2 => exact HC0_0.out); rintro e w' ⟨rfl, ⟨nd, rfl⟩⟩; refine ⟨_, rfl, ?_⟩) | ((with_reducible refine gate_callee (f := 63) rfl ?_); refine goesL_ (some 14) rfl rfl Tryd.func63 (by kernel_rfl) rfl #[.slice A0_1 l0_1.length c0_1, .int .i64 t137] rfl lz ?_; (with_reducible refine (laws_szCloS.calls _ _ l0_1 t137 t138 _ ?side1 ?side2 A7.out).mono ?_); (case side1 => exact cz (Kd.C_below HR0_1.out (bz1 HB.out GE136.out))); (case side2 => exact HC0_1.out); rintro e w' ⟨rfl, ⟨nd, rfl⟩⟩; refine ⟨_, rfl, ?_⟩) | ((with_reducible refine gate_callee (f := 64) rfl ?_); refine goesL_ (some 20) rfl rfl Tryd.func64 (by kernel_rfl) rfl #[.slice A0_2 l0_2.length c0_2, .int .i64 t138] rfl lz ?_; (with_reducible refine (laws_szTwoS.calls _ _ l0_2 t138 t139 _ ?side1 ?side2 A11.out).mono ?_); (case side1 => exact cz (Kd.C_below HR0_2.out (bz1 HB.out GE136.out))); (case side2 => exact HC0_2.out); rintro e w' ⟨rfl, ⟨nd, rfl⟩⟩; refine ⟨_, rfl, ?_⟩))
    go_ret
    exact ⟨gz, (bz1 HB.out GE136.out)⟩
   ·rw [if_neg c12] at H
    have c12b0 := decide_eq_false c12
    clear c12
    replace H := bi H
    obtain ⟨t140, A150, H⟩ := H
    try dsimp only at H
    have A15 := Aside0.mk A150
    clear A150
    by_cases c16 : t140 < 0
    ·rw [if_pos c16] at H
     have c16b0 := decide_eq_true c16
     clear c16
     obtain rfl := Option.some.inj H
     go_enter Tryd.func31, Tryd.ntmps31
     go_wp2_with (first | ((with_reducible refine gate_dst (N := 2) rfl ?_); refine box_event ?hg (N := 2) ?hd (cs := #[.slice A0_0 l0_0.length c0_0, .slice A0_1 l0_1.length c0_1, .slice A0_2 l0_2.length c0_2, .slice A0_3 l0_3.length c0_3]) (t := 70) ?hr ?_; (case hd => rfl); (case hg => rfl); (case hr => exact vz); intro gb136 hg w17 hbox hb; have BK136 := Aside0.mk (hbox); have GW136 := Aside0.mk ((by rw [hg]; exact (below_size (bz0 HB.out)) : w.heap.size <= gb136)); have GE136 := Aside0.mk ((by rw [hg]; exact (below_size (bz0 HB.out)) : w.heap.size <= gb136)); replace HB := Aside0.mk (below_step (bz0 HB.out) hb); clear hb hbox hg; obtain ⟨hcz18_0, hcz18_1, hcz18_2, hcz18_3⟩ := cz4 BK136.out; obtain ⟨hfz18_0, hfz18_1, hfz18_2, hfz18_3⟩ := fz4 BK136.out) | ((with_reducible refine gate_callee (f := 62) rfl ?_); refine goesL_ (some 8) rfl rfl Tryd.func62 (by kernel_rfl) rfl #[.slice A0_0 l0_0.length c0_0, .int .i64 a1] rfl lz ?_; (with_reducible refine (laws_szEnvCellS.calls _ _ l0_0 a1 t137 _ ?side1 ?side2 A3.out).mono ?_); (case side1 => exact cz (Kd.C_below HR0_0.out HB.out)); (case side2 => exact HC0_0.out); rintro e w' ⟨rfl, ⟨nd, rfl⟩⟩; refine ⟨_, rfl, ?_⟩) | ((with_reducible refine gate_callee (f := 63) rfl ?_); refine goesL_ (some 14) rfl rfl Tryd.func63 (by kernel_rfl) rfl #[.slice A0_1 l0_1.length c0_1, .int .i64 t137] rfl lz ?_; (with_reducible refine (laws_szCloS.calls _ _ l0_1 t137 t138 _ ?side1 ?side2 A7.out).mono ?_); (case side1 => exact cz (Kd.C_below HR0_1.out (bz1 HB.out GE136.out))); (case side2 => exact HC0_1.out); rintro e w' ⟨rfl, ⟨nd, rfl⟩⟩; refine ⟨_, rfl, ?_⟩) | ((with_reducible refine gate_callee (f := 64) rfl ?_); refine goesL_ (some 20) rfl rfl Tryd.func64 (by kernel_rfl) rfl #[.slice A0_2 l0_2.length c0_2, .int .i64 t138] rfl lz ?_; (with_reducible refine (laws_szTwoS.calls _ _ l0_2 t138 t139 _ ?side1 ?side2 A11.out).mono ?_); (case side1 => exact cz (Kd.C_below HR0_2.out (bz1 HB.out GE136.out))); (case side2 => exact HC0_2.out); rintro e w' ⟨rfl, ⟨nd, rfl⟩⟩; refine ⟨_, rfl, ?_⟩) | ((with_reducible refine gate_callee (f := 65) rfl ?_); refine goesL_ (some 26) rfl rfl Tryd.func65 (by kernel_rfl) rfl #[.slice A0_3 l0_3.length c0_3, .int .i64 t139] rfl lz ?_; (with_reducible refine (laws_szValS.calls _ _ l0_3 t139 t140 _ ?side1 ?side2 A15.out).mono ?_); (case side1 => exact cz (Kd.C_below HR0_3.out (bz1 HB.out GE136.out))); (case side2 => exact HC0_3.out); rintro e w' ⟨rfl, ⟨nd, rfl⟩⟩; refine ⟨_, rfl, ?_⟩))
     go_ret
     exact ⟨gz, (bz1 HB.out GE136.out)⟩
    ·rw [if_neg c16] at H
     have c16b0 := decide_eq_false c16
     clear c16
     obtain rfl := Option.some.inj H
     go_enter Tryd.func31, Tryd.ntmps31
     go_wp2_with (first | ((with_reducible refine gate_dst (N := 2) rfl ?_); refine box_event ?hg (N := 2) ?hd (cs := #[.slice A0_0 l0_0.length c0_0, .slice A0_1 l0_1.length c0_1, .slice A0_2 l0_2.length c0_2, .slice A0_3 l0_3.length c0_3]) (t := 70) ?hr ?_; (case hd => rfl); (case hg => rfl); (case hr => exact vz); intro gb136 hg w19 hbox hb; have BK136 := Aside0.mk (hbox); have GW136 := Aside0.mk ((by rw [hg]; exact (below_size (bz0 HB.out)) : w.heap.size <= gb136)); have GE136 := Aside0.mk ((by rw [hg]; exact (below_size (bz0 HB.out)) : w.heap.size <= gb136)); replace HB := Aside0.mk (below_step (bz0 HB.out) hb); clear hb hbox hg; obtain ⟨hcz20_0, hcz20_1, hcz20_2, hcz20_3⟩ := cz4 BK136.out; obtain ⟨hfz20_0, hfz20_1, hfz20_2, hfz20_3⟩ := fz4 BK136.out) | ((with_reducible refine gate_callee (f := 62) rfl ?_); refine goesL_ (some 8) rfl rfl Tryd.func62 (by kernel_rfl) rfl #[.slice A0_0 l0_0.length c0_0, .int .i64 a1] rfl lz ?_; (with_reducible refine (laws_szEnvCellS.calls _ _ l0_0 a1 t137 _ ?side1 ?side2 A3.out).mono ?_); (case side1 => exact cz (Kd.C_below HR0_0.out HB.out)); (case side2 => exact HC0_0.out); rintro e w' ⟨rfl, ⟨nd, rfl⟩⟩; refine ⟨_, rfl, ?_⟩) | ((with_reducible refine gate_callee (f := 63) rfl ?_); refine goesL_ (some 14) rfl rfl Tryd.func63 (by kernel_rfl) rfl #[.slice A0_1 l0_1.length c0_1, .int .i64 t137] rfl lz ?_; (with_reducible refine (laws_szCloS.calls _ _ l0_1 t137 t138 _ ?side1 ?side2 A7.out).mono ?_); (case side1 => exact cz (Kd.C_below HR0_1.out (bz1 HB.out GE136.out))); (case side2 => exact HC0_1.out); rintro e w' ⟨rfl, ⟨nd, rfl⟩⟩; refine ⟨_, rfl, ?_⟩) | ((with_reducible refine gate_callee (f := 64) rfl ?_); refine goesL_ (some 20) rfl rfl Tryd.func64 (by kernel_rfl) rfl #[.slice A0_2 l0_2.length c0_2, .int .i64 t138] rfl lz ?_; (with_reducible refine (laws_szTwoS.calls _ _ l0_2 t138 t139 _ ?side1 ?side2 A11.out).mono ?_); (case side1 => exact cz (Kd.C_below HR0_2.out (bz1 HB.out GE136.out))); (case side2 => exact HC0_2.out); rintro e w' ⟨rfl, ⟨nd, rfl⟩⟩; refine ⟨_, rfl, ?_⟩) | ((with_reducible refine gate_callee (f := 65) rfl ?_); refine goesL_ (some 26) rfl rfl Tryd.func65 (by kernel_rfl) rfl #[.slice A0_3 l0_3.length c0_3, .int .i64 t139] rfl lz ?_; (with_reducible refine (laws_szValS.calls _ _ l0_3 t139 t140 _ ?side1 ?side2 A15.out).mono ?_); (case side1 => exact cz (Kd.C_below HR0_3.out (bz1 HB.out GE136.out))); (case side2 => exact HC0_3.out); rintro e w' ⟨rfl, ⟨nd, rfl⟩⟩; refine ⟨_, rfl, ?_⟩))
     go_ret
     exact ⟨gz, (bz1 HB.out GE136.out)⟩
def spec_l1In.f (a0 : Int) (a1 : Int) (a2 : Int) : Option (Bool) := if a0 ≥ a1 then (some (decide (a0 <= a2))) else (some false)
set_option maxHeartbeats 8000000 in
set_option maxRecDepth 100000 in
theorem spec_l1In.calls (a0 : Int) (a1 : Int) (a2 : Int) (r : Bool) (w : World) (h : spec_l1In.f a0 a1 a2 = some r) :
  Calls Tryd.prog 44 #[.int .i64 a0, .int .i64 a1, .int .i64 a2] w fun e w' => e = .returned (.bool r) /\ Drawn0 w w' := by
 have H : (if a0 ≥ a1 then (some (decide (a0 <= a2))) else (some false)) = some r := h
 clear h
 by_cases c4 : a0 ≥ a1
 ·rw [if_pos c4] at H
  have c4b0 : decide (a1 <= a0) = true := decide_eq_true c4
  clear c4
  obtain rfl := Option.some.inj H
  go_enter Tryd.func44, Tryd.ntmps44
  go_wp2
  go_ret
  exact ⟨e2z, dz⟩
 ·rw [if_neg c4] at H
  have c4b0 : decide (a1 <= a0) = false := decide_eq_false c4
  clear c4
  obtain rfl := Option.some.inj H
  go_enter Tryd.func44, Tryd.ntmps44
  go_wp2
  go_ret
  exact ⟨e2z, dz⟩
def spec_ValOk.j0 : Nat -> Int -> Bool -> List (S41) -> List (S86) -> List (S47) -> List (S35) -> Int -> Int -> Option (Bool)
 | 0, _, _, _, _, _, _, _, _ => none
 | k + 1, x6, x26, x142000, x142001, x142002, x142003, x143000, x143001 => if x26 = true then ((spec_l1In.f x143001 0 (wrap64 ((x142002.length : Int) - 1))).bind fun t145 => (some t145)) else (if x6 = 5 then ((spec_l1In.f x143001 0 (wrap64 ((x142003.length : Int) - 1))).bind fun t146 => (some t146)) else (some false))
def spec_ValOk.f (k : Nat) (l0_0 : List (S41)) (l0_1 : List (S86)) (l0_2 : List (S47)) (l0_3 : List (S35)) (a1_0 : Int) (a1_1 : Int) : Option (Bool) := if a1_0 = 0 then ((spec_l1In.f a1_1 0 65535).bind fun t143 => (some t143)) else (if a1_0 = 1 then ((spec_l1In.f a1_1 0 (wrap64 ((l0_1.length : Int) - 1))).bind fun t144 => (some t144)) else (if a1_0 = 2 then (some (a1_1 == 0)) else (if a1_0 = 3 then (spec_ValOk.j0 k a1_0 (a1_0 == 3) l0_0 l0_1 l0_2 l0_3 a1_0 a1_1) else (spec_ValOk.j0 k a1_0 (a1_0 == 4) l0_0 l0_1 l0_2 l0_3 a1_0 a1_1))))
theorem spec_ValOk.mono_l : ∀ k, (∀ y0 y1 y2 y3 y4 y5 y6 y7, LeO (spec_ValOk.j0 k y0 y1 y2 y3 y4 y5 y6 y7) (spec_ValOk.j0 (k + 1) y0 y1 y2 y3 y4 y5 y6 y7))
 | 0 => fun _ _ _ _ _ _ _ _ r h => by simp [spec_ValOk.j0] at h
 | k + 1 => by
  have ih0 := spec_ValOk.mono_l k
  ·intro y0 y1 y2 y3 y4 y5 y6 y7
   unfold spec_ValOk.j0
   with_reducible repeat' first | exact ih0 _ _ _ _ _ _ _ _ | exact lrz _ | exact lnz _ | refine liz ?_ ?_ | refine lbz ?_ fun _ => ?_
theorem spec_ValOk.mono : ∀ a0 a1 a2 a3 a4 a5 k, LeO (spec_ValOk.f k a0 a1 a2 a3 a4 a5) (spec_ValOk.f (k + 1) a0 a1 a2 a3 a4 a5) := by
 intro a0 a1 a2 a3 a4 a5 k
 have ih0 := spec_ValOk.mono_l k
 unfold spec_ValOk.f
 with_reducible repeat' first | exact ih0 _ _ _ _ _ _ _ _ | exact lrz _ | exact lnz _ | refine liz ?_ ?_ | refine lbz ?_ fun _ => ?_
set_option maxHeartbeats 8000000 in
set_option maxRecDepth 100000 in
theorem spec_ValOk.calls (k : Nat) (A0_0 : Option Addr) (c0_0 : Nat) (l0_0 : List (S41)) (A0_1 : Option Addr) (c0_1 : Nat) (l0_1 : List (S86)) (A0_2 : Option Addr) (c0_2 : Nat) (l0_2 : List (S47)) (A0_3 : Option Addr) (c0_3 : Nat) (l0_3 : List (S35)) (a1_0 : Int) (a1_1 : Int) (r : Bool) (w : World) (hr0_0 : Kd.C k41 w A0_0 l0_0.length l0_0) (hc0_0 : l0_0.length <= c0_0) (hr0_1 : Kd.C k86 w A0_1 l0_1.length l0_1) (hc0_1 : l0_1.length <= c0_1) (hr0_2 : Kd.C k47 w A0_2 l0_2.length l0_2) (hc0_2 : l0_2.length <= c0_2) (hr0_3 : Kd.C k35 w A0_3 l0_3.length l0_3) (hc0_3 : l0_3.length <= c0_3) (h : spec_ValOk.f k l0_0 l0_1 l0_2 l0_3 a1_0 a1_1 = some r) :
  Calls Tryd.prog 17 #[.agg #[.slice A0_0 l0_0.length c0_0, .slice A0_1 l0_1.length c0_1, .slice A0_2 l0_2.length c0_2, .slice A0_3 l0_3.length c0_3], .agg #[.int .i64 a1_0, .int .i64 a1_1]] w fun e w' => e = .returned (.bool r) /\ Below w.heap.size w w' := by
 have hu29 := Tryd.underlying29
 have hu35 := Tryd.underlying35
 have HR0_0 := Aside0.mk hr0_0
 have HC0_0 := Aside0.mk hc0_0
 clear hr0_0 hc0_0
 have HR0_1 := Aside0.mk hr0_1
 have HC0_1 := Aside0.mk hc0_1
 clear hr0_1 hc0_1
 have HR0_2 := Aside0.mk hr0_2
 have HC0_2 := Aside0.mk hc0_2
 clear hr0_2 hc0_2
 have HR0_3 := Aside0.mk hr0_3
 have HC0_3 := Aside0.mk hc0_3
 clear hr0_3 hc0_3
 have HB := Aside0.mk (Below.refl w.heap.size w)
 have H : (if a1_0 = 0 then ((spec_l1In.f a1_1 0 65535).bind fun t143 => (some t143)) else (if a1_0 = 1 then ((spec_l1In.f a1_1 0 (wrap64 ((l0_1.length : Int) - 1))).bind fun t144 => (some t144)) else (if a1_0 = 2 then (some (a1_1 == 0)) else (if a1_0 = 3 then (spec_ValOk.j0 k a1_0 (a1_0 == 3) l0_0 l0_1 l0_2 l0_3 a1_0 a1_1) else (spec_ValOk.j0 k a1_0 (a1_0 == 4) l0_0 l0_1 l0_2 l0_3 a1_0 a1_1))))) = some r := h
 clear h
 by_cases c3 : a1_0 = 0
 ·rw [if_pos c3] at H
  have c3b0 : (a1_0 == 0) = true := beq_iff_eq.mpr c3
  have c3b1 : (a1_0 != 0) = false := bne_eq_false_iff_eq.mpr c3
  clear c3
  replace H := bi H
  obtain ⟨t143, A40, H⟩ := H
  try dsimp only at H
  have A4 := Aside0.mk A40
  clear A40
  obtain rfl := Option.some.inj H
  go_enter Tryd.func17, Tryd.ntmps17
  go_wp2_with (first | ((with_reducible refine gate_dst (N := 2) rfl ?_); refine box_event ?hg (N := 2) ?hd (cs := #[.slice A0_0 l0_0.length c0_0, .slice A0_1 l0_1.length c0_1, .slice A0_2 l0_2.length c0_2, .slice A0_3 l0_3.length c0_3]) (t := 29) ?hr ?_; (case hd => rfl); (case hg => rfl); (case hr => exact vz); intro gb141 hg w5 hbox hb; have BK141 := Aside0.mk (hbox); have GW141 := Aside0.mk ((by rw [hg]; exact (below_size (bz0 HB.out)) : w.heap.size <= gb141)); have GE141 := Aside0.mk ((by rw [hg]; exact (below_size (bz0 HB.out)) : w.heap.size <= gb141)); replace HB := Aside0.mk (below_step (bz0 HB.out) hb); clear hb hbox hg) | ((with_reducible refine gate_dst (N := 3) rfl ?_); refine box_event ?hg (N := 3) ?hd (cs := #[.int .i64 a1_0, .int .i64 a1_1]) (t := 35) ?hr ?_; (case hd => rfl); (case hg => rfl); (case hr => exact vz); intro gb142 hg w6 hbox hb; have BK142 := Aside0.mk (hbox); have GW142 := Aside0.mk ((by rw [hg]; exact (below_size (bz1 HB.out GE141.out)) : w.heap.size <= gb142)); have GE142 := Aside0.mk ((by rw [hg]; exact (below_size (bz1 HB.out GE141.out)) : w.heap.size <= gb142)); replace HB := Aside0.mk (below_step (bz1 HB.out GE141.out) hb); have NB141_142 := Aside0.mk ((by rw [hg]; exact Nat.ne_of_lt (blk_lt (g := gb141) (o := .cells #[.slice A0_0 l0_0.length c0_0, .slice A0_1 l0_1.length c0_1, .slice A0_2 l0_2.length c0_2, .slice A0_3 l0_3.length c0_3] 29 (0, 0)) (kz BK141.out)) : gb141 ≠ gb142)); have NB142_141 := Aside0.mk ((by rw [hg]; exact Nat.ne_of_gt (blk_lt (g := gb141) (o := .cells #[.slice A0_0 l0_0.length c0_0, .slice A0_1 l0_1.length c0_1, .slice A0_2 l0_2.length c0_2, .slice A0_3 l0_3.length c0_3] 29 (0, 0)) (kz BK141.out)) : gb142 ≠ gb141)); replace BK141 := Aside0.mk (blk_below (kz BK141.out) hb); clear hb hbox hg; have hnb7 := NB142_141.out; have hnc7 := NB141_142.out; obtain ⟨hcz8_0, hcz8_1⟩ := cz2 BK142.out; obtain ⟨hfz8_0, hfz8_1⟩ := fz2 BK142.out) | ((with_reducible refine gate_callee (f := 44) rfl ?_); refine goesL_ (some 11) rfl rfl Tryd.func44 (by kernel_rfl) rfl #[.int .i64 a1_1, .int .i64 0, .int .i64 65535] rfl lz ?_; (with_reducible refine (spec_l1In.calls a1_1 0 65535 t143 _ A4.out).mono ?_); rintro e w' ⟨rfl, ⟨nd, rfl⟩⟩; refine ⟨_, rfl, ?_⟩))
  go_ret
  exact ⟨gz, (bz2 HB.out GE141.out GE142.out)⟩
 ·rw [if_neg c3] at H
  have c3b0 : (a1_0 == 0) = false := beq_eq_false_iff_ne.mpr c3
  have c3b1 : (a1_0 != 0) = true := bne_iff_ne.mpr c3
  by_cases c9 : a1_0 = 1
  ·rw [if_pos c9] at H
   have c9b0 : (a1_0 == 1) = true := beq_iff_eq.mpr c9
   have c9b1 : (a1_0 != 1) = false := bne_eq_false_iff_eq.mpr c9
   clear c9
   replace H := bi H
   obtain ⟨t144, A100, H⟩ := H
   try dsimp only at H
   have A10 := Aside0.mk A100
   clear A100
   obtain rfl := Option.some.inj H
   go_enter Tryd.func17, Tryd.ntmps17
   go_wp2_with (first | ((with_reducible refine gate_dst (N := 2) rfl ?_); refine box_event ?hg (N := 2) ?hd (cs := #[.slice A0_0 l0_0.length c0_0, .slice A0_1 l0_1.length c0_1, .slice A0_2 l0_2.length c0_2, .slice A0_3 l0_3.length c0_3]) (t := 29) ?hr ?_; (case hd => rfl); (case hg => rfl); (case hr => exact vz); intro gb141 hg w11 hbox hb; have BK141 := Aside0.mk (hbox); have GW141 := Aside0.mk ((by rw [hg]; exact (below_size (bz0 HB.out)) : w.heap.size <= gb141)); have GE141 := Aside0.mk ((by rw [hg]; exact (below_size (bz0 HB.out)) : w.heap.size <= gb141)); replace HB := Aside0.mk (below_step (bz0 HB.out) hb); clear hb hbox hg) | ((with_reducible refine gate_dst (N := 3) rfl ?_); refine box_event ?hg (N := 3) ?hd (cs := #[.int .i64 a1_0, .int .i64 a1_1]) (t := 35) ?hr ?_; (case hd => rfl); (case hg => rfl); (case hr => exact vz); intro gb142 hg w12 hbox hb; have BK142 := Aside0.mk (hbox); have GW142 := Aside0.mk ((by rw [hg]; exact (below_size (bz1 HB.out GE141.out)) : w.heap.size <= gb142)); have GE142 := Aside0.mk ((by rw [hg]; exact (below_size (bz1 HB.out GE141.out)) : w.heap.size <= gb142)); replace HB := Aside0.mk (below_step (bz1 HB.out GE141.out) hb); have NB141_142 := Aside0.mk ((by rw [hg]; exact Nat.ne_of_lt (blk_lt (g := gb141) (o := .cells #[.slice A0_0 l0_0.length c0_0, .slice A0_1 l0_1.length c0_1, .slice A0_2 l0_2.length c0_2, .slice A0_3 l0_3.length c0_3] 29 (0, 0)) (kz BK141.out)) : gb141 ≠ gb142)); have NB142_141 := Aside0.mk ((by rw [hg]; exact Nat.ne_of_gt (blk_lt (g := gb141) (o := .cells #[.slice A0_0 l0_0.length c0_0, .slice A0_1 l0_1.length c0_1, .slice A0_2 l0_2.length c0_2, .slice A0_3 l0_3.length c0_3] 29 (0, 0)) (kz BK141.out)) : gb142 ≠ gb141)); replace BK141 := Aside0.mk (blk_below (kz BK141.out) hb); clear hb hbox hg; have hnb13 := NB142_141.out; have hnc13 := NB141_142.out; obtain ⟨hcz14_0, hcz14_1⟩ := cz2 BK142.out; obtain ⟨hfz14_0, hfz14_1⟩ := fz2 BK142.out; obtain ⟨hcz15_0, hcz15_1, hcz15_2, hcz15_3⟩ := cz4 BK141.out; obtain ⟨hfz15_0, hfz15_1, hfz15_2, hfz15_3⟩ := fz4 BK141.out) | ((with_reducible refine gate_callee (f := 44) rfl ?_); refine goesL_ (some 20) rfl rfl Tryd.func44 (by kernel_rfl) rfl #[.int .i64 a1_1, .int .i64 0, .int .i64 (wrap64 ((l0_1.length : Int) - 1))] rfl lz ?_; (with_reducible refine (spec_l1In.calls a1_1 0 (wrap64 ((l0_1.length : Int) - 1)) t144 _ A10.out).mono ?_); rintro e w' ⟨rfl, ⟨nd, rfl⟩⟩; refine ⟨_, rfl, ?_⟩))
   go_ret
   exact ⟨gz, (bz2 HB.out GE141.out GE142.out)⟩
  ·rw [if_neg c9] at H
   have c9b0 : (a1_0 == 1) = false := beq_eq_false_iff_ne.mpr c9
   have c9b1 : (a1_0 != 1) = true := bne_iff_ne.mpr c9
   by_cases c16 : a1_0 = 2
   ·rw [if_pos c16] at H
    have c16b0 : (a1_0 == 2) = true := beq_iff_eq.mpr c16
    have c16b1 : (a1_0 != 2) = false := bne_eq_false_iff_eq.mpr c16
    clear c16
    obtain rfl := Option.some.inj H
    go_enter Tryd.func17, Tryd.ntmps17
    go_wp2_with (first | ((with_reducible refine gate_dst (N := 2) rfl ?_); refine box_event ?hg (N := 2) ?hd (cs := #[.slice A0_0 l0_0.length c0_0, .slice A0_1 l0_1.length c0_1, .slice A0_2 l0_2.length c0_2, .slice A0_3 l0_3.length c0_3]) (t := 29) ?hr ?_; (case hd => rfl); (case hg => rfl); (case hr => exact vz); intro gb141 hg w17 hbox hb; have BK141 := Aside0.mk (hbox); have GW141 := Aside0.mk ((by rw [hg]; exact (below_size (bz0 HB.out)) : w.heap.size <= gb141)); have GE141 := Aside0.mk ((by rw [hg]; exact (below_size (bz0 HB.out)) : w.heap.size <= gb141)); replace HB := Aside0.mk (below_step (bz0 HB.out) hb); clear hb hbox hg) | ((with_reducible refine gate_dst (N := 3) rfl ?_); refine box_event ?hg (N := 3) ?hd (cs := #[.int .i64 a1_0, .int .i64 a1_1]) (t := 35) ?hr ?_; (case hd => rfl); (case hg => rfl); (case hr => exact vz); intro gb142 hg w18 hbox hb; have BK142 := Aside0.mk (hbox); have GW142 := Aside0.mk ((by rw [hg]; exact (below_size (bz1 HB.out GE141.out)) : w.heap.size <= gb142)); have GE142 := Aside0.mk ((by rw [hg]; exact (below_size (bz1 HB.out GE141.out)) : w.heap.size <= gb142)); replace HB := Aside0.mk (below_step (bz1 HB.out GE141.out) hb); have NB141_142 := Aside0.mk ((by rw [hg]; exact Nat.ne_of_lt (blk_lt (g := gb141) (o := .cells #[.slice A0_0 l0_0.length c0_0, .slice A0_1 l0_1.length c0_1, .slice A0_2 l0_2.length c0_2, .slice A0_3 l0_3.length c0_3] 29 (0, 0)) (kz BK141.out)) : gb141 ≠ gb142)); have NB142_141 := Aside0.mk ((by rw [hg]; exact Nat.ne_of_gt (blk_lt (g := gb141) (o := .cells #[.slice A0_0 l0_0.length c0_0, .slice A0_1 l0_1.length c0_1, .slice A0_2 l0_2.length c0_2, .slice A0_3 l0_3.length c0_3] 29 (0, 0)) (kz BK141.out)) : gb142 ≠ gb141)); replace BK141 := Aside0.mk (blk_below (kz BK141.out) hb); clear hb hbox hg; have hnb19 := NB142_141.out; have hnc19 := NB141_142.out; obtain ⟨hcz20_0, hcz20_1⟩ := cz2 BK142.out; obtain ⟨hfz20_0, hfz20_1⟩ := fz2 BK142.out))
    go_ret
    exact ⟨gz, (bz2 HB.out GE141.out GE142.out)⟩
   ·rw [if_neg c16] at H
    have c16b0 : (a1_0 == 2) = false := beq_eq_false_iff_ne.mpr c16
    have c16b1 : (a1_0 != 2) = true := bne_iff_ne.mpr c16
    have HC21 := Aside0.mk H
    clear H
    go_enter Tryd.func17, Tryd.ntmps17
    go_upto_if 26 with (first | ((with_reducible refine gate_dst (N := 2) rfl ?_); refine box_event ?hg (N := 2) ?hd (cs := #[.slice A0_0 l0_0.length c0_0, .slice A0_1 l0_1.length c0_1, .slice A0_2 l0_2.length c0_2, .slice A0_3 l0_3.length c0_3]) (t := 29) ?hr ?_; (case hd => rfl); (case hg => rfl); (case hr => exact vz); intro gb141 hg w22 hbox hb; have BK141 := Aside0.mk (hbox); have GW141 := Aside0.mk ((by rw [hg]; exact (below_size (bz0 HB.out)) : w.heap.size <= gb141)); have GE141 := Aside0.mk ((by rw [hg]; exact (below_size (bz0 HB.out)) : w.heap.size <= gb141)); replace HB := Aside0.mk (below_step (bz0 HB.out) hb); clear hb hbox hg) | ((with_reducible refine gate_dst (N := 3) rfl ?_); refine box_event ?hg (N := 3) ?hd (cs := #[.int .i64 a1_0, .int .i64 a1_1]) (t := 35) ?hr ?_; (case hd => rfl); (case hg => rfl); (case hr => exact vz); intro gb142 hg w23 hbox hb; have BK142 := Aside0.mk (hbox); have GW142 := Aside0.mk ((by rw [hg]; exact (below_size (bz1 HB.out GE141.out)) : w.heap.size <= gb142)); have GE142 := Aside0.mk ((by rw [hg]; exact (below_size (bz1 HB.out GE141.out)) : w.heap.size <= gb142)); replace HB := Aside0.mk (below_step (bz1 HB.out GE141.out) hb); have NB141_142 := Aside0.mk ((by rw [hg]; exact Nat.ne_of_lt (blk_lt (g := gb141) (o := .cells #[.slice A0_0 l0_0.length c0_0, .slice A0_1 l0_1.length c0_1, .slice A0_2 l0_2.length c0_2, .slice A0_3 l0_3.length c0_3] 29 (0, 0)) (kz BK141.out)) : gb141 ≠ gb142)); have NB142_141 := Aside0.mk ((by rw [hg]; exact Nat.ne_of_gt (blk_lt (g := gb141) (o := .cells #[.slice A0_0 l0_0.length c0_0, .slice A0_1 l0_1.length c0_1, .slice A0_2 l0_2.length c0_2, .slice A0_3 l0_3.length c0_3] 29 (0, 0)) (kz BK141.out)) : gb142 ≠ gb141)); replace BK141 := Aside0.mk (blk_below (kz BK141.out) hb); clear hb hbox hg; have hnb24 := NB142_141.out; have hnc24 := NB141_142.out; obtain ⟨hcz25_0, hcz25_1⟩ := cz2 BK142.out; obtain ⟨hfz25_0, hfz25_1⟩ := fz2 BK142.out))
    (try simp only [Act.put, sz1, sz2, sz3])
    go_cut [26] (fun v26 wc => ∃ (kq : Nat) (x26_20 : Bool), v26 = .bool x26_20 /\ Aside0 (spec_ValOk.j0 kq a1_0 x26_20 l0_0 l0_1 l0_2 l0_3 a1_0 a1_1 = some r) /\ Aside0 (kq <= k) /\ Aside0 (wc.heap[gb141]? = some (.cells #[(.slice A0_0 l0_0.length c0_0), (.slice A0_1 l0_1.length c0_1), (.slice A0_2 l0_2.length c0_2), (.slice A0_3 l0_3.length c0_3)] 29 (0, 0))) /\ Aside0 (wc.heap[gb142]? = some (.cells #[.int .i64 a1_0, .int .i64 a1_1] 35 (0, 0))) /\ Aside0 (Below w.heap.size w wc))
    case first =>
     have H := HC21.out
     clear HC21
     by_cases c26 : a1_0 = 3
     ·rw [if_pos c26] at H
      have c26b0 : (a1_0 == 3) = true := beq_iff_eq.mpr c26
      have c26b1 : (a1_0 != 3) = false := bne_eq_false_iff_eq.mpr c26
      clear c26
      (first | rw [c26b0] | (simp only [i64_w, i32_w]; rw [c26b0]) | skip)
      have H' := Aside0.mk H
      clear H
      go_wp2
      go_meet
      case rel => exact ⟨_, ((a1_0 == 3)), ez, H', ⟨by first | omega | exact Nat.le_refl _⟩, ⟨by refine kq ?_; exact BK141.out⟩, ⟨by refine kq ?_; exact BK142.out⟩, ⟨(bz2 HB.out GE141.out GE142.out)⟩⟩
     ·rw [if_neg c26] at H
      have c26b0 : (a1_0 == 3) = false := beq_eq_false_iff_ne.mpr c26
      have c26b1 : (a1_0 != 3) = true := bne_iff_ne.mpr c26
      (first | rw [c26b0] | (simp only [i64_w, i32_w]; rw [c26b0]) | skip)
      have H' := Aside0.mk H
      clear H
      go_wp2
      go_meet
      case rel => exact ⟨_, ((a1_0 == 4)), ez, H', ⟨by first | omega | exact Nat.le_refl _⟩, ⟨by refine kq ?_; exact BK141.out⟩, ⟨by refine kq ?_; exact BK142.out⟩, ⟨(bz2 HB.out GE141.out GE142.out)⟩⟩
    case rest =>
     clear HC21
     try clear c1
     try clear c2
     try clear p2
     try clear c3
     try clear c3b0
     try clear c3b1
     try clear c4
     try clear p6
     try clear c7
     try clear c9
     try clear c9b0
     try clear c9b1
     try clear c13
     try clear c16
     try clear c16b0
     try clear c16b1
     try clear c17
     try clear c19
     try clear c24
     try clear c26
     try clear c26b0
     try clear c26b1
     try clear hcz14_0 hcz14_1
     try clear hcz15_0 hcz15_1 hcz15_2 hcz15_3
     try clear hcz20_0 hcz20_1
     try clear hcz25_0 hcz25_1
     try clear hcz8_0 hcz8_1
     try clear hfz14_0 hfz14_1
     try clear hfz15_0 hfz15_1 hfz15_2 hfz15_3
     try clear hfz20_0 hfz20_1
     try clear hfz25_0 hfz25_1
     try clear hfz8_0 hfz8_1
     obtain ⟨kq, x26_20, rfl, HA, HJ20, BK141, BK142, HB⟩ := hcut
     cases kq with
     | zero => exact absurd HA.out (by simp [spec_ValOk.j0])
     | succ kj20 =>
      have H := HA.out
      clear HA
      simp only [spec_ValOk.j0] at H
      by_cases c27 : x26_20 = true
      ·subst c27
       have H1 := hp H
       clear H
       have H := H1
       clear H1
       replace H := bi H
       obtain ⟨t145, A280, H⟩ := H
       try dsimp only at H
       have A28 := Aside0.mk A280
       clear A280
       obtain rfl := Option.some.inj H
       have hnb29 := NB142_141.out
       have hnc29 := NB141_142.out
       obtain ⟨hcz30_0, hcz30_1⟩ := cz2 BK142.out
       obtain ⟨hfz30_0, hfz30_1⟩ := fz2 BK142.out
       obtain ⟨hcz31_0, hcz31_1, hcz31_2, hcz31_3⟩ := cz4 BK141.out
       obtain ⟨hfz31_0, hfz31_1, hfz31_2, hfz31_3⟩ := fz4 BK141.out
       go_wp2_with (first | ((with_reducible refine gate_callee (f := 44) rfl ?_); refine goesL_ (some 35) rfl rfl Tryd.func44 (by kernel_rfl) rfl #[.int .i64 a1_1, .int .i64 0, .int .i64 (wrap64 ((l0_2.length : Int) - 1))] rfl lz ?_; (with_reducible refine (spec_l1In.calls a1_1 0 (wrap64 ((l0_2.length : Int) - 1)) t145 _ A28.out).mono ?_); rintro e w' ⟨rfl, ⟨nd, rfl⟩⟩; refine ⟨_, rfl, ?_⟩))
       go_ret
       exact ⟨gz, (bz2 HB.out GE141.out GE142.out)⟩
      ·replace c27 := Bool.eq_false_iff.mpr c27
       subst c27
       have H1 := hq H
       clear H
       have H := H1
       clear H1
       by_cases c32 : a1_0 = 5
       ·rw [if_pos c32] at H
        have c32b0 : (a1_0 == 5) = true := beq_iff_eq.mpr c32
        have c32b1 : (a1_0 != 5) = false := bne_eq_false_iff_eq.mpr c32
        clear c32
        replace H := bi H
        obtain ⟨t146, A330, H⟩ := H
        try dsimp only at H
        have A33 := Aside0.mk A330
        clear A330
        obtain rfl := Option.some.inj H
        have hnb34 := NB142_141.out
        have hnc34 := NB141_142.out
        obtain ⟨hcz35_0, hcz35_1⟩ := cz2 BK142.out
        obtain ⟨hfz35_0, hfz35_1⟩ := fz2 BK142.out
        obtain ⟨hcz36_0, hcz36_1, hcz36_2, hcz36_3⟩ := cz4 BK141.out
        obtain ⟨hfz36_0, hfz36_1, hfz36_2, hfz36_3⟩ := fz4 BK141.out
        go_wp2_with (first | ((with_reducible refine gate_callee (f := 44) rfl ?_); refine goesL_ (some 44) rfl rfl Tryd.func44 (by kernel_rfl) rfl #[.int .i64 a1_1, .int .i64 0, .int .i64 (wrap64 ((l0_3.length : Int) - 1))] rfl lz ?_; (with_reducible refine (spec_l1In.calls a1_1 0 (wrap64 ((l0_3.length : Int) - 1)) t146 _ A33.out).mono ?_); rintro e w' ⟨rfl, ⟨nd, rfl⟩⟩; refine ⟨_, rfl, ?_⟩))
        go_ret
        exact ⟨gz, (bz2 HB.out GE141.out GE142.out)⟩
       ·rw [if_neg c32] at H
        have c32b0 : (a1_0 == 5) = false := beq_eq_false_iff_ne.mpr c32
        have c32b1 : (a1_0 != 5) = true := bne_iff_ne.mpr c32
        obtain rfl := Option.some.inj H
        go_wp2
        go_ret
        exact ⟨gz, (bz2 HB.out GE141.out GE142.out)⟩
end Go.Proofs.YtlhofeikcaejpaaDoor.PFnExactShowVal
