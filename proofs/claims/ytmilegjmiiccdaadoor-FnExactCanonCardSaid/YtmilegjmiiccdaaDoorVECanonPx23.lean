/- PFnExactCanonx23, of the words and walks that the law FnExactCanon needs; made by this session's program out of printed texts. -/

import Derived.Test.YtmilegjmiiccdaaDoorVECanonPx0
import Derived.Test.YtmilegjmiiccdaaDoorVECanonPx2
import Derived.Test.YtmilegjmiiccdaaDoorVECanonPx3
import Derived.Test.YtmilegjmiiccdaaDoorVECanonPx12
import Derived.Test.YtmilegjmiiccdaaDoorVECanonPx21
import Derived.Test.YtmilegjmiiccdaaDoorVECanonPx22
namespace Go.Proofs.YtmilegjmiiccdaaDoor.PFnExactCanon
open Go.RowKit Go.Proofs.YtmilegjmiiccdaaDoorW.PrintWords Go.Proofs.YtmilegjmiiccdaaDoorW.PrintLast Go.Proofs.YtmilegjmiiccdaaDoorW.PrintMore
attribute [local go_sem] max2_int min2_int max_two min_two max_three min_three max_four min_four
set_option linter.unusedVariables false
set_option linter.unusedSimpArgs false
def laws_FnExactCanon.j0 : Nat -> List (S42) -> List (S43) -> List (S43) -> Bool -> Option (Bool)
 | 0, _, _, _, _ => none
 | k + 1, x0, x4, x6, x42 => if x42 = true then (some false) else ((laws_markNodeS.f k x6 1).bind fun bt593 => ((laws_heldNodeS.f k bt593.2 1).bind fun t595 => (if t595 < 0 then (some false) else (if t595 = bt593.1 then ((laws_toNodeS.f k x0).bind fun t596 => ((impl_Canon.f k t596).bind fun t599 => ((laws_eqNodeS.f k t599 x4).bind fun t602 => (if t602 = true then ((laws_heldNodeS.f k bt593.2 1).bind fun t603 => (if t603 < 0 then (some false) else (if t603 = bt593.1 then (some true) else (some false)))) else (some false))))) else (some false)))))
def laws_FnExactCanon.f (k : Nat) (l0 : List (S42)) : Option (Bool) := (laws_szNodeS.f k l0 1048576).bind fun t572 => (if t572 < 0 then (some true) else ((laws_toNodeS.f k l0).bind fun t573 => ((spec_Canon.f k t573).bind fun t576 => ((laws_toNodeS.f k l0).bind fun t579 => ((impl_Canon.f k t579).bind fun t582 => ((laws_eqNodeS.f k t582 t576).bind fun t585 => (if t585 = true then ((laws_toNodeS.f k l0).bind fun t586 => ((laws_eqNodeS.f k t579 t586).bind fun t589 => (if t589 = true then ((laws_markNodeS.f k t579 1).bind fun bt590 => (if bt590.1 < 0 then (laws_FnExactCanon.j0 k l0 t576 t582 true) else ((laws_eqNodeS.f k t582 t576).bind fun t592 => (laws_FnExactCanon.j0 k l0 t576 t582 (!t592))))) else (some false)))) else (some false))))))))
theorem laws_FnExactCanon.mono_l : ∀ k, (∀ y0 y1 y2 y3, LeO (laws_FnExactCanon.j0 k y0 y1 y2 y3) (laws_FnExactCanon.j0 (k + 1) y0 y1 y2 y3))
 | 0 => fun _ _ _ _ r h => by simp [laws_FnExactCanon.j0] at h
 | k + 1 => by
  have ih0 := laws_FnExactCanon.mono_l k
  ·intro y0 y1 y2 y3
   unfold laws_FnExactCanon.j0
   with_reducible repeat' first | exact ih0 _ _ _ _ | exact impl_Canon.mono _ _ | exact laws_eqNodeS.mono _ _ _ | exact laws_heldNodeS.mono _ _ _ | exact laws_markNodeS.mono _ _ _ | exact laws_szNodeS.mono _ _ _ | exact laws_toNodeS.mono _ _ | exact spec_Canon.mono _ _ | exact lrz _ | exact lnz _ | refine liz ?_ ?_ | refine lbz ?_ fun _ => ?_
theorem laws_FnExactCanon.mono : ∀ a0 k, LeO (laws_FnExactCanon.f k a0) (laws_FnExactCanon.f (k + 1) a0) := by
 intro a0 k
 have ih0 := laws_FnExactCanon.mono_l k
 unfold laws_FnExactCanon.f
 with_reducible repeat' first | exact ih0 _ _ _ _ | exact impl_Canon.mono _ _ | exact laws_eqNodeS.mono _ _ _ | exact laws_heldNodeS.mono _ _ _ | exact laws_markNodeS.mono _ _ _ | exact laws_szNodeS.mono _ _ _ | exact laws_toNodeS.mono _ _ | exact spec_Canon.mono _ _ | exact lrz _ | exact lnz _ | refine liz ?_ ?_ | refine lbz ?_ fun _ => ?_
set_option maxHeartbeats 8000000 in
set_option maxRecDepth 100000 in
theorem laws_FnExactCanon.calls (k : Nat) (A0 : Option Addr) (c0 : Nat) (l0 : List (S42)) (r : Bool) (w : World) (hr0 : Kd.C k42 w A0 l0.length l0) (hc0 : l0.length <= c0) (h : laws_FnExactCanon.f k l0 = some r) :
  Calls Tryd.prog 9 #[.slice A0 l0.length c0] w fun e w' => e = .returned (.bool r) /\ Below w.heap.size w w' := by
 have HR0 := Aside0.mk hr0
 have HC0 := Aside0.mk hc0
 clear hr0 hc0
 have HB := Aside0.mk (Below.refl w.heap.size w)
 have H : ((laws_szNodeS.f k l0 1048576).bind fun t572 => (if t572 < 0 then (some true) else ((laws_toNodeS.f k l0).bind fun t573 => ((spec_Canon.f k t573).bind fun t576 => ((laws_toNodeS.f k l0).bind fun t579 => ((impl_Canon.f k t579).bind fun t582 => ((laws_eqNodeS.f k t582 t576).bind fun t585 => (if t585 = true then ((laws_toNodeS.f k l0).bind fun t586 => ((laws_eqNodeS.f k t579 t586).bind fun t589 => (if t589 = true then ((laws_markNodeS.f k t579 1).bind fun bt590 => (if bt590.1 < 0 then (laws_FnExactCanon.j0 k l0 t576 t582 true) else ((laws_eqNodeS.f k t582 t576).bind fun t592 => (laws_FnExactCanon.j0 k l0 t576 t582 (!t592))))) else (some false)))) else (some false))))))))) = some r := h
 clear h
 replace H := bi H
 obtain ⟨t572, A20, H⟩ := H
 try dsimp only at H
 have A2 := Aside0.mk A20
 clear A20
 by_cases c3 : t572 < 0
 ·rw [if_pos c3] at H
  have c3b0 := decide_eq_true c3
  clear c3
  obtain rfl := Option.some.inj H
  go_enter Tryd.func9, Tryd.ntmps9
  go_wp2_with (first | ((with_reducible refine gate_callee (f := 10) rfl ?_); refine goesL_ (some 13) rfl rfl Tryd.func10 (by kernel_rfl) rfl #[.slice A0 l0.length c0, .int .i64 1048576] rfl lz ?_; (with_reducible refine (laws_szNodeS.calls k _ _ l0 1048576 t572 _ ?side1 ?side2 A2.out).mono ?_); (case side1 => repeat (first | exact HR0.out | (with_reducible refine Kd.C_alloc ?_ _) | (with_reducible refine Kd.C_drewN ?_ _) | (with_reducible refine Kd.C_drew ?_))); (case side2 => exact HC0.out); rintro e w4 ⟨rfl, hb⟩; refine ⟨_, rfl, ?_⟩; replace HB := Aside0.mk (below_step (bz0 HB.out) hb); (try clear hb); (try clear hi)))
  go_ret
  exact ⟨gz, (bz0 HB.out)⟩
 ·rw [if_neg c3] at H
  have c3b0 := decide_eq_false c3
  clear c3
  replace H := bi H
  obtain ⟨t573, A50, H⟩ := H
  try dsimp only at H
  have A5 := Aside0.mk A50
  clear A50
  replace H := bi H
  obtain ⟨t576, A60, H⟩ := H
  try dsimp only at H
  have A6 := Aside0.mk A60
  clear A60
  replace H := bi H
  obtain ⟨t579, A70, H⟩ := H
  try dsimp only at H
  have A7 := Aside0.mk A70
  clear A70
  replace H := bi H
  obtain ⟨t582, A80, H⟩ := H
  try dsimp only at H
  have A8 := Aside0.mk A80
  clear A80
  replace H := bi H
  obtain ⟨t585, A90, H⟩ := H
  try dsimp only at H
  have A9 := Aside0.mk A90
  clear A90
  by_cases c10 : t585 = true
  ·subst c10
   have H1 := hp H
   clear H
   have H := H1
   clear H1
   replace H := bi H
   obtain ⟨t586, A110, H⟩ := H
   try dsimp only at H
   have A11 := Aside0.mk A110
   clear A110
   replace H := bi H
   obtain ⟨t589, A120, H⟩ := H
   try dsimp only at H
   have A12 := Aside0.mk A120
   clear A120
   by_cases c13 : t589 = true
   ·subst c13
    have H1 := hp H
    clear H
    have H := H1
    clear H1
    replace H := bi H
    obtain ⟨⟨t590, t591⟩, A140, H⟩ := H
    try dsimp only at H
    have A14 := Aside0.mk A140
    clear A140
    have HC15 := Aside0.mk H
    clear H
    go_enter Tryd.func9, Tryd.ntmps9
    go_upto_region 14 with (first | ((with_reducible refine gate_callee (f := 10) rfl ?_); refine goesL_ (some 13) rfl rfl Tryd.func10 (by kernel_rfl) rfl #[.slice A0 l0.length c0, .int .i64 1048576] rfl lz ?_; (with_reducible refine (laws_szNodeS.calls k _ _ l0 1048576 t572 _ ?side1 ?side2 A2.out).mono ?_); (case side1 => repeat (first | exact HR0.out | (with_reducible refine Kd.C_alloc ?_ _) | (with_reducible refine Kd.C_drewN ?_ _) | (with_reducible refine Kd.C_drew ?_))); (case side2 => exact HC0.out); rintro e w16 ⟨rfl, hb⟩; refine ⟨_, rfl, ?_⟩; replace HB := Aside0.mk (below_step (bz0 HB.out) hb); (try clear hb); (try clear hi)) | ((with_reducible refine gate_callee (f := 12) rfl ?_); refine goesL_ (some 17) rfl rfl Tryd.func12 (by kernel_rfl) rfl #[.slice A0 l0.length c0] rfl lz ?_; (with_reducible refine (laws_toNodeS.calls k _ _ l0 t573 _ ?side1 ?side2 A5.out).mono ?_); (case side1 => exact cz (Kd.C_below HR0.out HB.out)); (case side2 => exact HC0.out); rintro e w17 ⟨v574, rfl, ho0, hb⟩; refine ⟨_, rfl, ?_⟩; have HO575 := Aside0.mk (Kd.R_lower ho0 (below_size (bz0 HB.out))); replace HB := Aside0.mk (below_step (bz0 HB.out) hb); (try clear hb); (try clear ho0); obtain ⟨Ao18, co18, eo18⟩ := Kd.R_slice HO575.out; subst eo18) | ((with_reducible refine gate_callee (f := 29) rfl ?_); refine goesL_ (some 18) rfl rfl Tryd.func29 (by kernel_rfl) rfl #[.slice Ao18 t573.length co18] rfl lz ?_; (with_reducible refine (spec_Canon.calls k _ _ t573 t576 _ ?side1 ?side2 A6.out).mono ?_); (case side1 => exact cz (Kd.R_reads' HO575.out).2.2); (case side2 => exact (Kd.R_reads' HO575.out).2.1); rintro e w19 ⟨v577, rfl, ho0, hb⟩; refine ⟨_, rfl, ?_⟩; have HO578 := Aside0.mk (Kd.R_lower (Kd.R_new' ho0 (Kd.R_lt (rz HO575.out))) (below_size (bz0 HB.out))); replace HO575 := Aside0.mk (Kd.R_elder' (rz HO575.out) (Kd.R_base ho0) hb); replace HB := Aside0.mk (below_step (bz0 HB.out) hb); (try clear hb); (try clear ho0)) | ((with_reducible refine gate_callee (f := 12) rfl ?_); refine goesL_ (some 20) rfl rfl Tryd.func12 (by kernel_rfl) rfl #[.slice A0 l0.length c0] rfl lz ?_; (with_reducible refine (laws_toNodeS.calls k _ _ l0 t579 _ ?side1 ?side2 A7.out).mono ?_); (case side1 => exact cz (Kd.C_below HR0.out HB.out)); (case side2 => exact HC0.out); rintro e w20 ⟨v580, rfl, ho0, hb⟩; refine ⟨_, rfl, ?_⟩; have HO581 := Aside0.mk (Kd.R_lower (Kd.R_new' (Kd.R_new' ho0 (Kd.R_lt (rz HO575.out))) (Kd.R_lt (rz HO578.out))) (below_size (bz0 HB.out))); replace HO575 := Aside0.mk (Kd.R_elder' (rz HO575.out) (Kd.R_base ho0) hb); replace HO578 := Aside0.mk (Kd.R_elder' (rz HO578.out) (Kd.R_base ho0) hb); replace HB := Aside0.mk (below_step (bz0 HB.out) hb); (try clear hb); (try clear ho0); obtain ⟨Ao21, co21, eo21⟩ := Kd.R_slice HO581.out; subst eo21) | ((with_reducible refine gate_callee (f := 30) rfl ?_); refine goesL_ (some 22) rfl rfl Tryd.func30 (by kernel_rfl) rfl #[.slice Ao21 t579.length co21] rfl lz ?_; (with_reducible refine (impl_Canon.calls k _ _ t579 t582 _ ?side1 ?side2 A8.out).mono ?_); (case side1 => exact cz (Kd.R_reads' HO581.out).2.2); (case side2 => exact (Kd.R_reads' HO581.out).2.1); rintro e w22 ⟨v583, rfl, ho0, hb⟩; refine ⟨_, rfl, ?_⟩; have HO584 := Aside0.mk (Kd.R_lower (Kd.R_new' (Kd.R_new' (Kd.R_new' ho0 (Kd.R_lt (rz HO575.out))) (Kd.R_lt (rz HO578.out))) (Kd.R_lt (rz HO581.out))) (below_size (bz0 HB.out))); replace HO575 := Aside0.mk (Kd.R_elder' (rz HO575.out) (Kd.R_base ho0) hb); replace HO578 := Aside0.mk (Kd.R_elder' (rz HO578.out) (Kd.R_base ho0) hb); replace HO581 := Aside0.mk (Kd.R_elder' (rz HO581.out) (Kd.R_base ho0) hb); replace HB := Aside0.mk (below_step (bz0 HB.out) hb); (try clear hb); (try clear ho0); obtain ⟨Ao23, co23, eo23⟩ := Kd.R_slice HO584.out; subst eo23; obtain ⟨Ao24, co24, eo24⟩ := Kd.R_slice HO578.out; subst eo24) | ((with_reducible refine gate_callee (f := 14) rfl ?_); refine goesL_ (some 25) rfl rfl Tryd.func14 (by kernel_rfl) rfl #[.slice Ao23 t582.length co23, .slice Ao24 t576.length co24] rfl lz ?_; (with_reducible refine (laws_eqNodeS.calls k _ _ t582 _ _ t576 true _ ?side1 ?side2 ?side3 ?side4 A9.out).mono ?_); (case side1 => exact cz (Kd.R_reads' HO584.out).2.2); (case side2 => exact (Kd.R_reads' HO584.out).2.1); (case side3 => exact cz (Kd.R_reads' HO578.out).2.2); (case side4 => exact (Kd.R_reads' HO578.out).2.1); rintro e w25 ⟨rfl, hb⟩; refine ⟨_, rfl, ?_⟩; replace HO575 := qz HO575 hb; replace HO578 := qz HO578 hb; replace HO581 := qz HO581 hb; replace HO584 := qz HO584 hb; replace HB := Aside0.mk (below_step (bz0 HB.out) hb); (try clear hb); (try clear hi)) | ((with_reducible refine gate_callee (f := 12) rfl ?_); refine goesL_ (some 29) rfl rfl Tryd.func12 (by kernel_rfl) rfl #[.slice A0 l0.length c0] rfl lz ?_; (with_reducible refine (laws_toNodeS.calls k _ _ l0 t586 _ ?side1 ?side2 A11.out).mono ?_); (case side1 => exact cz (Kd.C_below HR0.out HB.out)); (case side2 => exact HC0.out); rintro e w26 ⟨v587, rfl, ho0, hb⟩; refine ⟨_, rfl, ?_⟩; have HO588 := Aside0.mk (Kd.R_lower (Kd.R_new' (Kd.R_new' (Kd.R_new' (Kd.R_new' ho0 (Kd.R_lt (rz HO575.out))) (Kd.R_lt (rz HO578.out))) (Kd.R_lt (rz HO581.out))) (Kd.R_lt (rz HO584.out))) (below_size (bz0 HB.out))); replace HO575 := Aside0.mk (Kd.R_elder' (rz HO575.out) (Kd.R_base ho0) hb); replace HO578 := Aside0.mk (Kd.R_elder' (rz HO578.out) (Kd.R_base ho0) hb); replace HO581 := Aside0.mk (Kd.R_elder' (rz HO581.out) (Kd.R_base ho0) hb); replace HO584 := Aside0.mk (Kd.R_elder' (rz HO584.out) (Kd.R_base ho0) hb); replace HB := Aside0.mk (below_step (bz0 HB.out) hb); (try clear hb); (try clear ho0); obtain ⟨Ao27, co27, eo27⟩ := Kd.R_slice HO588.out; subst eo27) | ((with_reducible refine gate_callee (f := 14) rfl ?_); refine goesL_ (some 30) rfl rfl Tryd.func14 (by kernel_rfl) rfl #[.slice Ao21 t579.length co21, .slice Ao27 t586.length co27] rfl lz ?_; (with_reducible refine (laws_eqNodeS.calls k _ _ t579 _ _ t586 true _ ?side1 ?side2 ?side3 ?side4 A12.out).mono ?_); (case side1 => exact cz (Kd.R_reads' HO581.out).2.2); (case side2 => exact (Kd.R_reads' HO581.out).2.1); (case side3 => exact cz (Kd.R_reads' HO588.out).2.2); (case side4 => exact (Kd.R_reads' HO588.out).2.1); rintro e w28 ⟨rfl, hb⟩; refine ⟨_, rfl, ?_⟩; replace HO575 := qz HO575 hb; replace HO578 := qz HO578 hb; replace HO581 := qz HO581 hb; replace HO584 := qz HO584 hb; replace HO588 := qz HO588 hb; replace HB := Aside0.mk (below_step (bz0 HB.out) hb); (try clear hb); (try clear hi)) | ((with_reducible refine gate_callee (f := 22) rfl ?_); refine goesL_ (some 34) rfl rfl Tryd.func22 (by kernel_rfl) rfl #[.slice Ao21 t579.length co21, .int .i64 1] rfl lz ?_; (with_reducible refine (laws_markNodeS.calls k (fun k_ => some k_ = (.slice Ao21 t579.length co21 : Value).ownBlock) (.slice Ao21 t579.length co21) t579 1 t590 t591 w _ ?side1 ?side2 A14.out).mono ?_); (case side1 => repeat (first | (with_reducible first | exact HB.out | apply below_alloc | apply pw_below_drewN | apply below_drew1) | exact HB.out)); (case side2 => exact Kd.R_tight rfl HO581.out); rintro e w29 ⟨rfl, hy0, hb, hkp⟩; refine ⟨_, rfl, ?_⟩; replace HO575 := Aside0.mk (Kd.R_mono (ok' := fun k_ => some k_ ≠ (.slice Ao24 t576.length co24 : Value).ownBlock /\ some k_ ≠ (.slice Ao21 t579.length co21 : Value).ownBlock /\ some k_ ≠ (.slice Ao23 t582.length co23 : Value).ownBlock /\ some k_ ≠ (.slice Ao27 t586.length co27 : Value).ownBlock) (Kd.R_keptB (HO575.out) hkp (fun k_ hk_ hs_ => (hk_.1.1.2) hs_)) (fun k_ hk_ => ⟨hk_.1.1.1.1.2, hk_.1.1.1.2, hk_.1.1.2, hk_.1.2⟩)); replace HO578 := Aside0.mk (Kd.R_mono (ok' := fun k_ => some k_ ≠ (.slice Ao18 t573.length co18 : Value).ownBlock /\ some k_ ≠ (.slice Ao21 t579.length co21 : Value).ownBlock /\ some k_ ≠ (.slice Ao23 t582.length co23 : Value).ownBlock /\ some k_ ≠ (.slice Ao27 t586.length co27 : Value).ownBlock) (Kd.R_keptB (HO578.out) hkp (fun k_ hk_ hs_ => (hk_.1.1.2) hs_)) (fun k_ hk_ => ⟨hk_.1.1.1.1.2, hk_.1.1.1.2, hk_.1.1.2, hk_.1.2⟩)); replace HO581 := Aside0.mk (Kd.R_reok rfl hy0 (fun k_ e_ => HO581.out.1 k_ e_)); replace HO584 := Aside0.mk (Kd.R_mono (ok' := fun k_ => some k_ ≠ (.slice Ao18 t573.length co18 : Value).ownBlock /\ some k_ ≠ (.slice Ao24 t576.length co24 : Value).ownBlock /\ some k_ ≠ (.slice Ao21 t579.length co21 : Value).ownBlock /\ some k_ ≠ (.slice Ao27 t586.length co27 : Value).ownBlock) (Kd.R_keptB (HO584.out) hkp (fun k_ hk_ hs_ => (hk_.1.2) hs_)) (fun k_ hk_ => ⟨hk_.1.1.1.1.2, hk_.1.1.1.2, hk_.1.1.2, hk_.1.2⟩)); replace HO588 := Aside0.mk (Kd.R_mono (ok' := fun k_ => some k_ ≠ (.slice Ao18 t573.length co18 : Value).ownBlock /\ some k_ ≠ (.slice Ao24 t576.length co24 : Value).ownBlock /\ some k_ ≠ (.slice Ao21 t579.length co21 : Value).ownBlock /\ some k_ ≠ (.slice Ao23 t582.length co23 : Value).ownBlock) (Kd.R_keptB (HO588.out) hkp (fun k_ hk_ hs_ => (hk_.1.2) hs_)) (fun k_ hk_ => ⟨hk_.1.1.1.1.2, hk_.1.1.1.2, hk_.1.1.2, hk_.1.2⟩)); replace HB := Aside0.mk (hb); (try clear hb); (try clear hkp); (try clear hy0)))
    (try simp only [Act.put, sz1, sz2, sz3])
    go_cut [42] (fun v42 wc => ∃ (kq : Nat) (x42_14 : Bool), v42 = .bool x42_14 /\ Aside0 (laws_FnExactCanon.j0 kq l0 t576 t582 x42_14 = some r) /\ Aside0 (kq <= k) /\ Aside0 (Kd.R k43 43 wc w.heap.size (fun k_ => some k_ ≠ ((.slice Ao23 t582.length co23) : Value).ownBlock) (.slice Ao24 t576.length co24) t576) /\ Aside0 (Kd.R k43 43 wc w.heap.size (fun k_ => some k_ ≠ ((.slice Ao24 t576.length co24) : Value).ownBlock) (.slice Ao23 t582.length co23) t582) /\ Aside0 (Below w.heap.size w wc))
    case first =>
     have H := HC15.out
     clear HC15
     by_cases c30 : t590 < 0
     ·rw [if_pos c30] at H
      have c30b0 := decide_eq_true c30
      clear c30
      (first | rw [c30b0] | (simp only [i64_w, i32_w]; rw [c30b0]) | skip)
      have H' := Aside0.mk H
      clear H
      go_wp2
      go_meet
      case rel => exact ⟨_, (true), ez, H', ⟨by first | omega | exact Nat.le_refl _⟩, ⟨by refine rq ?_; exact Kd.R_mono HO578.out (fun _ hk => hk.2.2.1)⟩, ⟨by refine rq ?_; exact Kd.R_mono HO584.out (fun _ hk => hk.2.1)⟩, ⟨(bz0 HB.out)⟩⟩
     ·rw [if_neg c30] at H
      have c30b0 := decide_eq_false c30
      clear c30
      (first | rw [c30b0] | (simp only [i64_w, i32_w]; rw [c30b0]) | skip)
      replace H := bi H
      obtain ⟨t592, A310, H⟩ := H
      try dsimp only at H
      have A31 := Aside0.mk A310
      clear A310
      have H' := Aside0.mk H
      clear H
      go_wp2_with (first | (go_at_call 14; (with_reducible refine (laws_eqNodeS.calls k _ _ t582 _ _ t576 t592 _ ?side1 ?side2 ?side3 ?side4 A31.out).mono ?_); (case side1 => exact cz (Kd.R_reads' HO584.out).2.2); (case side2 => exact (Kd.R_reads' HO584.out).2.1); (case side3 => exact cz (Kd.R_reads' HO578.out).2.2); (case side4 => exact (Kd.R_reads' HO578.out).2.1); rintro e w32 ⟨rfl, hb⟩; replace HO575 := qz HO575 hb; replace HO578 := qz HO578 hb; replace HO581 := qz HO581 hb; replace HO584 := qz HO584 hb; replace HO588 := qz HO588 hb; replace HB := Aside0.mk (below_step (bz0 HB.out) hb); (try clear hb); (try clear hi)))
      go_meet
      case rel => exact ⟨_, (!t592), ez, H', ⟨by first | omega | exact Nat.le_refl _⟩, ⟨by refine rq ?_; exact Kd.R_mono HO578.out (fun _ hk => hk.2.2.1)⟩, ⟨by refine rq ?_; exact Kd.R_mono HO584.out (fun _ hk => hk.2.1)⟩, ⟨(bz0 HB.out)⟩⟩
    case rest =>
     clear HC15
     try clear c1
     try clear c2
     try clear p2
     try clear c3
     try clear c3b0
     try clear c9
     try clear c10
     try clear c12
     try clear c13
     try clear c14
     try clear c22
     try clear c29
     try clear c30
     try clear c30b0
     obtain ⟨kq, x42_14, rfl, HA, HJ14, HO_4, HO_6, HB⟩ := hcut
     cases kq with
     | zero => exact absurd HA.out (by simp [laws_FnExactCanon.j0])
     | succ kj14 =>
      have H := HA.out
      clear HA
      simp only [laws_FnExactCanon.j0] at H
      by_cases c33 : x42_14 = true
      ·subst c33
       have H1 := hp H
       clear H
       have H := H1
       clear H1
       obtain rfl := Option.some.inj H
       go_wp2
       go_ret
       exact ⟨gz, (bz0 HB.out)⟩
      ·replace c33 := Bool.eq_false_iff.mpr c33
       subst c33
       have H1 := hq H
       clear H
       have H := H1
       clear H1
       replace H := bi H
       obtain ⟨⟨t593, t594⟩, A340, H⟩ := H
       try dsimp only at H
       have A34 := Aside0.mk A340
       clear A340
       replace H := bi H
       obtain ⟨t595, A350, H⟩ := H
       try dsimp only at H
       have A35 := Aside0.mk A350
       clear A350
       by_cases c36 : t595 < 0
       ·rw [if_pos c36] at H
        have c36b0 := decide_eq_true c36
        clear c36
        obtain rfl := Option.some.inj H
        go_wp2_with (first | ((with_reducible refine gate_callee (f := 22) rfl ?_); refine goesL_ (some 45) rfl rfl Tryd.func22 (by kernel_rfl) rfl #[.slice Ao23 t582.length co23, .int .i64 1] rfl lz ?_; (with_reducible refine (laws_markNodeS.calls kj14 (fun k_ => some k_ = (.slice Ao23 t582.length co23 : Value).ownBlock) (.slice Ao23 t582.length co23) t582 1 t593 t594 w _ ?side1 ?side2 A34.out).mono ?_); (case side1 => repeat (first | (with_reducible first | exact HB.out | apply below_alloc | apply pw_below_drewN | apply below_drew1) | exact HB.out)); (case side2 => exact Kd.R_tight rfl HO_6.out); rintro e w37 ⟨rfl, hy0, hb, hkp⟩; refine ⟨_, rfl, ?_⟩; replace HO_4 := Aside0.mk (Kd.R_mono (ok' := fun k_ => some k_ ≠ (.slice Ao23 t582.length co23 : Value).ownBlock) (Kd.R_keptB (HO_4.out) hkp (fun k_ hk_ hs_ => (hk_) hs_)) (fun k_ hk_ => hk_.1)); replace HO_6 := Aside0.mk (Kd.R_reok rfl hy0 (fun k_ e_ => HO_6.out.1 k_ e_)); replace HB := Aside0.mk (hb); (try clear hb); (try clear hkp); (try clear hy0)) | ((with_reducible refine gate_callee (f := 31) rfl ?_); refine goesL_ (some 48) rfl rfl Tryd.func31 (by kernel_rfl) rfl #[.slice Ao23 t594.length co23, .int .i64 1] rfl (by (try simp only [List.map_toArray, List.map_cons, List.map_nil]); first | done | (rw [show t594.length = t582.length from (Kd.R_reads' HO_6.out).1.symm] <;> rfl) | rfl | (simp only [List.length_drop, List.length_take]; rfl)) ?_; (with_reducible refine (laws_heldNodeS.calls kj14 _ _ t594 1 t595 _ ?side1 ?side2 A35.out).mono ?_); (case side1 => exact cz (Kd.R_reads' HO_6.out).2.2); (case side2 => rw [show t594.length = t582.length from (Kd.R_reads' HO_6.out).1.symm]; exact (Kd.R_reads' HO_6.out).2.1); rintro e w38 ⟨rfl, hb⟩; refine ⟨_, rfl, ?_⟩; replace HO_4 := qz HO_4 hb; replace HO_6 := qz HO_6 hb; replace HB := Aside0.mk (below_step (bz0 HB.out) hb); (try clear hb); (try clear hi)))
        go_ret
        exact ⟨gz, (bz0 HB.out)⟩
       ·rw [if_neg c36] at H
        have c36b0 := decide_eq_false c36
        clear c36
        by_cases c39 : t595 = t593
        ·rw [if_pos c39] at H
         have c39b0 : (t595 == t593) = true := beq_iff_eq.mpr c39
         have c39b1 : (t595 != t593) = false := bne_eq_false_iff_eq.mpr c39
         clear c39
         replace H := bi H
         obtain ⟨t596, A400, H⟩ := H
         try dsimp only at H
         have A40 := Aside0.mk A400
         clear A400
         replace H := bi H
         obtain ⟨t599, A410, H⟩ := H
         try dsimp only at H
         have A41 := Aside0.mk A410
         clear A410
         replace H := bi H
         obtain ⟨t602, A420, H⟩ := H
         try dsimp only at H
         have A42 := Aside0.mk A420
         clear A420
         by_cases c43 : t602 = true
         ·subst c43
          have H1 := hp H
          clear H
          have H := H1
          clear H1
          replace H := bi H
          obtain ⟨t603, A440, H⟩ := H
          try dsimp only at H
          have A44 := Aside0.mk A440
          clear A440
          by_cases c45 : t603 < 0
          ·rw [if_pos c45] at H
           have c45b0 := decide_eq_true c45
           clear c45
           obtain rfl := Option.some.inj H
           go_wp2_with (first | ((with_reducible refine gate_callee (f := 22) rfl ?_); refine goesL_ (some 45) rfl rfl Tryd.func22 (by kernel_rfl) rfl #[.slice Ao23 t582.length co23, .int .i64 1] rfl lz ?_; (with_reducible refine (laws_markNodeS.calls kj14 (fun k_ => some k_ = (.slice Ao23 t582.length co23 : Value).ownBlock) (.slice Ao23 t582.length co23) t582 1 t593 t594 w _ ?side1 ?side2 A34.out).mono ?_); (case side1 => repeat (first | (with_reducible first | exact HB.out | apply below_alloc | apply pw_below_drewN | apply below_drew1) | exact HB.out)); (case side2 => exact Kd.R_tight rfl HO_6.out); rintro e w46 ⟨rfl, hy0, hb, hkp⟩; refine ⟨_, rfl, ?_⟩; replace HO_4 := Aside0.mk (Kd.R_mono (ok' := fun k_ => some k_ ≠ (.slice Ao23 t582.length co23 : Value).ownBlock) (Kd.R_keptB (HO_4.out) hkp (fun k_ hk_ hs_ => (hk_) hs_)) (fun k_ hk_ => hk_.1)); replace HO_6 := Aside0.mk (Kd.R_reok rfl hy0 (fun k_ e_ => HO_6.out.1 k_ e_)); replace HB := Aside0.mk (hb); (try clear hb); (try clear hkp); (try clear hy0)) | ((with_reducible refine gate_callee (f := 31) rfl ?_); refine goesL_ (some 48) rfl rfl Tryd.func31 (by kernel_rfl) rfl #[.slice Ao23 t594.length co23, .int .i64 1] rfl (by (try simp only [List.map_toArray, List.map_cons, List.map_nil]); first | done | (rw [show t594.length = t582.length from (Kd.R_reads' HO_6.out).1.symm] <;> rfl) | rfl | (simp only [List.length_drop, List.length_take]; rfl)) ?_; (with_reducible refine (laws_heldNodeS.calls kj14 _ _ t594 1 t595 _ ?side1 ?side2 A35.out).mono ?_); (case side1 => exact cz (Kd.R_reads' HO_6.out).2.2); (case side2 => rw [show t594.length = t582.length from (Kd.R_reads' HO_6.out).1.symm]; exact (Kd.R_reads' HO_6.out).2.1); rintro e w47 ⟨rfl, hb⟩; refine ⟨_, rfl, ?_⟩; replace HO_4 := qz HO_4 hb; replace HO_6 := qz HO_6 hb; replace HB := Aside0.mk (below_step (bz0 HB.out) hb); (try clear hb); (try clear hi)) | ((with_reducible refine gate_callee (f := 12) rfl ?_); refine goesL_ (some 55) rfl rfl Tryd.func12 (by kernel_rfl) rfl #[.slice A0 l0.length c0] rfl lz ?_; (with_reducible refine (laws_toNodeS.calls kj14 _ _ l0 t596 _ ?side1 ?side2 A40.out).mono ?_); (case side1 => exact cz (Kd.C_below HR0.out HB.out)); (case side2 => exact HC0.out); rintro e w48 ⟨v597, rfl, ho0, hb⟩; refine ⟨_, rfl, ?_⟩; have HO598 := Aside0.mk (Kd.R_lower (Kd.R_new' (Kd.R_new' ho0 (Kd.R_lt (rz HO_4.out))) (Kd.R_lt (rz HO_6.out))) (below_size (bz0 HB.out))); replace HO_4 := Aside0.mk (Kd.R_elder' (rz HO_4.out) (Kd.R_base ho0) hb); replace HO_6 := Aside0.mk (Kd.R_elder' (rz HO_6.out) (Kd.R_base ho0) hb); replace HB := Aside0.mk (below_step (bz0 HB.out) hb); (try clear hb); (try clear ho0); obtain ⟨Ao49, co49, eo49⟩ := Kd.R_slice HO598.out; subst eo49) | ((with_reducible refine gate_callee (f := 30) rfl ?_); refine goesL_ (some 56) rfl rfl Tryd.func30 (by kernel_rfl) rfl #[.slice Ao49 t596.length co49] rfl lz ?_; (with_reducible refine (impl_Canon.calls kj14 _ _ t596 t599 _ ?side1 ?side2 A41.out).mono ?_); (case side1 => exact cz (Kd.R_reads' HO598.out).2.2); (case side2 => exact (Kd.R_reads' HO598.out).2.1); rintro e w50 ⟨v600, rfl, ho0, hb⟩; refine ⟨_, rfl, ?_⟩; have HO601 := Aside0.mk (Kd.R_lower (Kd.R_new' (Kd.R_new' (Kd.R_new' ho0 (Kd.R_lt (rz HO_4.out))) (Kd.R_lt (rz HO_6.out))) (Kd.R_lt (rz HO598.out))) (below_size (bz0 HB.out))); replace HO_4 := Aside0.mk (Kd.R_elder' (rz HO_4.out) (Kd.R_base ho0) hb); replace HO_6 := Aside0.mk (Kd.R_elder' (rz HO_6.out) (Kd.R_base ho0) hb); replace HO598 := Aside0.mk (Kd.R_elder' (rz HO598.out) (Kd.R_base ho0) hb); replace HB := Aside0.mk (below_step (bz0 HB.out) hb); (try clear hb); (try clear ho0); obtain ⟨Ao51, co51, eo51⟩ := Kd.R_slice HO601.out; subst eo51) | ((with_reducible refine gate_callee (f := 14) rfl ?_); refine goesL_ (some 59) rfl rfl Tryd.func14 (by kernel_rfl) rfl #[.slice Ao51 t599.length co51, .slice Ao24 t576.length co24] rfl lz ?_; (with_reducible refine (laws_eqNodeS.calls kj14 _ _ t599 _ _ t576 true _ ?side1 ?side2 ?side3 ?side4 A42.out).mono ?_); (case side1 => exact cz (Kd.R_reads' HO601.out).2.2); (case side2 => exact (Kd.R_reads' HO601.out).2.1); (case side3 => exact cz (Kd.R_reads' HO_4.out).2.2); (case side4 => exact (Kd.R_reads' HO_4.out).2.1); rintro e w52 ⟨rfl, hb⟩; refine ⟨_, rfl, ?_⟩; replace HO_4 := qz HO_4 hb; replace HO_6 := qz HO_6 hb; replace HO598 := qz HO598 hb; replace HO601 := qz HO601 hb; replace HB := Aside0.mk (below_step (bz0 HB.out) hb); (try clear hb); (try clear hi)) | ((with_reducible refine gate_callee (f := 31) rfl ?_); refine goesL_ (some 63) rfl rfl Tryd.func31 (by kernel_rfl) rfl #[.slice Ao23 t594.length co23, .int .i64 1] rfl (by (try simp only [List.map_toArray, List.map_cons, List.map_nil]); first | done | (rw [show t594.length = t582.length from (Kd.R_reads' HO_6.out).1.symm] <;> rfl) | rfl | (simp only [List.length_drop, List.length_take]; rfl)) ?_; (with_reducible refine (laws_heldNodeS.calls kj14 _ _ t594 1 t603 _ ?side1 ?side2 A44.out).mono ?_); (case side1 => exact cz (Kd.R_reads' HO_6.out).2.2); (case side2 => rw [show t594.length = t582.length from (Kd.R_reads' HO_6.out).1.symm]; exact (Kd.R_reads' HO_6.out).2.1); rintro e w53 ⟨rfl, hb⟩; refine ⟨_, rfl, ?_⟩; replace HO_4 := qz HO_4 hb; replace HO_6 := qz HO_6 hb; replace HO598 := qz HO598 hb; replace HO601 := qz HO601 hb; replace HB := Aside0.mk (below_step (bz0 HB.out) hb); (try clear hb); (try clear hi)))
           go_ret
           exact ⟨gz, (bz0 HB.out)⟩
          ·rw [if_neg c45] at H
           have c45b0 := decide_eq_false c45
           clear c45
           by_cases c54 : t603 = t593
           ·rw [if_pos c54] at H
            have c54b0 : (t603 == t593) = true := beq_iff_eq.mpr c54
            have c54b1 : (t603 != t593) = false := bne_eq_false_iff_eq.mpr c54
            clear c54
            obtain rfl := Option.some.inj H
            go_wp2_with (first | ((with_reducible refine gate_callee (f := 22) rfl ?_); refine goesL_ (some 45) rfl rfl Tryd.func22 (by kernel_rfl) rfl #[.slice Ao23 t582.length co23, .int .i64 1] rfl lz ?_; (with_reducible refine (laws_markNodeS.calls kj14 (fun k_ => some k_ = (.slice Ao23 t582.length co23 : Value).ownBlock) (.slice Ao23 t582.length co23) t582 1 t593 t594 w _ ?side1 ?side2 A34.out).mono ?_); (case side1 => repeat (first | (with_reducible first | exact HB.out | apply below_alloc | apply pw_below_drewN | apply below_drew1) | exact HB.out)); (case side2 => exact Kd.R_tight rfl HO_6.out); rintro e w55 ⟨rfl, hy0, hb, hkp⟩; refine ⟨_, rfl, ?_⟩; replace HO_4 := Aside0.mk (Kd.R_mono (ok' := fun k_ => some k_ ≠ (.slice Ao23 t582.length co23 : Value).ownBlock) (Kd.R_keptB (HO_4.out) hkp (fun k_ hk_ hs_ => (hk_) hs_)) (fun k_ hk_ => hk_.1)); replace HO_6 := Aside0.mk (Kd.R_reok rfl hy0 (fun k_ e_ => HO_6.out.1 k_ e_)); replace HB := Aside0.mk (hb); (try clear hb); (try clear hkp); (try clear hy0)) | ((with_reducible refine gate_callee (f := 31) rfl ?_); refine goesL_ (some 48) rfl rfl Tryd.func31 (by kernel_rfl) rfl #[.slice Ao23 t594.length co23, .int .i64 1] rfl (by (try simp only [List.map_toArray, List.map_cons, List.map_nil]); first | done | (rw [show t594.length = t582.length from (Kd.R_reads' HO_6.out).1.symm] <;> rfl) | rfl | (simp only [List.length_drop, List.length_take]; rfl)) ?_; (with_reducible refine (laws_heldNodeS.calls kj14 _ _ t594 1 t595 _ ?side1 ?side2 A35.out).mono ?_); (case side1 => exact cz (Kd.R_reads' HO_6.out).2.2); (case side2 => rw [show t594.length = t582.length from (Kd.R_reads' HO_6.out).1.symm]; exact (Kd.R_reads' HO_6.out).2.1); rintro e w56 ⟨rfl, hb⟩; refine ⟨_, rfl, ?_⟩; replace HO_4 := qz HO_4 hb; replace HO_6 := qz HO_6 hb; replace HB := Aside0.mk (below_step (bz0 HB.out) hb); (try clear hb); (try clear hi)) | ((with_reducible refine gate_callee (f := 12) rfl ?_); refine goesL_ (some 55) rfl rfl Tryd.func12 (by kernel_rfl) rfl #[.slice A0 l0.length c0] rfl lz ?_; (with_reducible refine (laws_toNodeS.calls kj14 _ _ l0 t596 _ ?side1 ?side2 A40.out).mono ?_); (case side1 => exact cz (Kd.C_below HR0.out HB.out)); (case side2 => exact HC0.out); rintro e w57 ⟨v597, rfl, ho0, hb⟩; refine ⟨_, rfl, ?_⟩; have HO598 := Aside0.mk (Kd.R_lower (Kd.R_new' (Kd.R_new' ho0 (Kd.R_lt (rz HO_4.out))) (Kd.R_lt (rz HO_6.out))) (below_size (bz0 HB.out))); replace HO_4 := Aside0.mk (Kd.R_elder' (rz HO_4.out) (Kd.R_base ho0) hb); replace HO_6 := Aside0.mk (Kd.R_elder' (rz HO_6.out) (Kd.R_base ho0) hb); replace HB := Aside0.mk (below_step (bz0 HB.out) hb); (try clear hb); (try clear ho0); obtain ⟨Ao58, co58, eo58⟩ := Kd.R_slice HO598.out; subst eo58) | ((with_reducible refine gate_callee (f := 30) rfl ?_); refine goesL_ (some 56) rfl rfl Tryd.func30 (by kernel_rfl) rfl #[.slice Ao58 t596.length co58] rfl lz ?_; (with_reducible refine (impl_Canon.calls kj14 _ _ t596 t599 _ ?side1 ?side2 A41.out).mono ?_); (case side1 => exact cz (Kd.R_reads' HO598.out).2.2); (case side2 => exact (Kd.R_reads' HO598.out).2.1); rintro e w59 ⟨v600, rfl, ho0, hb⟩; refine ⟨_, rfl, ?_⟩; have HO601 := Aside0.mk (Kd.R_lower (Kd.R_new' (Kd.R_new' (Kd.R_new' ho0 (Kd.R_lt (rz HO_4.out))) (Kd.R_lt (rz HO_6.out))) (Kd.R_lt (rz HO598.out))) (below_size (bz0 HB.out))); replace HO_4 := Aside0.mk (Kd.R_elder' (rz HO_4.out) (Kd.R_base ho0) hb); replace HO_6 := Aside0.mk (Kd.R_elder' (rz HO_6.out) (Kd.R_base ho0) hb); replace HO598 := Aside0.mk (Kd.R_elder' (rz HO598.out) (Kd.R_base ho0) hb); replace HB := Aside0.mk (below_step (bz0 HB.out) hb); (try clear hb); (try clear ho0); obtain ⟨Ao60, co60, eo60⟩ := Kd.R_slice HO601.out; subst eo60) | ((with_reducible refine gate_callee (f := 14) rfl ?_); refine goesL_ (some 59) rfl rfl Tryd.func14 (by kernel_rfl) rfl #[.slice Ao60 t599.length co60, .slice Ao24 t576.length co24] rfl lz ?_; (with_reducible refine (laws_eqNodeS.calls kj14 _ _ t599 _ _ t576 true _ ?side1 ?side2 ?side3 ?side4 A42.out).mono ?_); (case side1 => exact cz (Kd.R_reads' HO601.out).2.2); (case side2 => exact (Kd.R_reads' HO601.out).2.1); (case side3 => exact cz (Kd.R_reads' HO_4.out).2.2); (case side4 => exact (Kd.R_reads' HO_4.out).2.1); rintro e w61 ⟨rfl, hb⟩; refine ⟨_, rfl, ?_⟩; replace HO_4 := qz HO_4 hb; replace HO_6 := qz HO_6 hb; replace HO598 := qz HO598 hb; replace HO601 := qz HO601 hb; replace HB := Aside0.mk (below_step (bz0 HB.out) hb); (try clear hb); (try clear hi)) | ((with_reducible refine gate_callee (f := 31) rfl ?_); refine goesL_ (some 63) rfl rfl Tryd.func31 (by kernel_rfl) rfl #[.slice Ao23 t594.length co23, .int .i64 1] rfl (by (try simp only [List.map_toArray, List.map_cons, List.map_nil]); first | done | (rw [show t594.length = t582.length from (Kd.R_reads' HO_6.out).1.symm] <;> rfl) | rfl | (simp only [List.length_drop, List.length_take]; rfl)) ?_; (with_reducible refine (laws_heldNodeS.calls kj14 _ _ t594 1 t603 _ ?side1 ?side2 A44.out).mono ?_); (case side1 => exact cz (Kd.R_reads' HO_6.out).2.2); (case side2 => rw [show t594.length = t582.length from (Kd.R_reads' HO_6.out).1.symm]; exact (Kd.R_reads' HO_6.out).2.1); rintro e w62 ⟨rfl, hb⟩; refine ⟨_, rfl, ?_⟩; replace HO_4 := qz HO_4 hb; replace HO_6 := qz HO_6 hb; replace HO598 := qz HO598 hb; replace HO601 := qz HO601 hb; replace HB := Aside0.mk (below_step (bz0 HB.out) hb); (try clear hb); (try clear hi)))
            go_ret
            exact ⟨gz, (bz0 HB.out)⟩
           ·rw [if_neg c54] at H
            have c54b0 : (t603 == t593) = false := beq_eq_false_iff_ne.mpr c54
            have c54b1 : (t603 != t593) = true := bne_iff_ne.mpr c54
            obtain rfl := Option.some.inj H
            go_wp2_with (first | ((with_reducible refine gate_callee (f := 22) rfl ?_); refine goesL_ (some 45) rfl rfl Tryd.func22 (by kernel_rfl) rfl #[.slice Ao23 t582.length co23, .int .i64 1] rfl lz ?_; (with_reducible refine (laws_markNodeS.calls kj14 (fun k_ => some k_ = (.slice Ao23 t582.length co23 : Value).ownBlock) (.slice Ao23 t582.length co23) t582 1 t593 t594 w _ ?side1 ?side2 A34.out).mono ?_); (case side1 => repeat (first | (with_reducible first | exact HB.out | apply below_alloc | apply pw_below_drewN | apply below_drew1) | exact HB.out)); (case side2 => exact Kd.R_tight rfl HO_6.out); rintro e w63 ⟨rfl, hy0, hb, hkp⟩; refine ⟨_, rfl, ?_⟩; replace HO_4 := Aside0.mk (Kd.R_mono (ok' := fun k_ => some k_ ≠ (.slice Ao23 t582.length co23 : Value).ownBlock) (Kd.R_keptB (HO_4.out) hkp (fun k_ hk_ hs_ => (hk_) hs_)) (fun k_ hk_ => hk_.1)); replace HO_6 := Aside0.mk (Kd.R_reok rfl hy0 (fun k_ e_ => HO_6.out.1 k_ e_)); replace HB := Aside0.mk (hb); (try clear hb); (try clear hkp); (try clear hy0)) | ((with_reducible refine gate_callee (f := 31) rfl ?_); refine goesL_ (some 48) rfl rfl Tryd.func31 (by kernel_rfl) rfl #[.slice Ao23 t594.length co23, .int .i64 1] rfl (by (try simp only [List.map_toArray, List.map_cons, List.map_nil]); first | done | (rw [show t594.length = t582.length from (Kd.R_reads' HO_6.out).1.symm] <;> rfl) | rfl | (simp only [List.length_drop, List.length_take]; rfl)) ?_; (with_reducible refine (laws_heldNodeS.calls kj14 _ _ t594 1 t595 _ ?side1 ?side2 A35.out).mono ?_); (case side1 => exact cz (Kd.R_reads' HO_6.out).2.2); (case side2 => rw [show t594.length = t582.length from (Kd.R_reads' HO_6.out).1.symm]; exact (Kd.R_reads' HO_6.out).2.1); rintro e w64 ⟨rfl, hb⟩; refine ⟨_, rfl, ?_⟩; replace HO_4 := qz HO_4 hb; replace HO_6 := qz HO_6 hb; replace HB := Aside0.mk (below_step (bz0 HB.out) hb); (try clear hb); (try clear hi)) | ((with_reducible refine gate_callee (f := 12) rfl ?_); refine goesL_ (some 55) rfl rfl Tryd.func12 (by kernel_rfl) rfl #[.slice A0 l0.length c0] rfl lz ?_; (with_reducible refine (laws_toNodeS.calls kj14 _ _ l0 t596 _ ?side1 ?side2 A40.out).mono ?_); (case side1 => exact cz (Kd.C_below HR0.out HB.out)); (case side2 => exact HC0.out); rintro e w65 ⟨v597, rfl, ho0, hb⟩; refine ⟨_, rfl, ?_⟩; have HO598 := Aside0.mk (Kd.R_lower (Kd.R_new' (Kd.R_new' ho0 (Kd.R_lt (rz HO_4.out))) (Kd.R_lt (rz HO_6.out))) (below_size (bz0 HB.out))); replace HO_4 := Aside0.mk (Kd.R_elder' (rz HO_4.out) (Kd.R_base ho0) hb); replace HO_6 := Aside0.mk (Kd.R_elder' (rz HO_6.out) (Kd.R_base ho0) hb); replace HB := Aside0.mk (below_step (bz0 HB.out) hb); (try clear hb); (try clear ho0); obtain ⟨Ao66, co66, eo66⟩ := Kd.R_slice HO598.out; subst eo66) | ((with_reducible refine gate_callee (f := 30) rfl ?_); refine goesL_ (some 56) rfl rfl Tryd.func30 (by kernel_rfl) rfl #[.slice Ao66 t596.length co66] rfl lz ?_; (with_reducible refine (impl_Canon.calls kj14 _ _ t596 t599 _ ?side1 ?side2 A41.out).mono ?_); (case side1 => exact cz (Kd.R_reads' HO598.out).2.2); (case side2 => exact (Kd.R_reads' HO598.out).2.1); rintro e w67 ⟨v600, rfl, ho0, hb⟩; refine ⟨_, rfl, ?_⟩; have HO601 := Aside0.mk (Kd.R_lower (Kd.R_new' (Kd.R_new' (Kd.R_new' ho0 (Kd.R_lt (rz HO_4.out))) (Kd.R_lt (rz HO_6.out))) (Kd.R_lt (rz HO598.out))) (below_size (bz0 HB.out))); replace HO_4 := Aside0.mk (Kd.R_elder' (rz HO_4.out) (Kd.R_base ho0) hb); replace HO_6 := Aside0.mk (Kd.R_elder' (rz HO_6.out) (Kd.R_base ho0) hb); replace HO598 := Aside0.mk (Kd.R_elder' (rz HO598.out) (Kd.R_base ho0) hb); replace HB := Aside0.mk (below_step (bz0 HB.out) hb); (try clear hb); (try clear ho0); obtain ⟨Ao68, co68, eo68⟩ := Kd.R_slice HO601.out; subst eo68) | ((with_reducible refine gate_callee (f := 14) rfl ?_); refine goesL_ (some 59) rfl rfl Tryd.func14 (by kernel_rfl) rfl #[.slice Ao68 t599.length co68, .slice Ao24 t576.length co24] rfl lz ?_; (with_reducible refine (laws_eqNodeS.calls kj14 _ _ t599 _ _ t576 true _ ?side1 ?side2 ?side3 ?side4 A42.out).mono ?_); (case side1 => exact cz (Kd.R_reads' HO601.out).2.2); (case side2 => exact (Kd.R_reads' HO601.out).2.1); (case side3 => exact cz (Kd.R_reads' HO_4.out).2.2); (case side4 => exact (Kd.R_reads' HO_4.out).2.1); rintro e w69 ⟨rfl, hb⟩; refine ⟨_, rfl, ?_⟩; replace HO_4 := qz HO_4 hb; replace HO_6 := qz HO_6 hb; replace HO598 := qz HO598 hb; replace HO601 := qz HO601 hb; replace HB := Aside0.mk (below_step (bz0 HB.out) hb); (try clear hb); (try clear hi)) | ((with_reducible refine gate_callee (f := 31) rfl ?_); refine goesL_ (some 63) rfl rfl Tryd.func31 (by kernel_rfl) rfl #[.slice Ao23 t594.length co23, .int .i64 1] rfl (by (try simp only [List.map_toArray, List.map_cons, List.map_nil]); first | done | (rw [show t594.length = t582.length from (Kd.R_reads' HO_6.out).1.symm] <;> rfl) | rfl | (simp only [List.length_drop, List.length_take]; rfl)) ?_; (with_reducible refine (laws_heldNodeS.calls kj14 _ _ t594 1 t603 _ ?side1 ?side2 A44.out).mono ?_); (case side1 => exact cz (Kd.R_reads' HO_6.out).2.2); (case side2 => rw [show t594.length = t582.length from (Kd.R_reads' HO_6.out).1.symm]; exact (Kd.R_reads' HO_6.out).2.1); rintro e w70 ⟨rfl, hb⟩; refine ⟨_, rfl, ?_⟩; replace HO_4 := qz HO_4 hb; replace HO_6 := qz HO_6 hb; replace HO598 := qz HO598 hb; replace HO601 := qz HO601 hb; replace HB := Aside0.mk (below_step (bz0 HB.out) hb); (try clear hb); (try clear hi)))
            go_ret
            exact ⟨gz, (bz0 HB.out)⟩
         ·replace c43 := Bool.eq_false_iff.mpr c43
          subst c43
          have H1 := hq H
          clear H
          have H := H1
          clear H1
          obtain rfl := Option.some.inj H
          go_wp2_with (first | ((with_reducible refine gate_callee (f := 22) rfl ?_); refine goesL_ (some 45) rfl rfl Tryd.func22 (by kernel_rfl) rfl #[.slice Ao23 t582.length co23, .int .i64 1] rfl lz ?_; (with_reducible refine (laws_markNodeS.calls kj14 (fun k_ => some k_ = (.slice Ao23 t582.length co23 : Value).ownBlock) (.slice Ao23 t582.length co23) t582 1 t593 t594 w _ ?side1 ?side2 A34.out).mono ?_); (case side1 => repeat (first | (with_reducible first | exact HB.out | apply below_alloc | apply pw_below_drewN | apply below_drew1) | exact HB.out)); (case side2 => exact Kd.R_tight rfl HO_6.out); rintro e w71 ⟨rfl, hy0, hb, hkp⟩; refine ⟨_, rfl, ?_⟩; replace HO_4 := Aside0.mk (Kd.R_mono (ok' := fun k_ => some k_ ≠ (.slice Ao23 t582.length co23 : Value).ownBlock) (Kd.R_keptB (HO_4.out) hkp (fun k_ hk_ hs_ => (hk_) hs_)) (fun k_ hk_ => hk_.1)); replace HO_6 := Aside0.mk (Kd.R_reok rfl hy0 (fun k_ e_ => HO_6.out.1 k_ e_)); replace HB := Aside0.mk (hb); (try clear hb); (try clear hkp); (try clear hy0)) | ((with_reducible refine gate_callee (f := 31) rfl ?_); refine goesL_ (some 48) rfl rfl Tryd.func31 (by kernel_rfl) rfl #[.slice Ao23 t594.length co23, .int .i64 1] rfl (by (try simp only [List.map_toArray, List.map_cons, List.map_nil]); first | done | (rw [show t594.length = t582.length from (Kd.R_reads' HO_6.out).1.symm] <;> rfl) | rfl | (simp only [List.length_drop, List.length_take]; rfl)) ?_; (with_reducible refine (laws_heldNodeS.calls kj14 _ _ t594 1 t595 _ ?side1 ?side2 A35.out).mono ?_); (case side1 => exact cz (Kd.R_reads' HO_6.out).2.2); (case side2 => rw [show t594.length = t582.length from (Kd.R_reads' HO_6.out).1.symm]; exact (Kd.R_reads' HO_6.out).2.1); rintro e w72 ⟨rfl, hb⟩; refine ⟨_, rfl, ?_⟩; replace HO_4 := qz HO_4 hb; replace HO_6 := qz HO_6 hb; replace HB := Aside0.mk (below_step (bz0 HB.out) hb); (try clear hb); (try clear hi)) | ((with_reducible refine gate_callee (f := 12) rfl ?_); refine goesL_ (some 55) rfl rfl Tryd.func12 (by kernel_rfl) rfl #[.slice A0 l0.length c0] rfl lz ?_; (with_reducible refine (laws_toNodeS.calls kj14 _ _ l0 t596 _ ?side1 ?side2 A40.out).mono ?_); (case side1 => exact cz (Kd.C_below HR0.out HB.out)); (case side2 => exact HC0.out); rintro e w73 ⟨v597, rfl, ho0, hb⟩; refine ⟨_, rfl, ?_⟩; have HO598 := Aside0.mk (Kd.R_lower (Kd.R_new' (Kd.R_new' ho0 (Kd.R_lt (rz HO_4.out))) (Kd.R_lt (rz HO_6.out))) (below_size (bz0 HB.out))); replace HO_4 := Aside0.mk (Kd.R_elder' (rz HO_4.out) (Kd.R_base ho0) hb); replace HO_6 := Aside0.mk (Kd.R_elder' (rz HO_6.out) (Kd.R_base ho0) hb); replace HB := Aside0.mk (below_step (bz0 HB.out) hb); (try clear hb); (try clear ho0); obtain ⟨Ao74, co74, eo74⟩ := Kd.R_slice HO598.out; subst eo74) | ((with_reducible refine gate_callee (f := 30) rfl ?_); refine goesL_ (some 56) rfl rfl Tryd.func30 (by kernel_rfl) rfl #[.slice Ao74 t596.length co74] rfl lz ?_; (with_reducible refine (impl_Canon.calls kj14 _ _ t596 t599 _ ?side1 ?side2 A41.out).mono ?_); (case side1 => exact cz (Kd.R_reads' HO598.out).2.2); (case side2 => exact (Kd.R_reads' HO598.out).2.1); rintro e w75 ⟨v600, rfl, ho0, hb⟩; refine ⟨_, rfl, ?_⟩; have HO601 := Aside0.mk (Kd.R_lower (Kd.R_new' (Kd.R_new' (Kd.R_new' ho0 (Kd.R_lt (rz HO_4.out))) (Kd.R_lt (rz HO_6.out))) (Kd.R_lt (rz HO598.out))) (below_size (bz0 HB.out))); replace HO_4 := Aside0.mk (Kd.R_elder' (rz HO_4.out) (Kd.R_base ho0) hb); replace HO_6 := Aside0.mk (Kd.R_elder' (rz HO_6.out) (Kd.R_base ho0) hb); replace HO598 := Aside0.mk (Kd.R_elder' (rz HO598.out) (Kd.R_base ho0) hb); replace HB := Aside0.mk (below_step (bz0 HB.out) hb); (try clear hb); (try clear ho0); obtain ⟨Ao76, co76, eo76⟩ := Kd.R_slice HO601.out; subst eo76) | ((with_reducible refine gate_callee (f := 14) rfl ?_); refine goesL_ (some 59) rfl rfl Tryd.func14 (by kernel_rfl) rfl #[.slice Ao76 t599.length co76, .slice Ao24 t576.length co24] rfl lz ?_; (with_reducible refine (laws_eqNodeS.calls kj14 _ _ t599 _ _ t576 false _ ?side1 ?side2 ?side3 ?side4 A42.out).mono ?_); (case side1 => exact cz (Kd.R_reads' HO601.out).2.2); (case side2 => exact (Kd.R_reads' HO601.out).2.1); (case side3 => exact cz (Kd.R_reads' HO_4.out).2.2); (case side4 => exact (Kd.R_reads' HO_4.out).2.1); rintro e w77 ⟨rfl, hb⟩; refine ⟨_, rfl, ?_⟩; replace HO_4 := qz HO_4 hb; replace HO_6 := qz HO_6 hb; replace HO598 := qz HO598 hb; replace HO601 := qz HO601 hb; replace HB := Aside0.mk (below_step (bz0 HB.out) hb); (try clear hb); (try clear hi)))
          go_ret
          exact ⟨gz, (bz0 HB.out)⟩
        ·rw [if_neg c39] at H
         have c39b0 : (t595 == t593) = false := beq_eq_false_iff_ne.mpr c39
         have c39b1 : (t595 != t593) = true := bne_iff_ne.mpr c39
         obtain rfl := Option.some.inj H
         go_wp2_with (first | ((with_reducible refine gate_callee (f := 22) rfl ?_); refine goesL_ (some 45) rfl rfl Tryd.func22 (by kernel_rfl) rfl #[.slice Ao23 t582.length co23, .int .i64 1] rfl lz ?_; (with_reducible refine (laws_markNodeS.calls kj14 (fun k_ => some k_ = (.slice Ao23 t582.length co23 : Value).ownBlock) (.slice Ao23 t582.length co23) t582 1 t593 t594 w _ ?side1 ?side2 A34.out).mono ?_); (case side1 => repeat (first | (with_reducible first | exact HB.out | apply below_alloc | apply pw_below_drewN | apply below_drew1) | exact HB.out)); (case side2 => exact Kd.R_tight rfl HO_6.out); rintro e w78 ⟨rfl, hy0, hb, hkp⟩; refine ⟨_, rfl, ?_⟩; replace HO_4 := Aside0.mk (Kd.R_mono (ok' := fun k_ => some k_ ≠ (.slice Ao23 t582.length co23 : Value).ownBlock) (Kd.R_keptB (HO_4.out) hkp (fun k_ hk_ hs_ => (hk_) hs_)) (fun k_ hk_ => hk_.1)); replace HO_6 := Aside0.mk (Kd.R_reok rfl hy0 (fun k_ e_ => HO_6.out.1 k_ e_)); replace HB := Aside0.mk (hb); (try clear hb); (try clear hkp); (try clear hy0)) | ((with_reducible refine gate_callee (f := 31) rfl ?_); refine goesL_ (some 48) rfl rfl Tryd.func31 (by kernel_rfl) rfl #[.slice Ao23 t594.length co23, .int .i64 1] rfl (by (try simp only [List.map_toArray, List.map_cons, List.map_nil]); first | done | (rw [show t594.length = t582.length from (Kd.R_reads' HO_6.out).1.symm] <;> rfl) | rfl | (simp only [List.length_drop, List.length_take]; rfl)) ?_; (with_reducible refine (laws_heldNodeS.calls kj14 _ _ t594 1 t595 _ ?side1 ?side2 A35.out).mono ?_); (case side1 => exact cz (Kd.R_reads' HO_6.out).2.2); (case side2 => rw [show t594.length = t582.length from (Kd.R_reads' HO_6.out).1.symm]; exact (Kd.R_reads' HO_6.out).2.1); rintro e w79 ⟨rfl, hb⟩; refine ⟨_, rfl, ?_⟩; replace HO_4 := qz HO_4 hb; replace HO_6 := qz HO_6 hb; replace HB := Aside0.mk (below_step (bz0 HB.out) hb); (try clear hb); (try clear hi)))
         go_ret
         exact ⟨gz, (bz0 HB.out)⟩
   ·replace c13 := Bool.eq_false_iff.mpr c13
    subst c13
    have H1 := hq H
    clear H
    have H := H1
    clear H1
    obtain rfl := Option.some.inj H
    go_enter Tryd.func9, Tryd.ntmps9
    go_wp2_with (first | ((with_reducible refine gate_callee (f := 10) rfl ?_); refine goesL_ (some 13) rfl rfl Tryd.func10 (by kernel_rfl) rfl #[.slice A0 l0.length c0, .int .i64 1048576] rfl lz ?_; (with_reducible refine (laws_szNodeS.calls k _ _ l0 1048576 t572 _ ?side1 ?side2 A2.out).mono ?_); (case side1 => repeat (first | exact HR0.out | (with_reducible refine Kd.C_alloc ?_ _) | (with_reducible refine Kd.C_drewN ?_ _) | (with_reducible refine Kd.C_drew ?_))); (case side2 => exact HC0.out); rintro e w80 ⟨rfl, hb⟩; refine ⟨_, rfl, ?_⟩; replace HB := Aside0.mk (below_step (bz0 HB.out) hb); (try clear hb); (try clear hi)) | ((with_reducible refine gate_callee (f := 12) rfl ?_); refine goesL_ (some 17) rfl rfl Tryd.func12 (by kernel_rfl) rfl #[.slice A0 l0.length c0] rfl lz ?_; (with_reducible refine (laws_toNodeS.calls k _ _ l0 t573 _ ?side1 ?side2 A5.out).mono ?_); (case side1 => exact cz (Kd.C_below HR0.out HB.out)); (case side2 => exact HC0.out); rintro e w81 ⟨v574, rfl, ho0, hb⟩; refine ⟨_, rfl, ?_⟩; have HO575 := Aside0.mk (Kd.R_lower ho0 (below_size (bz0 HB.out))); replace HB := Aside0.mk (below_step (bz0 HB.out) hb); (try clear hb); (try clear ho0); obtain ⟨Ao82, co82, eo82⟩ := Kd.R_slice HO575.out; subst eo82) | ((with_reducible refine gate_callee (f := 29) rfl ?_); refine goesL_ (some 18) rfl rfl Tryd.func29 (by kernel_rfl) rfl #[.slice Ao82 t573.length co82] rfl lz ?_; (with_reducible refine (spec_Canon.calls k _ _ t573 t576 _ ?side1 ?side2 A6.out).mono ?_); (case side1 => exact cz (Kd.R_reads' HO575.out).2.2); (case side2 => exact (Kd.R_reads' HO575.out).2.1); rintro e w83 ⟨v577, rfl, ho0, hb⟩; refine ⟨_, rfl, ?_⟩; have HO578 := Aside0.mk (Kd.R_lower (Kd.R_new' ho0 (Kd.R_lt (rz HO575.out))) (below_size (bz0 HB.out))); replace HO575 := Aside0.mk (Kd.R_elder' (rz HO575.out) (Kd.R_base ho0) hb); replace HB := Aside0.mk (below_step (bz0 HB.out) hb); (try clear hb); (try clear ho0)) | ((with_reducible refine gate_callee (f := 12) rfl ?_); refine goesL_ (some 20) rfl rfl Tryd.func12 (by kernel_rfl) rfl #[.slice A0 l0.length c0] rfl lz ?_; (with_reducible refine (laws_toNodeS.calls k _ _ l0 t579 _ ?side1 ?side2 A7.out).mono ?_); (case side1 => exact cz (Kd.C_below HR0.out HB.out)); (case side2 => exact HC0.out); rintro e w84 ⟨v580, rfl, ho0, hb⟩; refine ⟨_, rfl, ?_⟩; have HO581 := Aside0.mk (Kd.R_lower (Kd.R_new' (Kd.R_new' ho0 (Kd.R_lt (rz HO575.out))) (Kd.R_lt (rz HO578.out))) (below_size (bz0 HB.out))); replace HO575 := Aside0.mk (Kd.R_elder' (rz HO575.out) (Kd.R_base ho0) hb); replace HO578 := Aside0.mk (Kd.R_elder' (rz HO578.out) (Kd.R_base ho0) hb); replace HB := Aside0.mk (below_step (bz0 HB.out) hb); (try clear hb); (try clear ho0); obtain ⟨Ao85, co85, eo85⟩ := Kd.R_slice HO581.out; subst eo85) | ((with_reducible refine gate_callee (f := 30) rfl ?_); refine goesL_ (some 22) rfl rfl Tryd.func30 (by kernel_rfl) rfl #[.slice Ao85 t579.length co85] rfl lz ?_; (with_reducible refine (impl_Canon.calls k _ _ t579 t582 _ ?side1 ?side2 A8.out).mono ?_); (case side1 => exact cz (Kd.R_reads' HO581.out).2.2); (case side2 => exact (Kd.R_reads' HO581.out).2.1); rintro e w86 ⟨v583, rfl, ho0, hb⟩; refine ⟨_, rfl, ?_⟩; have HO584 := Aside0.mk (Kd.R_lower (Kd.R_new' (Kd.R_new' (Kd.R_new' ho0 (Kd.R_lt (rz HO575.out))) (Kd.R_lt (rz HO578.out))) (Kd.R_lt (rz HO581.out))) (below_size (bz0 HB.out))); replace HO575 := Aside0.mk (Kd.R_elder' (rz HO575.out) (Kd.R_base ho0) hb); replace HO578 := Aside0.mk (Kd.R_elder' (rz HO578.out) (Kd.R_base ho0) hb); replace HO581 := Aside0.mk (Kd.R_elder' (rz HO581.out) (Kd.R_base ho0) hb); replace HB := Aside0.mk (below_step (bz0 HB.out) hb); (try clear hb); (try clear ho0); obtain ⟨Ao87, co87, eo87⟩ := Kd.R_slice HO584.out; subst eo87; obtain ⟨Ao88, co88, eo88⟩ := Kd.R_slice HO578.out; subst eo88) | ((with_reducible refine gate_callee (f := 14) rfl ?_); refine goesL_ (some 25) rfl rfl Tryd.func14 (by kernel_rfl) rfl #[.slice Ao87 t582.length co87, .slice Ao88 t576.length co88] rfl lz ?_; (with_reducible refine (laws_eqNodeS.calls k _ _ t582 _ _ t576 true _ ?side1 ?side2 ?side3 ?side4 A9.out).mono ?_); (case side1 => exact cz (Kd.R_reads' HO584.out).2.2); (case side2 => exact (Kd.R_reads' HO584.out).2.1); (case side3 => exact cz (Kd.R_reads' HO578.out).2.2); (case side4 => exact (Kd.R_reads' HO578.out).2.1); rintro e w89 ⟨rfl, hb⟩; refine ⟨_, rfl, ?_⟩; replace HO575 := qz HO575 hb; replace HO578 := qz HO578 hb; replace HO581 := qz HO581 hb; replace HO584 := qz HO584 hb; replace HB := Aside0.mk (below_step (bz0 HB.out) hb); (try clear hb); (try clear hi)) | ((with_reducible refine gate_callee (f := 12) rfl ?_); refine goesL_ (some 29) rfl rfl Tryd.func12 (by kernel_rfl) rfl #[.slice A0 l0.length c0] rfl lz ?_; (with_reducible refine (laws_toNodeS.calls k _ _ l0 t586 _ ?side1 ?side2 A11.out).mono ?_); (case side1 => exact cz (Kd.C_below HR0.out HB.out)); (case side2 => exact HC0.out); rintro e w90 ⟨v587, rfl, ho0, hb⟩; refine ⟨_, rfl, ?_⟩; have HO588 := Aside0.mk (Kd.R_lower (Kd.R_new' (Kd.R_new' (Kd.R_new' (Kd.R_new' ho0 (Kd.R_lt (rz HO575.out))) (Kd.R_lt (rz HO578.out))) (Kd.R_lt (rz HO581.out))) (Kd.R_lt (rz HO584.out))) (below_size (bz0 HB.out))); replace HO575 := Aside0.mk (Kd.R_elder' (rz HO575.out) (Kd.R_base ho0) hb); replace HO578 := Aside0.mk (Kd.R_elder' (rz HO578.out) (Kd.R_base ho0) hb); replace HO581 := Aside0.mk (Kd.R_elder' (rz HO581.out) (Kd.R_base ho0) hb); replace HO584 := Aside0.mk (Kd.R_elder' (rz HO584.out) (Kd.R_base ho0) hb); replace HB := Aside0.mk (below_step (bz0 HB.out) hb); (try clear hb); (try clear ho0); obtain ⟨Ao91, co91, eo91⟩ := Kd.R_slice HO588.out; subst eo91) | ((with_reducible refine gate_callee (f := 14) rfl ?_); refine goesL_ (some 30) rfl rfl Tryd.func14 (by kernel_rfl) rfl #[.slice Ao85 t579.length co85, .slice Ao91 t586.length co91] rfl lz ?_; (with_reducible refine (laws_eqNodeS.calls k _ _ t579 _ _ t586 false _ ?side1 ?side2 ?side3 ?side4 A12.out).mono ?_); (case side1 => exact cz (Kd.R_reads' HO581.out).2.2); (case side2 => exact (Kd.R_reads' HO581.out).2.1); (case side3 => exact cz (Kd.R_reads' HO588.out).2.2); (case side4 => exact (Kd.R_reads' HO588.out).2.1); rintro e w92 ⟨rfl, hb⟩; refine ⟨_, rfl, ?_⟩; replace HO575 := qz HO575 hb; replace HO578 := qz HO578 hb; replace HO581 := qz HO581 hb; replace HO584 := qz HO584 hb; replace HO588 := qz HO588 hb; replace HB := Aside0.mk (below_step (bz0 HB.out) hb); (try clear hb); (try clear hi)))
    go_ret
    exact ⟨gz, (bz0 HB.out)⟩
  ·replace c10 := Bool.eq_false_iff.mpr c10
   subst c10
   have H1 := hq H
   clear H
   have H := H1
   clear H1
   obtain rfl := Option.some.inj H
   go_enter Tryd.func9, Tryd.ntmps9
   go_wp2_with (first | ((with_reducible refine gate_callee (f := 10) rfl ?_); refine goesL_ (some 13) rfl rfl Tryd.func10 (by kernel_rfl) rfl #[.slice A0 l0.length c0, .int .i64 1048576] rfl lz ?_; (with_reducible refine (laws_szNodeS.calls k _ _ l0 1048576 t572 _ ?side1 ?side2 A2.out).mono ?_); (case side1 => repeat (first | exact HR0.out | (with_reducible refine Kd.C_alloc ?_ _) | (with_reducible refine Kd.C_drewN ?_ _) | (with_reducible refine Kd.C_drew ?_))); (case side2 => exact HC0.out); rintro e w93 ⟨rfl, hb⟩; refine ⟨_, rfl, ?_⟩; replace HB := Aside0.mk (below_step (bz0 HB.out) hb); (try clear hb); (try clear hi)) | ((with_reducible refine gate_callee (f := 12) rfl ?_); refine goesL_ (some 17) rfl rfl Tryd.func12 (by kernel_rfl) rfl #[.slice A0 l0.length c0] rfl lz ?_; (with_reducible refine (laws_toNodeS.calls k _ _ l0 t573 _ ?side1 ?side2 A5.out).mono ?_); (case side1 => exact cz (Kd.C_below HR0.out HB.out)); (case side2 => exact HC0.out); rintro e w94 ⟨v574, rfl, ho0, hb⟩; refine ⟨_, rfl, ?_⟩; have HO575 := Aside0.mk (Kd.R_lower ho0 (below_size (bz0 HB.out))); replace HB := Aside0.mk (below_step (bz0 HB.out) hb); (try clear hb); (try clear ho0); obtain ⟨Ao95, co95, eo95⟩ := Kd.R_slice HO575.out; subst eo95) | ((with_reducible refine gate_callee (f := 29) rfl ?_); refine goesL_ (some 18) rfl rfl Tryd.func29 (by kernel_rfl) rfl #[.slice Ao95 t573.length co95] rfl lz ?_; (with_reducible refine (spec_Canon.calls k _ _ t573 t576 _ ?side1 ?side2 A6.out).mono ?_); (case side1 => exact cz (Kd.R_reads' HO575.out).2.2); (case side2 => exact (Kd.R_reads' HO575.out).2.1); rintro e w96 ⟨v577, rfl, ho0, hb⟩; refine ⟨_, rfl, ?_⟩; have HO578 := Aside0.mk (Kd.R_lower (Kd.R_new' ho0 (Kd.R_lt (rz HO575.out))) (below_size (bz0 HB.out))); replace HO575 := Aside0.mk (Kd.R_elder' (rz HO575.out) (Kd.R_base ho0) hb); replace HB := Aside0.mk (below_step (bz0 HB.out) hb); (try clear hb); (try clear ho0)) | ((with_reducible refine gate_callee (f := 12) rfl ?_); refine goesL_ (some 20) rfl rfl Tryd.func12 (by kernel_rfl) rfl #[.slice A0 l0.length c0] rfl lz ?_; (with_reducible refine (laws_toNodeS.calls k _ _ l0 t579 _ ?side1 ?side2 A7.out).mono ?_); (case side1 => exact cz (Kd.C_below HR0.out HB.out)); (case side2 => exact HC0.out); rintro e w97 ⟨v580, rfl, ho0, hb⟩; refine ⟨_, rfl, ?_⟩; have HO581 := Aside0.mk (Kd.R_lower (Kd.R_new' (Kd.R_new' ho0 (Kd.R_lt (rz HO575.out))) (Kd.R_lt (rz HO578.out))) (below_size (bz0 HB.out))); replace HO575 := Aside0.mk (Kd.R_elder' (rz HO575.out) (Kd.R_base ho0) hb); replace HO578 := Aside0.mk (Kd.R_elder' (rz HO578.out) (Kd.R_base ho0) hb); replace HB := Aside0.mk (below_step (bz0 HB.out) hb); (try clear hb); (try clear ho0); obtain ⟨Ao98, co98, eo98⟩ := Kd.R_slice HO581.out; subst eo98) | ((with_reducible refine gate_callee (f := 30) rfl ?_); refine goesL_ (some 22) rfl rfl Tryd.func30 (by kernel_rfl) rfl #[.slice Ao98 t579.length co98] rfl lz ?_; (with_reducible refine (impl_Canon.calls k _ _ t579 t582 _ ?side1 ?side2 A8.out).mono ?_); (case side1 => exact cz (Kd.R_reads' HO581.out).2.2); (case side2 => exact (Kd.R_reads' HO581.out).2.1); rintro e w99 ⟨v583, rfl, ho0, hb⟩; refine ⟨_, rfl, ?_⟩; have HO584 := Aside0.mk (Kd.R_lower (Kd.R_new' (Kd.R_new' (Kd.R_new' ho0 (Kd.R_lt (rz HO575.out))) (Kd.R_lt (rz HO578.out))) (Kd.R_lt (rz HO581.out))) (below_size (bz0 HB.out))); replace HO575 := Aside0.mk (Kd.R_elder' (rz HO575.out) (Kd.R_base ho0) hb); replace HO578 := Aside0.mk (Kd.R_elder' (rz HO578.out) (Kd.R_base ho0) hb); replace HO581 := Aside0.mk (Kd.R_elder' (rz HO581.out) (Kd.R_base ho0) hb); replace HB := Aside0.mk (below_step (bz0 HB.out) hb); (try clear hb); (try clear ho0); obtain ⟨Ao100, co100, eo100⟩ := Kd.R_slice HO584.out; subst eo100; obtain ⟨Ao101, co101, eo101⟩ := Kd.R_slice HO578.out; subst eo101) | ((with_reducible refine gate_callee (f := 14) rfl ?_); refine goesL_ (some 25) rfl rfl Tryd.func14 (by kernel_rfl) rfl #[.slice Ao100 t582.length co100, .slice Ao101 t576.length co101] rfl lz ?_; (with_reducible refine (laws_eqNodeS.calls k _ _ t582 _ _ t576 false _ ?side1 ?side2 ?side3 ?side4 A9.out).mono ?_); (case side1 => exact cz (Kd.R_reads' HO584.out).2.2); (case side2 => exact (Kd.R_reads' HO584.out).2.1); (case side3 => exact cz (Kd.R_reads' HO578.out).2.2); (case side4 => exact (Kd.R_reads' HO578.out).2.1); rintro e w102 ⟨rfl, hb⟩; refine ⟨_, rfl, ?_⟩; replace HO575 := qz HO575 hb; replace HO578 := qz HO578 hb; replace HO581 := qz HO581 hb; replace HO584 := qz HO584 hb; replace HB := Aside0.mk (below_step (bz0 HB.out) hb); (try clear hb); (try clear hi)))
   go_ret
   exact ⟨gz, (bz0 HB.out)⟩
end Go.Proofs.YtmilegjmiiccdaaDoor.PFnExactCanon
