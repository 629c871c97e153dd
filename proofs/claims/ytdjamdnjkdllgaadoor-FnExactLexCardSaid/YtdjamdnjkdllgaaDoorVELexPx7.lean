/- PFnExactLexx7, of the words and walks that the law FnExactLex needs; made by this session's program out of printed texts. -/

import Derived.Test.YtdjamdnjkdllgaaDoorVELexPx0
import Derived.Test.YtdjamdnjkdllgaaDoorVELexPx2
import Derived.Test.YtdjamdnjkdllgaaDoorVELexPx5
import Derived.Test.YtdjamdnjkdllgaaDoorVELexPx6
namespace Go.Proofs.YtdjamdnjkdllgaaDoor.PFnExactLex
open Go.RowKit Go.Proofs.YtdjamdnjkdllgaaDoorW.PrintWords Go.Proofs.YtdjamdnjkdllgaaDoorW.PrintLast Go.Proofs.YtdjamdnjkdllgaaDoorW.PrintMore
attribute [local go_sem] max2_int min2_int max_two min_two max_three min_three max_four min_four
set_option linter.unusedVariables false
set_option linter.unusedSimpArgs false
mutual
def laws_FnExactLex.j0 : Nat -> ByteArray -> List (S43) -> Int -> List (S43) -> Bool -> Option (Bool)
 | 0, _, _, _, _, _ => none
 | k + 1, x0, x3, x4, x5, x32 => if x32 = true then (some false) else ((laws_markTokenS.f k x5 1).bind fun bt192 => ((laws_heldTokenS.f k bt192.2 1).bind fun t194 => (if t194 < 0 then (some false) else (if t194 = bt192.1 then ((impl_Lex.f k x0).bind fun bt195 => ((laws_eqTokenS.f k bt195.1 x3).bind fun t199 => (if t199 = true then (laws_FnExactLex.j1 k bt192.2 bt192.1 (bt195.2 != x4)) else (laws_FnExactLex.j1 k bt192.2 bt192.1 true)))) else (some false)))))
def laws_FnExactLex.j1 : Nat -> List (S43) -> Int -> Bool -> Option (Bool)
 | 0, _, _, _ => none
 | k + 1, x5, x7, x57 => if x57 = true then (some false) else ((laws_heldTokenS.f k x5 1).bind fun t200 => (if t200 < 0 then (some false) else (if t200 = x7 then (some true) else (some false))))
end
def laws_FnExactLex.f (k : Nat) (a0 : ByteArray) : Option (Bool) := if (a0.size : Int) > 1048576 then (some true) else ((spec_Lex.f k a0).bind fun bt183 => ((impl_Lex.f k a0).bind fun bt187 => ((laws_eqTokenS.f k bt187.1 bt183.1).bind fun t191 => (if t191 = true then (laws_FnExactLex.j0 k a0 bt183.1 bt183.2 bt187.1 (bt187.2 != bt183.2)) else (laws_FnExactLex.j0 k a0 bt183.1 bt183.2 bt187.1 true)))))
theorem laws_FnExactLex.mono_l : ∀ k, (∀ y0 y1 y2 y3 y4, LeO (laws_FnExactLex.j0 k y0 y1 y2 y3 y4) (laws_FnExactLex.j0 (k + 1) y0 y1 y2 y3 y4)) /\ (∀ y0 y1 y2, LeO (laws_FnExactLex.j1 k y0 y1 y2) (laws_FnExactLex.j1 (k + 1) y0 y1 y2))
 | 0 => ⟨fun _ _ _ _ _ r h => by simp [laws_FnExactLex.j0] at h, fun _ _ _ r h => by simp [laws_FnExactLex.j1] at h⟩
 | k + 1 => by
  obtain ⟨ih0, ih1⟩ := laws_FnExactLex.mono_l k
  refine ⟨?_, ?_⟩
  ·intro y0 y1 y2 y3 y4
   unfold laws_FnExactLex.j0
   with_reducible repeat' first | exact ih0 _ _ _ _ _ | exact ih1 _ _ _ | exact impl_Lex.mono _ _ | exact laws_eqTokenS.mono _ _ _ | exact laws_heldTokenS.mono _ _ _ | exact laws_markTokenS.mono _ _ _ | exact spec_Lex.mono _ _ | exact lrz _ | exact lnz _ | refine liz ?_ ?_ | refine lbz ?_ fun _ => ?_
  ·intro y0 y1 y2
   unfold laws_FnExactLex.j1
   with_reducible repeat' first | exact ih0 _ _ _ _ _ | exact ih1 _ _ _ | exact impl_Lex.mono _ _ | exact laws_eqTokenS.mono _ _ _ | exact laws_heldTokenS.mono _ _ _ | exact laws_markTokenS.mono _ _ _ | exact spec_Lex.mono _ _ | exact lrz _ | exact lnz _ | refine liz ?_ ?_ | refine lbz ?_ fun _ => ?_
theorem laws_FnExactLex.mono : ∀ a0 k, LeO (laws_FnExactLex.f k a0) (laws_FnExactLex.f (k + 1) a0) := by
 intro a0 k
 obtain ⟨ih0, ih1⟩ := laws_FnExactLex.mono_l k
 unfold laws_FnExactLex.f
 with_reducible repeat' first | exact ih0 _ _ _ _ _ | exact ih1 _ _ _ | exact impl_Lex.mono _ _ | exact laws_eqTokenS.mono _ _ _ | exact laws_heldTokenS.mono _ _ _ | exact laws_markTokenS.mono _ _ _ | exact spec_Lex.mono _ _ | exact lrz _ | exact lnz _ | refine liz ?_ ?_ | refine lbz ?_ fun _ => ?_
set_option maxHeartbeats 8000000 in
set_option maxRecDepth 100000 in
theorem laws_FnExactLex.calls (k : Nat) (a0 : ByteArray) (r : Bool) (w : World) (h : laws_FnExactLex.f k a0 = some r) (hT_ : PW w) :
  Calls Tryd.prog 5 #[.string a0] w fun e w' => e = .returned (.bool r) /\ Below w.heap.size w w' := by
 have HB := Aside0.mk (Below.refl w.heap.size w)
 have H : (if (a0.size : Int) > 1048576 then (some true) else ((spec_Lex.f k a0).bind fun bt183 => ((impl_Lex.f k a0).bind fun bt187 => ((laws_eqTokenS.f k bt187.1 bt183.1).bind fun t191 => (if t191 = true then (laws_FnExactLex.j0 k a0 bt183.1 bt183.2 bt187.1 (bt187.2 != bt183.2)) else (laws_FnExactLex.j0 k a0 bt183.1 bt183.2 bt187.1 true)))))) = some r := h
 clear h
 by_cases c2 : (a0.size : Int) > 1048576
 ·rw [if_pos c2] at H
  have c2b0 : decide (1048576 < (a0.size : Int)) = true := decide_eq_true c2
  have c2b1 : decide (1048576 < a0.size) = true := decide_eq_true (by omega)
  clear c2
  obtain rfl := Option.some.inj H
  go_enter Tryd.func5, Tryd.ntmps5
  go_wp2
  go_ret
  exact ⟨gz, (bz0 HB.out)⟩
 ·rw [if_neg c2] at H
  have c2b0 : decide (1048576 < (a0.size : Int)) = false := decide_eq_false c2
  have c2b1 : decide (1048576 < a0.size) = false := decide_eq_false (by omega)
  clear c2
  replace H := bi H
  obtain ⟨⟨t183, t184⟩, A30, H⟩ := H
  try dsimp only at H
  have A3 := Aside0.mk A30
  clear A30
  replace H := bi H
  obtain ⟨⟨t187, t188⟩, A40, H⟩ := H
  try dsimp only at H
  have A4 := Aside0.mk A40
  clear A40
  have HC5 := Aside0.mk H
  clear H
  go_enter Tryd.func5, Tryd.ntmps5
  go_upto_region 5 with (first | ((with_reducible refine gate_callee (f := 20) rfl ?_); refine goesL_ (some 16) rfl rfl Tryd.func20 (by kernel_rfl) rfl #[.string a0] rfl lz ?_; (with_reducible refine (spec_Lex.calls k a0 t183 t184 _ A3.out).mono ?_); rintro e w6 ⟨v185, rfl, ho0, hb⟩; refine ⟨_, rfl, ?_⟩; have HO186 := Aside0.mk (Kd.R_lower ho0 (below_size (bz0 HB.out))); replace HB := Aside0.mk (below_step (bz0 HB.out) hb); (try clear hb); (try clear ho0)) | ((with_reducible refine gate_callee (f := 21) rfl ?_); refine goesL_ (some 21) rfl rfl Tryd.func21 (by kernel_rfl) rfl #[.string a0] rfl lz ?_; (with_reducible refine (impl_Lex.calls k a0 t187 t188 _ A4.out ?hT_).mono ?_); (case hT_ => exact PW.below hT_ (bz0 HB.out)); rintro e w7 ⟨v189, rfl, ho0, hb⟩; refine ⟨_, rfl, ?_⟩; have HO190 := Aside0.mk (Kd.R_lower (Kd.R_new' ho0 (Kd.R_lt (rz HO186.out))) (below_size (bz0 HB.out))); replace HO186 := Aside0.mk (Kd.R_elder' (rz HO186.out) (Kd.R_base ho0) hb); replace HB := Aside0.mk (below_step (bz0 HB.out) hb); (try clear hb); (try clear ho0)))
  (try simp only [Act.put, sz1, sz2, sz3])
  go_cut [32] (fun v32 wc => ∃ (kq : Nat) (x32_4 : Bool), v32 = .bool x32_4 /\ Aside0 (laws_FnExactLex.j0 kq a0 t183 t184 t187 x32_4 = some r) /\ Aside0 (kq <= k) /\ Aside0 (Kd.R k43 43 wc w.heap.size (fun k_ => some k_ ≠ (v189 : Value).ownBlock) v185 t183) /\ Aside0 (Kd.R k43 43 wc w.heap.size (fun k_ => some k_ ≠ (v185 : Value).ownBlock) v189 t187) /\ Aside0 (Below w.heap.size w wc))
  case first =>
   have H := HC5.out
   clear HC5
   replace H := bi H
   obtain ⟨t191, A80, H⟩ := H
   try dsimp only at H
   have A8 := Aside0.mk A80
   clear A80
   by_cases c9 : t191 = true
   ·subst c9
    have H1 := hp H
    clear H
    have H := H1
    clear H1
    have H' := Aside0.mk H
    clear H
    obtain ⟨Ao10, co10, eo10⟩ := Kd.R_slice HO190.out
    subst eo10
    obtain ⟨Ao11, co11, eo11⟩ := Kd.R_slice HO186.out
    subst eo11
    go_wp2_with (first | ((with_reducible refine gate_callee (f := 22) rfl ?_); refine goesL_ (some 26) rfl rfl Tryd.func22 (by kernel_rfl) rfl #[.slice Ao10 t187.length co10, .slice Ao11 t183.length co11] rfl lz ?_; (with_reducible refine (laws_eqTokenS.calls k _ _ t187 _ _ t183 true _ ?side1 ?side2 ?side3 ?side4 A8.out).mono ?_); (case side1 => exact cz (Kd.R_reads' HO190.out).2.2); (case side2 => exact (Kd.R_reads' HO190.out).2.1); (case side3 => exact cz (Kd.R_reads' HO186.out).2.2); (case side4 => exact (Kd.R_reads' HO186.out).2.1); rintro e w12 ⟨rfl, hb⟩; refine ⟨_, rfl, ?_⟩; replace HO186 := qz HO186 hb; replace HO190 := qz HO190 hb; replace HB := Aside0.mk (below_step (bz0 HB.out) hb); (try clear hb); (try clear hi)))
    go_meet
    case rel => exact ⟨_, ((t188 != t184)), ez, H', ⟨by first | omega | exact Nat.le_refl _⟩, ⟨by refine rq ?_; exact Kd.R_mono HO186.out (fun _ hk => hk.2)⟩, ⟨by refine rq ?_; exact Kd.R_mono HO190.out (fun _ hk => hk.2)⟩, ⟨(bz0 HB.out)⟩⟩
   ·replace c9 := Bool.eq_false_iff.mpr c9
    subst c9
    have H1 := hq H
    clear H
    have H := H1
    clear H1
    have H' := Aside0.mk H
    clear H
    obtain ⟨Ao13, co13, eo13⟩ := Kd.R_slice HO190.out
    subst eo13
    obtain ⟨Ao14, co14, eo14⟩ := Kd.R_slice HO186.out
    subst eo14
    go_wp2_with (first | ((with_reducible refine gate_callee (f := 22) rfl ?_); refine goesL_ (some 26) rfl rfl Tryd.func22 (by kernel_rfl) rfl #[.slice Ao13 t187.length co13, .slice Ao14 t183.length co14] rfl lz ?_; (with_reducible refine (laws_eqTokenS.calls k _ _ t187 _ _ t183 false _ ?side1 ?side2 ?side3 ?side4 A8.out).mono ?_); (case side1 => exact cz (Kd.R_reads' HO190.out).2.2); (case side2 => exact (Kd.R_reads' HO190.out).2.1); (case side3 => exact cz (Kd.R_reads' HO186.out).2.2); (case side4 => exact (Kd.R_reads' HO186.out).2.1); rintro e w15 ⟨rfl, hb⟩; refine ⟨_, rfl, ?_⟩; replace HO186 := qz HO186 hb; replace HO190 := qz HO190 hb; replace HB := Aside0.mk (below_step (bz0 HB.out) hb); (try clear hb); (try clear hi)))
    go_meet
    case rel => exact ⟨_, (true), ez, H', ⟨by first | omega | exact Nat.le_refl _⟩, ⟨by refine rq ?_; exact Kd.R_mono HO186.out (fun _ hk => hk.2)⟩, ⟨by refine rq ?_; exact Kd.R_mono HO190.out (fun _ hk => hk.2)⟩, ⟨(bz0 HB.out)⟩⟩
  case rest =>
   clear HC5
   try clear c2
   try clear c2b0
   try clear c2b1
   try clear p2
   try clear c5
   try clear c9
   obtain ⟨kq, x32_4, rfl, HA, HJ4, HO_3, HO_5, HB⟩ := hcut
   cases kq with
   | zero => exact absurd HA.out (by simp [laws_FnExactLex.j0])
   | succ kj4 =>
    have H := HA.out
    clear HA
    simp only [laws_FnExactLex.j0] at H
    by_cases c16 : x32_4 = true
    ·subst c16
     have H1 := hp H
     clear H
     have H := H1
     clear H1
     obtain rfl := Option.some.inj H
     go_wp2
     go_ret
     exact ⟨gz, (bz0 HB.out)⟩
    ·replace c16 := Bool.eq_false_iff.mpr c16
     subst c16
     have H1 := hq H
     clear H
     have H := H1
     clear H1
     replace H := bi H
     obtain ⟨⟨t192, t193⟩, A170, H⟩ := H
     try dsimp only at H
     have A17 := Aside0.mk A170
     clear A170
     replace H := bi H
     obtain ⟨t194, A180, H⟩ := H
     try dsimp only at H
     have A18 := Aside0.mk A180
     clear A180
     by_cases c19 : t194 < 0
     ·rw [if_pos c19] at H
      have c19b0 := decide_eq_true c19
      clear c19
      obtain rfl := Option.some.inj H
      obtain ⟨Ao20, co20, eo20⟩ := Kd.R_slice HO_5.out
      subst eo20
      go_wp2_with (first | ((with_reducible refine gate_callee (f := 23) rfl ?_); refine goesL_ (some 35) rfl rfl Tryd.func23 (by kernel_rfl) rfl #[.slice Ao20 t187.length co20, .int .i64 1] rfl lz ?_; (with_reducible refine (laws_markTokenS.calls kj4 (fun k_ => some k_ = (.slice Ao20 t187.length co20 : Value).ownBlock) (.slice Ao20 t187.length co20) t187 1 t192 t193 w _ ?side1 ?side2 A17.out).mono ?_); (case side1 => repeat (first | (with_reducible first | exact HB.out | apply below_alloc | apply pw_below_drewN | apply below_drew1) | exact HB.out)); (case side2 => exact Kd.R_tight rfl HO_5.out); rintro e w21 ⟨rfl, hy0, hb, hkp⟩; refine ⟨_, rfl, ?_⟩; replace HO_3 := Aside0.mk (Kd.R_mono (ok' := fun k_ => some k_ ≠ (.slice Ao20 t187.length co20 : Value).ownBlock) (Kd.R_keptB (HO_3.out) hkp (fun k_ hk_ hs_ => by with_reducible first | exact absurd hs_ hk_ | exact absurd hs_ hk_ | exact absurd hs_ hk_.1 | exact absurd hs_ hk_.2 | exact absurd hs_ hk_.1.1 | exact absurd hs_ hk_.1.2)) (fun k_ hk_ => by first | exact hk_.1 | (with_reducible first | exact hk_.1 | exact hk_.1.1 | exact hk_.1.2 | exact hk_.1.1.1 | exact hk_.1.1.2 | exact hk_.2.1 | exact hk_.1.2.1 | exact hk_.1.2.2))); replace HO_5 := Aside0.mk (Kd.R_reok rfl hy0 (fun k_ e_ => HO_5.out.1 k_ e_)); replace HB := Aside0.mk (hb); (try clear hb); (try clear hkp); (try clear hy0)) | ((with_reducible refine gate_callee (f := 24) rfl ?_); refine goesL_ (some 38) rfl rfl Tryd.func24 (by kernel_rfl) rfl #[.slice Ao20 t193.length co20, .int .i64 1] rfl (by (try simp only [List.map_toArray, List.map_cons, List.map_nil]); first | done | (rw [show t193.length = t187.length from (Kd.R_reads' HO_5.out).1.symm] <;> rfl) | rfl | (simp only [List.length_drop, List.length_take]; rfl)) ?_; (with_reducible refine (laws_heldTokenS.calls kj4 _ _ t193 1 t194 _ ?side1 ?side2 A18.out).mono ?_); (case side1 => exact cz (Kd.R_reads' HO_5.out).2.2); (case side2 => rw [show t193.length = t187.length from (Kd.R_reads' HO_5.out).1.symm]; exact (Kd.R_reads' HO_5.out).2.1); rintro e w22 ⟨rfl, hb⟩; refine ⟨_, rfl, ?_⟩; replace HO_3 := qz HO_3 hb; replace HO_5 := qz HO_5 hb; replace HB := Aside0.mk (below_step (bz0 HB.out) hb); (try clear hb); (try clear hi)))
      go_ret
      exact ⟨gz, (bz0 HB.out)⟩
     ·rw [if_neg c19] at H
      have c19b0 := decide_eq_false c19
      clear c19
      by_cases c23 : t194 = t192
      ·rw [if_pos c23] at H
       have c23b0 : (t194 == t192) = true := beq_iff_eq.mpr c23
       have c23b1 : (t194 != t192) = false := bne_eq_false_iff_eq.mpr c23
       clear c23
       replace H := bi H
       obtain ⟨⟨t195, t196⟩, A240, H⟩ := H
       try dsimp only at H
       have A24 := Aside0.mk A240
       clear A240
       have HC25 := Aside0.mk H
       clear H
       obtain ⟨Ao26, co26, eo26⟩ := Kd.R_slice HO_5.out
       subst eo26
       go_upto_region 16 with (first | ((with_reducible refine gate_callee (f := 23) rfl ?_); refine goesL_ (some 35) rfl rfl Tryd.func23 (by kernel_rfl) rfl #[.slice Ao26 t187.length co26, .int .i64 1] rfl lz ?_; (with_reducible refine (laws_markTokenS.calls kj4 (fun k_ => some k_ = (.slice Ao26 t187.length co26 : Value).ownBlock) (.slice Ao26 t187.length co26) t187 1 t192 t193 w _ ?side1 ?side2 A17.out).mono ?_); (case side1 => repeat (first | (with_reducible first | exact HB.out | apply below_alloc | apply pw_below_drewN | apply below_drew1) | exact HB.out)); (case side2 => exact Kd.R_tight rfl HO_5.out); rintro e w27 ⟨rfl, hy0, hb, hkp⟩; refine ⟨_, rfl, ?_⟩; replace HO_3 := Aside0.mk (Kd.R_mono (ok' := fun k_ => some k_ ≠ (.slice Ao26 t187.length co26 : Value).ownBlock) (Kd.R_keptB (HO_3.out) hkp (fun k_ hk_ hs_ => by with_reducible first | exact absurd hs_ hk_ | exact absurd hs_ hk_ | exact absurd hs_ hk_.1 | exact absurd hs_ hk_.2 | exact absurd hs_ hk_.1.1 | exact absurd hs_ hk_.1.2)) (fun k_ hk_ => by first | exact hk_.1 | (with_reducible first | exact hk_.1 | exact hk_.1.1 | exact hk_.1.2 | exact hk_.1.1.1 | exact hk_.1.1.2 | exact hk_.2.1 | exact hk_.1.2.1 | exact hk_.1.2.2))); replace HO_5 := Aside0.mk (Kd.R_reok rfl hy0 (fun k_ e_ => HO_5.out.1 k_ e_)); replace HB := Aside0.mk (hb); (try clear hb); (try clear hkp); (try clear hy0)) | ((with_reducible refine gate_callee (f := 24) rfl ?_); refine goesL_ (some 38) rfl rfl Tryd.func24 (by kernel_rfl) rfl #[.slice Ao26 t193.length co26, .int .i64 1] rfl (by (try simp only [List.map_toArray, List.map_cons, List.map_nil]); first | done | (rw [show t193.length = t187.length from (Kd.R_reads' HO_5.out).1.symm] <;> rfl) | rfl | (simp only [List.length_drop, List.length_take]; rfl)) ?_; (with_reducible refine (laws_heldTokenS.calls kj4 _ _ t193 1 t194 _ ?side1 ?side2 A18.out).mono ?_); (case side1 => exact cz (Kd.R_reads' HO_5.out).2.2); (case side2 => rw [show t193.length = t187.length from (Kd.R_reads' HO_5.out).1.symm]; exact (Kd.R_reads' HO_5.out).2.1); rintro e w28 ⟨rfl, hb⟩; refine ⟨_, rfl, ?_⟩; replace HO_3 := qz HO_3 hb; replace HO_5 := qz HO_5 hb; replace HB := Aside0.mk (below_step (bz0 HB.out) hb); (try clear hb); (try clear hi)) | ((with_reducible refine gate_callee (f := 21) rfl ?_); refine goesL_ (some 46) rfl rfl Tryd.func21 (by kernel_rfl) rfl #[.string a0] rfl lz ?_; (with_reducible refine (impl_Lex.calls kj4 a0 t195 t196 _ A24.out ?hT_).mono ?_); (case hT_ => exact PW.below hT_ (bz0 HB.out)); rintro e w29 ⟨v197, rfl, ho0, hb⟩; refine ⟨_, rfl, ?_⟩; have HO198 := Aside0.mk (Kd.R_lower (Kd.R_new' (Kd.R_new' ho0 (Kd.R_lt (rz HO_3.out))) (Kd.R_lt (rz HO_5.out))) (below_size (bz0 HB.out))); replace HO_3 := Aside0.mk (Kd.R_elder' (rz HO_3.out) (Kd.R_base ho0) hb); replace HO_5 := Aside0.mk (Kd.R_elder' (rz HO_5.out) (Kd.R_base ho0) hb); replace HB := Aside0.mk (below_step (bz0 HB.out) hb); (try clear hb); (try clear ho0)))
       (try simp only [Act.put, sz1, sz2, sz3])
       go_cut [57] (fun v57 wc => ∃ (kq : Nat) (x57_24 : Bool), v57 = .bool x57_24 /\ Aside0 (laws_FnExactLex.j1 kq t193 t192 x57_24 = some r) /\ Aside0 (kq <= kj4) /\ Aside0 (Kd.R k43 43 wc w.heap.size (fun _ => True) (.slice Ao26 t187.length co26) t193) /\ Aside0 (Below w.heap.size w wc))
       case first =>
        have H := HC25.out
        clear HC25
        replace H := bi H
        obtain ⟨t199, A300, H⟩ := H
        try dsimp only at H
        have A30 := Aside0.mk A300
        clear A300
        by_cases c31 : t199 = true
        ·subst c31
         have H1 := hp H
         clear H
         have H := H1
         clear H1
         have H' := Aside0.mk H
         clear H
         obtain ⟨Ao32, co32, eo32⟩ := Kd.R_slice HO198.out
         subst eo32
         obtain ⟨Ao33, co33, eo33⟩ := Kd.R_slice HO_3.out
         subst eo33
         go_wp2_with (first | ((with_reducible refine gate_callee (f := 22) rfl ?_); refine goesL_ (some 51) rfl rfl Tryd.func22 (by kernel_rfl) rfl #[.slice Ao32 t195.length co32, .slice Ao33 t183.length co33] rfl lz ?_; (with_reducible refine (laws_eqTokenS.calls kj4 _ _ t195 _ _ t183 true _ ?side1 ?side2 ?side3 ?side4 A30.out).mono ?_); (case side1 => exact cz (Kd.R_reads' HO198.out).2.2); (case side2 => exact (Kd.R_reads' HO198.out).2.1); (case side3 => exact cz (Kd.R_reads' HO_3.out).2.2); (case side4 => exact (Kd.R_reads' HO_3.out).2.1); rintro e w34 ⟨rfl, hb⟩; refine ⟨_, rfl, ?_⟩; replace HO_3 := qz HO_3 hb; replace HO_5 := qz HO_5 hb; replace HO198 := qz HO198 hb; replace HB := Aside0.mk (below_step (bz0 HB.out) hb); (try clear hb); (try clear hi)))
         go_meet
         case rel => exact ⟨_, ((t196 != t184)), ez, H', ⟨by have := HJ4.out; first | omega | exact Nat.le_refl _⟩, ⟨by refine rq ?_; exact Kd.R_mono HO_5.out (fun _ hk => trivial)⟩, ⟨(bz0 HB.out)⟩⟩
        ·replace c31 := Bool.eq_false_iff.mpr c31
         subst c31
         have H1 := hq H
         clear H
         have H := H1
         clear H1
         have H' := Aside0.mk H
         clear H
         obtain ⟨Ao35, co35, eo35⟩ := Kd.R_slice HO198.out
         subst eo35
         obtain ⟨Ao36, co36, eo36⟩ := Kd.R_slice HO_3.out
         subst eo36
         go_wp2_with (first | ((with_reducible refine gate_callee (f := 22) rfl ?_); refine goesL_ (some 51) rfl rfl Tryd.func22 (by kernel_rfl) rfl #[.slice Ao35 t195.length co35, .slice Ao36 t183.length co36] rfl lz ?_; (with_reducible refine (laws_eqTokenS.calls kj4 _ _ t195 _ _ t183 false _ ?side1 ?side2 ?side3 ?side4 A30.out).mono ?_); (case side1 => exact cz (Kd.R_reads' HO198.out).2.2); (case side2 => exact (Kd.R_reads' HO198.out).2.1); (case side3 => exact cz (Kd.R_reads' HO_3.out).2.2); (case side4 => exact (Kd.R_reads' HO_3.out).2.1); rintro e w37 ⟨rfl, hb⟩; refine ⟨_, rfl, ?_⟩; replace HO_3 := qz HO_3 hb; replace HO_5 := qz HO_5 hb; replace HO198 := qz HO198 hb; replace HB := Aside0.mk (below_step (bz0 HB.out) hb); (try clear hb); (try clear hi)))
         go_meet
         case rel => exact ⟨_, (true), ez, H', ⟨by have := HJ4.out; first | omega | exact Nat.le_refl _⟩, ⟨by refine rq ?_; exact Kd.R_mono HO_5.out (fun _ hk => trivial)⟩, ⟨(bz0 HB.out)⟩⟩
       case rest =>
        clear HC25
        try clear c1
        try clear c2
        try clear c2b0
        try clear c2b1
        try clear p2
        try clear c3
        try clear c5
        try clear c9
        try clear c16
        try clear c19
        try clear c19b0
        try clear c20
        try clear c21
        try clear c22
        try clear c23
        try clear c23b0
        try clear c23b1
        try clear c24
        try clear c31
        try clear p2
        obtain ⟨kq, x57_24, rfl, HA, HJ24, HO_5, HB⟩ := hcut
        have hl5_24 := (Kd.R_reads' HO_5.out).1
        rw [hl5_24] at HO_5
        (try simp only [hl5_24])
        cases kq with
        | zero => exact absurd HA.out (by simp [laws_FnExactLex.j1])
        | succ kj24 =>
         have H := HA.out
         clear HA
         simp only [laws_FnExactLex.j1] at H
         by_cases c38 : x57_24 = true
         ·subst c38
          have H1 := hp H
          clear H
          have H := H1
          clear H1
          obtain rfl := Option.some.inj H
          go_wp2
          go_ret
          exact ⟨gz, (bz0 HB.out)⟩
         ·replace c38 := Bool.eq_false_iff.mpr c38
          subst c38
          have H1 := hq H
          clear H
          have H := H1
          clear H1
          replace H := bi H
          obtain ⟨t200, A390, H⟩ := H
          try dsimp only at H
          have A39 := Aside0.mk A390
          clear A390
          by_cases c40 : t200 < 0
          ·rw [if_pos c40] at H
           have c40b0 := decide_eq_true c40
           clear c40
           obtain rfl := Option.some.inj H
           go_wp2_with (first | ((with_reducible refine gate_callee (f := 24) rfl ?_); refine goesL_ (some 60) rfl rfl Tryd.func24 (by kernel_rfl) rfl #[.slice Ao26 t193.length co26, .int .i64 1] rfl lz ?_; (with_reducible refine (laws_heldTokenS.calls kj24 _ _ t193 1 t200 _ ?side1 ?side2 A39.out).mono ?_); (case side1 => exact cz (Kd.R_reads' HO_5.out).2.2); (case side2 => exact (Kd.R_reads' HO_5.out).2.1); rintro e w41 ⟨rfl, hb⟩; refine ⟨_, rfl, ?_⟩; replace HO_5 := qz HO_5 hb; replace HB := Aside0.mk (below_step (bz0 HB.out) hb); (try clear hb); (try clear hi)))
           go_ret
           exact ⟨gz, (bz0 HB.out)⟩
          ·rw [if_neg c40] at H
           have c40b0 := decide_eq_false c40
           clear c40
           by_cases c42 : t200 = t192
           ·rw [if_pos c42] at H
            have c42b0 : (t200 == t192) = true := beq_iff_eq.mpr c42
            have c42b1 : (t200 != t192) = false := bne_eq_false_iff_eq.mpr c42
            clear c42
            obtain rfl := Option.some.inj H
            go_wp2_with (first | ((with_reducible refine gate_callee (f := 24) rfl ?_); refine goesL_ (some 60) rfl rfl Tryd.func24 (by kernel_rfl) rfl #[.slice Ao26 t193.length co26, .int .i64 1] rfl lz ?_; (with_reducible refine (laws_heldTokenS.calls kj24 _ _ t193 1 t200 _ ?side1 ?side2 A39.out).mono ?_); (case side1 => exact cz (Kd.R_reads' HO_5.out).2.2); (case side2 => exact (Kd.R_reads' HO_5.out).2.1); rintro e w43 ⟨rfl, hb⟩; refine ⟨_, rfl, ?_⟩; replace HO_5 := qz HO_5 hb; replace HB := Aside0.mk (below_step (bz0 HB.out) hb); (try clear hb); (try clear hi)))
            go_ret
            exact ⟨gz, (bz0 HB.out)⟩
           ·rw [if_neg c42] at H
            have c42b0 : (t200 == t192) = false := beq_eq_false_iff_ne.mpr c42
            have c42b1 : (t200 != t192) = true := bne_iff_ne.mpr c42
            obtain rfl := Option.some.inj H
            go_wp2_with (first | ((with_reducible refine gate_callee (f := 24) rfl ?_); refine goesL_ (some 60) rfl rfl Tryd.func24 (by kernel_rfl) rfl #[.slice Ao26 t193.length co26, .int .i64 1] rfl lz ?_; (with_reducible refine (laws_heldTokenS.calls kj24 _ _ t193 1 t200 _ ?side1 ?side2 A39.out).mono ?_); (case side1 => exact cz (Kd.R_reads' HO_5.out).2.2); (case side2 => exact (Kd.R_reads' HO_5.out).2.1); rintro e w44 ⟨rfl, hb⟩; refine ⟨_, rfl, ?_⟩; replace HO_5 := qz HO_5 hb; replace HB := Aside0.mk (below_step (bz0 HB.out) hb); (try clear hb); (try clear hi)))
            go_ret
            exact ⟨gz, (bz0 HB.out)⟩
      ·rw [if_neg c23] at H
       have c23b0 : (t194 == t192) = false := beq_eq_false_iff_ne.mpr c23
       have c23b1 : (t194 != t192) = true := bne_iff_ne.mpr c23
       obtain rfl := Option.some.inj H
       obtain ⟨Ao45, co45, eo45⟩ := Kd.R_slice HO_5.out
       subst eo45
       go_wp2_with (first | ((with_reducible refine gate_callee (f := 23) rfl ?_); refine goesL_ (some 35) rfl rfl Tryd.func23 (by kernel_rfl) rfl #[.slice Ao45 t187.length co45, .int .i64 1] rfl lz ?_; (with_reducible refine (laws_markTokenS.calls kj4 (fun k_ => some k_ = (.slice Ao45 t187.length co45 : Value).ownBlock) (.slice Ao45 t187.length co45) t187 1 t192 t193 w _ ?side1 ?side2 A17.out).mono ?_); (case side1 => repeat (first | (with_reducible first | exact HB.out | apply below_alloc | apply pw_below_drewN | apply below_drew1) | exact HB.out)); (case side2 => exact Kd.R_tight rfl HO_5.out); rintro e w46 ⟨rfl, hy0, hb, hkp⟩; refine ⟨_, rfl, ?_⟩; replace HO_3 := Aside0.mk (Kd.R_mono (ok' := fun k_ => some k_ ≠ (.slice Ao45 t187.length co45 : Value).ownBlock) (Kd.R_keptB (HO_3.out) hkp (fun k_ hk_ hs_ => by with_reducible first | exact absurd hs_ hk_ | exact absurd hs_ hk_ | exact absurd hs_ hk_.1 | exact absurd hs_ hk_.2 | exact absurd hs_ hk_.1.1 | exact absurd hs_ hk_.1.2)) (fun k_ hk_ => by first | exact hk_.1 | (with_reducible first | exact hk_.1 | exact hk_.1.1 | exact hk_.1.2 | exact hk_.1.1.1 | exact hk_.1.1.2 | exact hk_.2.1 | exact hk_.1.2.1 | exact hk_.1.2.2))); replace HO_5 := Aside0.mk (Kd.R_reok rfl hy0 (fun k_ e_ => HO_5.out.1 k_ e_)); replace HB := Aside0.mk (hb); (try clear hb); (try clear hkp); (try clear hy0)) | ((with_reducible refine gate_callee (f := 24) rfl ?_); refine goesL_ (some 38) rfl rfl Tryd.func24 (by kernel_rfl) rfl #[.slice Ao45 t193.length co45, .int .i64 1] rfl (by (try simp only [List.map_toArray, List.map_cons, List.map_nil]); first | done | (rw [show t193.length = t187.length from (Kd.R_reads' HO_5.out).1.symm] <;> rfl) | rfl | (simp only [List.length_drop, List.length_take]; rfl)) ?_; (with_reducible refine (laws_heldTokenS.calls kj4 _ _ t193 1 t194 _ ?side1 ?side2 A18.out).mono ?_); (case side1 => exact cz (Kd.R_reads' HO_5.out).2.2); (case side2 => rw [show t193.length = t187.length from (Kd.R_reads' HO_5.out).1.symm]; exact (Kd.R_reads' HO_5.out).2.1); rintro e w47 ⟨rfl, hb⟩; refine ⟨_, rfl, ?_⟩; replace HO_3 := qz HO_3 hb; replace HO_5 := qz HO_5 hb; replace HB := Aside0.mk (below_step (bz0 HB.out) hb); (try clear hb); (try clear hi)))
       go_ret
       exact ⟨gz, (bz0 HB.out)⟩
def laws_FnExactLex.Pure : Prop := ∀ (a0 : ByteArray), a0.size <= 140737488351232 -> ∃ k, laws_FnExactLex.f k a0 = some true
end Go.Proofs.YtdjamdnjkdllgaaDoor.PFnExactLex
