/- PFnExactUnifiedx12, of the words and walks that the law FnExactUnified needs; made by this session's program out of printed texts. -/

import Derived.Test.YtlhofeikcaejpaaDoorVEUnifiedPx0
import Derived.Test.YtlhofeikcaejpaaDoorVEUnifiedPx1
import Derived.Test.YtlhofeikcaejpaaDoorVEUnifiedPx6
import Derived.Test.YtlhofeikcaejpaaDoorVEUnifiedPx7
import Derived.Test.YtlhofeikcaejpaaDoorVEUnifiedPx9
import Derived.Test.YtlhofeikcaejpaaDoorVEUnifiedPx10
import Derived.Test.YtlhofeikcaejpaaDoorVEUnifiedPx11
namespace Go.Proofs.YtlhofeikcaejpaaDoor.PFnExactUnified
open Go.RowKit Go.Proofs.YtlhofeikcaejpaaDoorW.PrintWords Go.Proofs.YtlhofeikcaejpaaDoorW.PrintLast Go.Proofs.YtlhofeikcaejpaaDoorW.PrintMore
attribute [local go_sem] max2_int min2_int max_two min_two max_three min_three max_four min_four
set_option linter.unusedVariables false
set_option linter.unusedSimpArgs false
def spec_Unified.j0 : Nat -> List (S55) -> Int -> Int -> Bool -> Option (ByteArray × Bool)
 | 0, _, _, _, _ => none
 | k + 1, x0, x1, x2, x22 => if x22 = true then (some ((⟨#[]⟩ : ByteArray), false)) else ((some (([] : List (S55)) : List (S55))).bind fun y298 => (if y298.length + x0.length < 5864062014805 then ((spec_l8Unify.f k (y298 ++ x0) x1 x2).bind fun bt304 => (if bt304.1 = true then ((spec_l8Size.f k bt304.2 x1 60).bind fun t306 => (if t306 > 60 then (some ((⟨#[]⟩ : ByteArray), false)) else ((spec_l8Show.f k bt304.2 x1 (([] : List Int))).bind fun bt310 => (some (bt310.1, true))))) else (some ((⟨#[]⟩ : ByteArray), false)))) else (none)))
def spec_Unified.f (k : Nat) (l0 : List (S55)) (a1 : Int) (a2 : Int) : Option (ByteArray × Bool) := (spec_SizeOf.f k l0 a1).bind fun t294 => ((spec_l1In.f t294 1 60).bind fun t295 => (if t295 = true then ((spec_SizeOf.f k l0 a2).bind fun t296 => ((spec_l1In.f t296 1 60).bind fun t297 => (spec_Unified.j0 k l0 a1 a2 (!t297)))) else (spec_Unified.j0 k l0 a1 a2 true)))
theorem spec_Unified.mono_l : ∀ k, (∀ y0 y1 y2 y3, LeO (spec_Unified.j0 k y0 y1 y2 y3) (spec_Unified.j0 (k + 1) y0 y1 y2 y3))
 | 0 => fun _ _ _ _ r h => by simp [spec_Unified.j0] at h
 | k + 1 => by
  have ih0 := spec_Unified.mono_l k
  ·intro y0 y1 y2 y3
   unfold spec_Unified.j0
   with_reducible repeat' first | exact ih0 _ _ _ _ | exact spec_SizeOf.mono _ _ _ | exact spec_l8Show.mono _ _ _ _ | exact spec_l8Size.mono _ _ _ _ | exact spec_l8Unify.mono _ _ _ _ | exact lrz _ | exact lnz _ | refine liz ?_ ?_ | refine lbz ?_ fun _ => ?_
theorem spec_Unified.mono : ∀ a0 a1 a2 k, LeO (spec_Unified.f k a0 a1 a2) (spec_Unified.f (k + 1) a0 a1 a2) := by
 intro a0 a1 a2 k
 have ih0 := spec_Unified.mono_l k
 unfold spec_Unified.f
 with_reducible repeat' first | exact ih0 _ _ _ _ | exact spec_SizeOf.mono _ _ _ | exact spec_l8Show.mono _ _ _ _ | exact spec_l8Size.mono _ _ _ _ | exact spec_l8Unify.mono _ _ _ _ | exact lrz _ | exact lnz _ | refine liz ?_ ?_ | refine lbz ?_ fun _ => ?_
set_option maxHeartbeats 8000000 in
set_option maxRecDepth 100000 in
theorem spec_Unified.calls (k : Nat) (A0 : Option Addr) (c0 : Nat) (l0 : List (S55)) (a1 : Int) (a2 : Int) (r1 : ByteArray) (r2 : Bool) (w : World) (hr0 : Kd.C k55 w A0 l0.length l0) (hc0 : l0.length <= c0) (h : spec_Unified.f k l0 a1 a2 = some (r1, r2)) :
  Calls Tryd.prog 36 #[.slice A0 l0.length c0, .int .i64 a1, .int .i64 a2] w fun e w' => e = .returned (.tuple #[.string r1, .bool r2]) /\ Below w.heap.size w w' := by
 have HR0 := Aside0.mk hr0
 have HC0 := Aside0.mk hc0
 clear hr0 hc0
 have HB := Aside0.mk (Below.refl w.heap.size w)
 have H : ((spec_SizeOf.f k l0 a1).bind fun t294 => ((spec_l1In.f t294 1 60).bind fun t295 => (if t295 = true then ((spec_SizeOf.f k l0 a2).bind fun t296 => ((spec_l1In.f t296 1 60).bind fun t297 => (spec_Unified.j0 k l0 a1 a2 (!t297)))) else (spec_Unified.j0 k l0 a1 a2 true)))) = some (r1, r2) := h
 clear h
 have HC4 := Aside0.mk H
 clear H
 go_enter Tryd.func36, Tryd.ntmps36
 go_upto_region 1 with (fail)
 go_cut [22] (fun v22 wc => ∃ (kq : Nat) (x22_3 : Bool), v22 = .bool x22_3 /\ Aside0 (spec_Unified.j0 kq l0 a1 a2 x22_3 = some (r1, r2)) /\ Aside0 (kq <= k) /\ Aside0 (Below w.heap.size w wc))
 case first =>
  have H := HC4.out
  clear HC4
  replace H := bi H
  obtain ⟨t294, A50, H⟩ := H
  try dsimp only at H
  have A5 := Aside0.mk A50
  clear A50
  replace H := bi H
  obtain ⟨t295, A60, H⟩ := H
  try dsimp only at H
  have A6 := Aside0.mk A60
  clear A60
  by_cases c7 : t295 = true
  ·subst c7
   have H1 := hp H
   clear H
   have H := H1
   clear H1
   replace H := bi H
   obtain ⟨t296, A80, H⟩ := H
   try dsimp only at H
   have A8 := Aside0.mk A80
   clear A80
   replace H := bi H
   obtain ⟨t297, A90, H⟩ := H
   try dsimp only at H
   have A9 := Aside0.mk A90
   clear A90
   have H' := Aside0.mk H
   clear H
   go_wp2_with (first | ((with_reducible refine gate_callee (f := 22) rfl ?_); refine goesL_ (some 13) rfl rfl Tryd.func22 (by kernel_rfl) rfl #[.slice A0 l0.length c0, .int .i64 a1] rfl lz ?_; (with_reducible refine (spec_SizeOf.calls k _ _ l0 a1 t294 _ ?side1 ?side2 A5.out).mono ?_); (case side1 => exact cz (Kd.C_below HR0.out HB.out)); (case side2 => exact HC0.out); rintro e w10 ⟨rfl, hb⟩; refine ⟨_, rfl, ?_⟩; replace HB := Aside0.mk (below_step (bz0 HB.out) hb); (try clear hb); (try clear hi)) | ((with_reducible refine gate_callee (f := 44) rfl ?_); refine goesL_ (some 14) rfl rfl Tryd.func44 (by kernel_rfl) rfl #[.int .i64 t294, .int .i64 1, .int .i64 60] rfl lz ?_; (with_reducible refine (spec_l1In.calls t294 1 60 true _ A6.out).mono ?_); rintro e w' ⟨rfl, ⟨nd, rfl⟩⟩; refine ⟨_, rfl, ?_⟩) | (go_at_call 22; (with_reducible refine (spec_SizeOf.calls k _ _ l0 a2 t296 _ ?side1 ?side2 A8.out).mono ?_); (case side1 => exact cz (Kd.C_below HR0.out (bz0 HB.out))); (case side2 => exact HC0.out); rintro e w11 ⟨rfl, hb⟩; replace HB := Aside0.mk (below_step (bz0 HB.out) hb); (try clear hb); (try clear hi)) | (go_at_call 44; (with_reducible refine (spec_l1In.calls t296 1 60 t297 _ A9.out).mono ?_); rintro e w' ⟨rfl, ⟨nd, rfl⟩⟩))
   go_meet
   case rel => exact ⟨_, (!t297), ez, H', ⟨by first | omega | exact Nat.le_refl _⟩, ⟨(bz0 HB.out)⟩⟩
  ·replace c7 := Bool.eq_false_iff.mpr c7
   subst c7
   have H1 := hq H
   clear H
   have H := H1
   clear H1
   have H' := Aside0.mk H
   clear H
   go_wp2_with (first | ((with_reducible refine gate_callee (f := 22) rfl ?_); refine goesL_ (some 13) rfl rfl Tryd.func22 (by kernel_rfl) rfl #[.slice A0 l0.length c0, .int .i64 a1] rfl lz ?_; (with_reducible refine (spec_SizeOf.calls k _ _ l0 a1 t294 _ ?side1 ?side2 A5.out).mono ?_); (case side1 => exact cz (Kd.C_below HR0.out HB.out)); (case side2 => exact HC0.out); rintro e w12 ⟨rfl, hb⟩; refine ⟨_, rfl, ?_⟩; replace HB := Aside0.mk (below_step (bz0 HB.out) hb); (try clear hb); (try clear hi)) | ((with_reducible refine gate_callee (f := 44) rfl ?_); refine goesL_ (some 14) rfl rfl Tryd.func44 (by kernel_rfl) rfl #[.int .i64 t294, .int .i64 1, .int .i64 60] rfl lz ?_; (with_reducible refine (spec_l1In.calls t294 1 60 false _ A6.out).mono ?_); rintro e w' ⟨rfl, ⟨nd, rfl⟩⟩; refine ⟨_, rfl, ?_⟩))
   go_meet
   case rel => exact ⟨_, (true), ez, H', ⟨by first | omega | exact Nat.le_refl _⟩, ⟨(bz0 HB.out)⟩⟩
 case rest =>
  clear HC4
  try clear c2
  try clear p2
  try clear c3
  try clear c4
  try clear c7
  obtain ⟨kq, x22_3, rfl, HA, HJ3, HB⟩ := hcut
  cases kq with
  | zero => exact absurd HA.out (by simp [spec_Unified.j0])
  | succ kj3 =>
   have H := HA.out
   clear HA
   simp only [spec_Unified.j0] at H
   by_cases c13 : x22_3 = true
   ·subst c13
    have H1 := hp H
    clear H
    have H := H1
    clear H1
    simp only [Option.some.injEq, Prod.mk.injEq] at H
    obtain ⟨rfl, rfl⟩ := H
    go_wp2
    go_ret2
    exact ⟨gz, (bz0 HB.out)⟩
   ·replace c13 := Bool.eq_false_iff.mpr c13
    subst c13
    have H1 := hq H
    clear H
    have H := H1
    clear H1
    obtain ⟨y298, hy298⟩ : ∃ y_ : List (S55), y_ = (([] : List (S55))) := ⟨_, rfl⟩
    replace H : (if y298.length + l0.length < 5864062014805 then ((spec_l8Unify.f kj3 (y298 ++ l0) a1 a2).bind fun bt304 => (if bt304.1 = true then ((spec_l8Size.f kj3 bt304.2 a1 60).bind fun t306 => (if t306 > 60 then (some ((⟨#[]⟩ : ByteArray), false)) else ((spec_l8Show.f kj3 bt304.2 a1 (([] : List Int))).bind fun bt310 => (some (bt310.1, true))))) else (some ((⟨#[]⟩ : ByteArray), false)))) else (none)) = some (r1, r2) := yz hy298 H
    have Ny298 := Aside0.mk hy298
    clear hy298
    replace H := iz H
    obtain ⟨c14, H⟩ := H
    have LMc14 := Aside0.mk c14
    clear c14
    obtain ⟨y301, hy301⟩ : ∃ y_ : List (S55), y_ = (y298 ++ l0) := ⟨_, rfl⟩
    replace H : ((spec_l8Unify.f kj3 y301 a1 a2).bind fun bt304 => (if bt304.1 = true then ((spec_l8Size.f kj3 bt304.2 a1 60).bind fun t306 => (if t306 > 60 then (some ((⟨#[]⟩ : ByteArray), false)) else ((spec_l8Show.f kj3 bt304.2 a1 (([] : List Int))).bind fun bt310 => (some (bt310.1, true))))) else (some ((⟨#[]⟩ : ByteArray), false)))) = some (r1, r2) := yz hy301 H
    have Ny301 := Aside0.mk hy301
    clear hy301
    replace H := bi H
    obtain ⟨⟨t304, t305⟩, A150, H⟩ := H
    try dsimp only at H
    have A15 := Aside0.mk A150
    clear A150
    by_cases c16 : t304 = true
    ·subst c16
     have H1 := hp H
     clear H
     have H := H1
     clear H1
     replace H := bi H
     obtain ⟨t306, A170, H⟩ := H
     try dsimp only at H
     have A17 := Aside0.mk A170
     clear A170
     by_cases c18 : t306 > 60
     ·rw [if_pos c18] at H
      have c18b0 : decide (60 < t306) = true := decide_eq_true c18
      clear c18
      simp only [Option.some.injEq, Prod.mk.injEq] at H
      obtain ⟨rfl, rfl⟩ := H
      go_wp2_with (first | ((with_reducible refine gate_dst (N := 23) rfl ?_); refine Kd.R_lit k55 _ 55 ?hg (N := 23) ?hd (xs := ([] : List (S55))) (inner := []) (ok := fun _ => True) (okp := fun _ => True) ?hr ?hp (fun _ hk => hk) trivial (Below.refl _ _) (Nat.le_refl _) (by simp) ?_; (case hd => rfl); (case hg => rfl); (case hr => exact vz); (case hp => exact (Reps.none _ _)); intro v299 w19 ho20 hb hg_ hnew_; clear hg_ hnew_; (first | rw [<- Ny298.out] at ho20 | (simp only [Int.reduceToNat] at ho20; rw [<- Ny298.out] at ho20)); have HO300 := Aside0.mk (Kd.R_lower ho20 (below_size (bz0 HB.out))); replace HB := Aside0.mk (below_step (bz0 HB.out) hb); clear hb ho20) | ((with_reducible refine gate_builtin (b := .append) (xs := #[.tmp 23, .tmp 24]) rfl ?_); at_builtin; refine Kd.R_append_rows k55 (w0 := w) w.heap.size rfl (.tmp 23) (.tmp 24) 48 55 (.agg #[(.int .i64 0), (.int .i64 0), (.int .i64 0)]) 24 rfl Tryd.underlying48 info55 rfl (by decide) (by omega) v299 y298 l0 _ _ _ (fun _ => True) (fun _ => False) rfl rfl ?aO ?aR (fun _ _ h => h) (fun _ h => h.elim) ?aF ?aB ?aS ?aL ?_; (case aR => exact cz (Kd.C_below HR0.out HB.out)); (case aB => exact (bz0 HB.out)); (case aF => exact (fun _ _ => trivial)); (case aO => exact (rz HO300.out)); (case aS => exact (below_size (bz0 HB.out))); (case aL => have := LMc14.out; omega); intro v302 w21 ho hb hg hat; rw [<- Ny301.out] at ho; have n0_ := Aside0.mk (hb); have n1_ := Aside0.mk (ho); clear HB; clear HO300; have HB := n0_; have HO303 := n1_; clear n0_ n1_; clear ho hb hg hat; obtain ⟨Ao22, co22, eo22⟩ := Kd.R_slice HO303.out; subst eo22) | ((with_reducible refine gate_callee (f := 75) rfl ?_); refine goesL_ (some 29) rfl rfl Tryd.func75 (by kernel_rfl) rfl #[.slice Ao22 y301.length co22, .int .i64 a1, .int .i64 a2] rfl lz ?_; (with_reducible refine (spec_l8Unify.calls kj3 (fun k_ => some k_ = (.slice Ao22 y301.length co22 : Value).ownBlock) (.slice Ao22 y301.length co22) y301 a1 a2 true t305 w _ ?side1 ?side2 A15.out).mono ?_); (case side1 => repeat (first | (with_reducible first | exact HB.out | apply below_alloc | apply pw_below_drewN | apply below_drew1) | exact HB.out)); (case side2 => exact Kd.R_tight rfl HO303.out); rintro e w23 ⟨rfl, hy0, hb, hkp⟩; refine ⟨_, rfl, ?_⟩; replace HO303 := Aside0.mk (Kd.R_reok rfl hy0 (fun k_ e_ => HO303.out.1 k_ e_)); replace HB := Aside0.mk (hb); (try clear hb); (try clear hkp); (try clear hy0)) | (go_at_call 54; refine calls_of_args (args' := #[.slice Ao22 t305.length co22, .int .i64 a1, .int .i64 60]) (by first | (rw [show t305.length = y301.length from (Kd.R_reads' HO303.out).1.symm] <;> rfl) | rfl) ?_; (with_reducible refine (spec_l8Size.calls kj3 _ _ t305 a1 60 t306 _ ?side1 ?side2 A17.out).mono ?_); (case side1 => exact cz (Kd.R_reads' HO303.out).2.2); (case side2 => rw [show t305.length = y301.length from (Kd.R_reads' HO303.out).1.symm]; exact (Kd.R_reads' HO303.out).2.1); rintro e w24 ⟨rfl, hb⟩; replace HO303 := qz HO303 hb; replace HB := Aside0.mk (below_step (bz0 HB.out) hb); (try clear hb); (try clear hk); (try clear hi)))
      go_ret2
      exact ⟨gz, (bz0 HB.out)⟩
     ·rw [if_neg c18] at H
      have c18b0 : decide (60 < t306) = false := decide_eq_false c18
      clear c18
      obtain ⟨y307, hy307⟩ : ∃ y_ : List Int, y_ = (([] : List Int)) := ⟨_, rfl⟩
      replace H : ((spec_l8Show.f kj3 t305 a1 y307).bind fun bt310 => (some (bt310.1, true))) = some (r1, r2) := yz hy307 H
      have Ny307 := Aside0.mk hy307
      clear hy307
      replace H := bi H
      obtain ⟨⟨t310, t311⟩, A250, H⟩ := H
      try dsimp only at H
      have A25 := Aside0.mk A250
      clear A250
      simp only [Option.some.injEq, Prod.mk.injEq] at H
      obtain ⟨rfl, rfl⟩ := H
      go_wp2_with (first | ((with_reducible refine gate_dst (N := 23) rfl ?_); refine Kd.R_lit k55 _ 55 ?hg (N := 23) ?hd (xs := ([] : List (S55))) (inner := []) (ok := fun _ => True) (okp := fun _ => True) ?hr ?hp (fun _ hk => hk) trivial (Below.refl _ _) (Nat.le_refl _) (by simp) ?_; (case hd => rfl); (case hg => rfl); (case hr => exact vz); (case hp => exact (Reps.none _ _)); intro v299 w26 ho27 hb hg_ hnew_; clear hg_ hnew_; (first | rw [<- Ny298.out] at ho27 | (simp only [Int.reduceToNat] at ho27; rw [<- Ny298.out] at ho27)); have HO300 := Aside0.mk (Kd.R_lower ho27 (below_size (bz0 HB.out))); replace HB := Aside0.mk (below_step (bz0 HB.out) hb); clear hb ho27) | ((with_reducible refine gate_builtin (b := .append) (xs := #[.tmp 23, .tmp 24]) rfl ?_); at_builtin; refine Kd.R_append_rows k55 (w0 := w) w.heap.size rfl (.tmp 23) (.tmp 24) 48 55 (.agg #[(.int .i64 0), (.int .i64 0), (.int .i64 0)]) 24 rfl Tryd.underlying48 info55 rfl (by decide) (by omega) v299 y298 l0 _ _ _ (fun _ => True) (fun _ => False) rfl rfl ?aO ?aR (fun _ _ h => h) (fun _ h => h.elim) ?aF ?aB ?aS ?aL ?_; (case aR => exact cz (Kd.C_below HR0.out HB.out)); (case aB => exact (bz0 HB.out)); (case aF => exact (fun _ _ => trivial)); (case aO => exact (rz HO300.out)); (case aS => exact (below_size (bz0 HB.out))); (case aL => have := LMc14.out; omega); intro v302 w28 ho hb hg hat; rw [<- Ny301.out] at ho; have n0_ := Aside0.mk (hb); have n1_ := Aside0.mk (ho); clear HB; clear HO300; have HB := n0_; have HO303 := n1_; clear n0_ n1_; clear ho hb hg hat; obtain ⟨Ao29, co29, eo29⟩ := Kd.R_slice HO303.out; subst eo29) | ((with_reducible refine gate_callee (f := 75) rfl ?_); refine goesL_ (some 29) rfl rfl Tryd.func75 (by kernel_rfl) rfl #[.slice Ao29 y301.length co29, .int .i64 a1, .int .i64 a2] rfl lz ?_; (with_reducible refine (spec_l8Unify.calls kj3 (fun k_ => some k_ = (.slice Ao29 y301.length co29 : Value).ownBlock) (.slice Ao29 y301.length co29) y301 a1 a2 true t305 w _ ?side1 ?side2 A15.out).mono ?_); (case side1 => repeat (first | (with_reducible first | exact HB.out | apply below_alloc | apply pw_below_drewN | apply below_drew1) | exact HB.out)); (case side2 => exact Kd.R_tight rfl HO303.out); rintro e w30 ⟨rfl, hy0, hb, hkp⟩; refine ⟨_, rfl, ?_⟩; replace HO303 := Aside0.mk (Kd.R_reok rfl hy0 (fun k_ e_ => HO303.out.1 k_ e_)); replace HB := Aside0.mk (hb); (try clear hb); (try clear hkp); (try clear hy0)) | (go_at_call 54; refine calls_of_args (args' := #[.slice Ao29 t305.length co29, .int .i64 a1, .int .i64 60]) (by first | (rw [show t305.length = y301.length from (Kd.R_reads' HO303.out).1.symm] <;> rfl) | rfl) ?_; (with_reducible refine (spec_l8Size.calls kj3 _ _ t305 a1 60 t306 _ ?side1 ?side2 A17.out).mono ?_); (case side1 => exact cz (Kd.R_reads' HO303.out).2.2); (case side2 => rw [show t305.length = y301.length from (Kd.R_reads' HO303.out).1.symm]; exact (Kd.R_reads' HO303.out).2.1); rintro e w31 ⟨rfl, hb⟩; replace HO303 := qz HO303 hb; replace HB := Aside0.mk (below_step (bz0 HB.out) hb); (try clear hb); (try clear hk); (try clear hi)) | ((with_reducible refine gate_dst (N := 40) rfl ?_); refine Kd.R_lit (Kd.int .i64) _ 3 ?hg (N := 40) ?hd (xs := ([] : List Int)) (inner := []) (ok := fun _ => True) (okp := fun _ => True) ?hr ?hp (fun _ hk => hk) trivial (Below.refl _ _) (Nat.le_refl _) (by simp) ?_; (case hd => rfl); (case hg => rfl); (case hr => exact vz); (case hp => exact (Reps.none _ _)); intro v308 w32 ho33 hb hg_ hnew_; clear hg_ hnew_; (first | rw [<- Ny307.out] at ho33 | (simp only [Int.reduceToNat] at ho33; rw [<- Ny307.out] at ho33)); replace HO303 := qz HO303 hb; have HO309 := Aside0.mk (Kd.R_lower ho33 (below_size (bz0 HB.out))); replace HB := Aside0.mk (below_step (bz0 HB.out) hb); clear hb ho33; obtain ⟨Ao34, co34, eo34⟩ := Kd.R_slice HO309.out; subst eo34) | ((with_reducible refine gate_callee (f := 57) rfl ?_); refine goesL_ (some 41) rfl rfl Tryd.func57 (by kernel_rfl) rfl #[.slice Ao29 t305.length co29, .int .i64 a1, .slice Ao34 y307.length co34] rfl (by (try simp only [List.map_toArray, List.map_cons, List.map_nil]); first | done | (rw [show t305.length = y301.length from (Kd.R_reads' HO303.out).1.symm] <;> rfl) | rfl | (simp only [List.length_drop, List.length_take]; rfl)) ?_; (with_reducible refine (spec_l8Show.calls kj3 _ _ t305 a1 (fun k_ => some k_ = (.slice Ao34 y307.length co34 : Value).ownBlock) (.slice Ao34 y307.length co34) y307 t310 t311 w _ ?side1 ?side2 ?side3 ?side4 A25.out).mono ?_); (case side1 => repeat (first | (with_reducible first | exact HB.out | apply below_alloc | apply pw_below_drewN | apply below_drew1) | exact HB.out)); (case side2 => first | (exact Kd.C_kept_own ((Kd.R_apart' HO303.out (Kd.R_typed HO309.out) (by decide))) (fun k_ hk_ hs_ => by with_reducible first | exact absurd hs_ hk_.2 | exact absurd hs_ hk_ | exact absurd hs_ hk_.1 | exact absurd hs_ hk_.2 | exact absurd hs_ hk_.1.1 | exact absurd hs_ hk_.1.2)) | (rw [show t305.length = y301.length from (Kd.R_reads' HO303.out).1.symm]; exact Kd.C_kept_own ((Kd.R_apart' HO303.out (Kd.R_typed HO309.out) (by decide))) (fun k_ hk_ hs_ => by with_reducible first | exact absurd hs_ hk_.2 | exact absurd hs_ hk_ | exact absurd hs_ hk_.1 | exact absurd hs_ hk_.2 | exact absurd hs_ hk_.1.1 | exact absurd hs_ hk_.1.2))); (case side3 => rw [show t305.length = y301.length from (Kd.R_reads' HO303.out).1.symm]; exact (Kd.R_reads' HO303.out).2.1); (case side4 => exact Kd.R_tight rfl HO309.out); rintro e w35 ⟨v312, rfl, ho0, hb, hkp⟩; refine ⟨_, rfl, ?_⟩; have n0_ := Aside0.mk (Kd.R_mono (ok' := fun k_ => True) (Kd.R_keptB ((Kd.R_apart' HO303.out (Kd.R_typed HO309.out) (by decide))) hkp (fun k_ hk_ hs_ => by with_reducible first | exact absurd hs_ hk_.2 | exact absurd hs_ hk_ | exact absurd hs_ hk_.1 | exact absurd hs_ hk_.2 | exact absurd hs_ hk_.1.1 | exact absurd hs_ hk_.1.2)) (fun k_ hk_ => trivial)); have n1_ := Aside0.mk (Kd.R_mono (ok' := fun k_ => True) ho0 (fun k_ hk_ => trivial)); have n2_ := Aside0.mk (hb); clear HO303; clear HB; clear HO309; have HO303 := n0_; have HO313 := n1_; have HB := n2_; clear n0_ n1_ n2_; (try clear hb); (try clear hkp); (try clear ho0)))
      go_ret2
      exact ⟨gz, (bz0 HB.out)⟩
    ·replace c16 := Bool.eq_false_iff.mpr c16
     subst c16
     have H1 := hq H
     clear H
     have H := H1
     clear H1
     simp only [Option.some.injEq, Prod.mk.injEq] at H
     obtain ⟨rfl, rfl⟩ := H
     go_wp2_with (first | ((with_reducible refine gate_dst (N := 23) rfl ?_); refine Kd.R_lit k55 _ 55 ?hg (N := 23) ?hd (xs := ([] : List (S55))) (inner := []) (ok := fun _ => True) (okp := fun _ => True) ?hr ?hp (fun _ hk => hk) trivial (Below.refl _ _) (Nat.le_refl _) (by simp) ?_; (case hd => rfl); (case hg => rfl); (case hr => exact vz); (case hp => exact (Reps.none _ _)); intro v299 w36 ho37 hb hg_ hnew_; clear hg_ hnew_; (first | rw [<- Ny298.out] at ho37 | (simp only [Int.reduceToNat] at ho37; rw [<- Ny298.out] at ho37)); have HO300 := Aside0.mk (Kd.R_lower ho37 (below_size (bz0 HB.out))); replace HB := Aside0.mk (below_step (bz0 HB.out) hb); clear hb ho37) | ((with_reducible refine gate_builtin (b := .append) (xs := #[.tmp 23, .tmp 24]) rfl ?_); at_builtin; refine Kd.R_append_rows k55 (w0 := w) w.heap.size rfl (.tmp 23) (.tmp 24) 48 55 (.agg #[(.int .i64 0), (.int .i64 0), (.int .i64 0)]) 24 rfl Tryd.underlying48 info55 rfl (by decide) (by omega) v299 y298 l0 _ _ _ (fun _ => True) (fun _ => False) rfl rfl ?aO ?aR (fun _ _ h => h) (fun _ h => h.elim) ?aF ?aB ?aS ?aL ?_; (case aR => exact cz (Kd.C_below HR0.out HB.out)); (case aB => exact (bz0 HB.out)); (case aF => exact (fun _ _ => trivial)); (case aO => exact (rz HO300.out)); (case aS => exact (below_size (bz0 HB.out))); (case aL => have := LMc14.out; omega); intro v302 w38 ho hb hg hat; rw [<- Ny301.out] at ho; have n0_ := Aside0.mk (hb); have n1_ := Aside0.mk (ho); clear HB; clear HO300; have HB := n0_; have HO303 := n1_; clear n0_ n1_; clear ho hb hg hat; obtain ⟨Ao39, co39, eo39⟩ := Kd.R_slice HO303.out; subst eo39) | ((with_reducible refine gate_callee (f := 75) rfl ?_); refine goesL_ (some 29) rfl rfl Tryd.func75 (by kernel_rfl) rfl #[.slice Ao39 y301.length co39, .int .i64 a1, .int .i64 a2] rfl lz ?_; (with_reducible refine (spec_l8Unify.calls kj3 (fun k_ => some k_ = (.slice Ao39 y301.length co39 : Value).ownBlock) (.slice Ao39 y301.length co39) y301 a1 a2 false t305 w _ ?side1 ?side2 A15.out).mono ?_); (case side1 => repeat (first | (with_reducible first | exact HB.out | apply below_alloc | apply pw_below_drewN | apply below_drew1) | exact HB.out)); (case side2 => exact Kd.R_tight rfl HO303.out); rintro e w40 ⟨rfl, hy0, hb, hkp⟩; refine ⟨_, rfl, ?_⟩; replace HO303 := Aside0.mk (Kd.R_reok rfl hy0 (fun k_ e_ => HO303.out.1 k_ e_)); replace HB := Aside0.mk (hb); (try clear hb); (try clear hkp); (try clear hy0)))
     go_ret2
     exact ⟨gz, (bz0 HB.out)⟩
def laws_FnExactUnified.j0 : Nat -> List (S99) -> List (S55) -> Bool -> Option (Bool)
 | 0, _, _, _ => none
 | k + 1, x0, x10, x42 => if x42 = true then (some false) else ((laws_toTypeS.f k x0).bind fun t325 => ((laws_eqTypeS.f k x10 t325).bind fun t328 => (if t328 = true then (some true) else (some false))))
def laws_FnExactUnified.f (k : Nat) (l0 : List (S99)) (a1 : Int) (a2 : Int) : Option (Bool) := (laws_szTypeS.f l0 1048576).bind fun t314 => (if t314 < 0 then (some true) else ((laws_toTypeS.f k l0).bind fun t315 => ((spec_Unified.f k t315 a1 a2).bind fun bt318 => ((laws_toTypeS.f k l0).bind fun t320 => ((impl_Unified.f k t320 a1 a2).bind fun bt323 => (if bt323.1.toList = bt318.1.toList then (laws_FnExactUnified.j0 k l0 t320 (bt323.2 != bt318.2)) else (laws_FnExactUnified.j0 k l0 t320 true)))))))
theorem laws_FnExactUnified.mono_l : ∀ k, (∀ y0 y1 y2, LeO (laws_FnExactUnified.j0 k y0 y1 y2) (laws_FnExactUnified.j0 (k + 1) y0 y1 y2))
 | 0 => fun _ _ _ r h => by simp [laws_FnExactUnified.j0] at h
 | k + 1 => by
  have ih0 := laws_FnExactUnified.mono_l k
  ·intro y0 y1 y2
   unfold laws_FnExactUnified.j0
   with_reducible repeat' first | exact ih0 _ _ _ | exact impl_Unified.mono _ _ _ _ | exact laws_eqTypeS.mono _ _ _ | exact laws_toTypeS.mono _ _ | exact spec_Unified.mono _ _ _ _ | exact lrz _ | exact lnz _ | refine liz ?_ ?_ | refine lbz ?_ fun _ => ?_
theorem laws_FnExactUnified.mono : ∀ a0 a1 a2 k, LeO (laws_FnExactUnified.f k a0 a1 a2) (laws_FnExactUnified.f (k + 1) a0 a1 a2) := by
 intro a0 a1 a2 k
 have ih0 := laws_FnExactUnified.mono_l k
 unfold laws_FnExactUnified.f
 with_reducible repeat' first | exact ih0 _ _ _ | exact impl_Unified.mono _ _ _ _ | exact laws_eqTypeS.mono _ _ _ | exact laws_toTypeS.mono _ _ | exact spec_Unified.mono _ _ _ _ | exact lrz _ | exact lnz _ | refine liz ?_ ?_ | refine lbz ?_ fun _ => ?_
set_option maxHeartbeats 8000000 in
set_option maxRecDepth 100000 in
theorem laws_FnExactUnified.calls (k : Nat) (A0 : Option Addr) (c0 : Nat) (l0 : List (S99)) (a1 : Int) (a2 : Int) (r : Bool) (w : World) (hr0 : Kd.C k99 w A0 l0.length l0) (hc0 : l0.length <= c0) (h : laws_FnExactUnified.f k l0 a1 a2 = some r) (hT_ : PW w) :
  Calls Tryd.prog 8 #[.slice A0 l0.length c0, .int .i64 a1, .int .i64 a2] w fun e w' => e = .returned (.bool r) /\ Below w.heap.size w w' := by
 have HR0 := Aside0.mk hr0
 have HC0 := Aside0.mk hc0
 clear hr0 hc0
 have HB := Aside0.mk (Below.refl w.heap.size w)
 have H : ((laws_szTypeS.f l0 1048576).bind fun t314 => (if t314 < 0 then (some true) else ((laws_toTypeS.f k l0).bind fun t315 => ((spec_Unified.f k t315 a1 a2).bind fun bt318 => ((laws_toTypeS.f k l0).bind fun t320 => ((impl_Unified.f k t320 a1 a2).bind fun bt323 => (if bt323.1.toList = bt318.1.toList then (laws_FnExactUnified.j0 k l0 t320 (bt323.2 != bt318.2)) else (laws_FnExactUnified.j0 k l0 t320 true)))))))) = some r := h
 clear h
 replace H := bi H
 obtain ⟨t314, A40, H⟩ := H
 try dsimp only at H
 have A4 := Aside0.mk A40
 clear A40
 by_cases c5 : t314 < 0
 ·rw [if_pos c5] at H
  have c5b0 := decide_eq_true c5
  clear c5
  obtain rfl := Option.some.inj H
  go_enter Tryd.func8, Tryd.ntmps8
  go_wp2_with (first | ((with_reducible refine gate_callee (f := 25) rfl ?_); refine goesL_ (some 15) rfl rfl Tryd.func25 (by kernel_rfl) rfl #[.slice A0 l0.length c0, .int .i64 1048576] rfl lz ?_; (with_reducible refine (laws_szTypeS.calls _ _ l0 1048576 t314 _ ?side1 ?side2 A4.out).mono ?_); (case side1 => repeat (first | exact HR0.out | (with_reducible refine Kd.C_alloc ?_ _) | (with_reducible refine Kd.C_drewN ?_ _) | (with_reducible refine Kd.C_drew ?_))); (case side2 => exact HC0.out); rintro e w' ⟨rfl, ⟨nd, rfl⟩⟩; refine ⟨_, rfl, ?_⟩))
  go_ret
  exact ⟨gz, (bz0 HB.out)⟩
 ·rw [if_neg c5] at H
  have c5b0 := decide_eq_false c5
  clear c5
  replace H := bi H
  obtain ⟨t315, A60, H⟩ := H
  try dsimp only at H
  have A6 := Aside0.mk A60
  clear A60
  replace H := bi H
  obtain ⟨⟨t318, t319⟩, A70, H⟩ := H
  try dsimp only at H
  have A7 := Aside0.mk A70
  clear A70
  replace H := bi H
  obtain ⟨t320, A80, H⟩ := H
  try dsimp only at H
  have A8 := Aside0.mk A80
  clear A80
  replace H := bi H
  obtain ⟨⟨t323, t324⟩, A90, H⟩ := H
  try dsimp only at H
  have A9 := Aside0.mk A90
  clear A90
  have HC10 := Aside0.mk H
  clear H
  go_enter Tryd.func8, Tryd.ntmps8
  go_upto_region 8 with (first | ((with_reducible refine gate_callee (f := 25) rfl ?_); refine goesL_ (some 15) rfl rfl Tryd.func25 (by kernel_rfl) rfl #[.slice A0 l0.length c0, .int .i64 1048576] rfl lz ?_; (with_reducible refine (laws_szTypeS.calls _ _ l0 1048576 t314 _ ?side1 ?side2 A4.out).mono ?_); (case side1 => repeat (first | exact HR0.out | (with_reducible refine Kd.C_alloc ?_ _) | (with_reducible refine Kd.C_drewN ?_ _) | (with_reducible refine Kd.C_drew ?_))); (case side2 => exact HC0.out); rintro e w' ⟨rfl, ⟨nd, rfl⟩⟩; refine ⟨_, rfl, ?_⟩) | ((with_reducible refine gate_callee (f := 27) rfl ?_); refine goesL_ (some 20) rfl rfl Tryd.func27 (by kernel_rfl) rfl #[.slice A0 l0.length c0] rfl lz ?_; (with_reducible refine (laws_toTypeS.calls k _ _ l0 t315 _ ?side1 ?side2 A6.out).mono ?_); (case side1 => repeat (first | exact HR0.out | (with_reducible refine Kd.C_alloc ?_ _) | (with_reducible refine Kd.C_drewN ?_ _) | (with_reducible refine Kd.C_drew ?_))); (case side2 => exact HC0.out); rintro e w11 ⟨v316, rfl, ho0, hb⟩; refine ⟨_, rfl, ?_⟩; have HO317 := Aside0.mk (Kd.R_lower ho0 (below_size (bz0 HB.out))); replace HB := Aside0.mk (below_step (bz0 HB.out) hb); (try clear hb); (try clear ho0); obtain ⟨Ao12, co12, eo12⟩ := Kd.R_slice HO317.out; subst eo12) | ((with_reducible refine gate_callee (f := 36) rfl ?_); refine goesL_ (some 23) rfl rfl Tryd.func36 (by kernel_rfl) rfl #[.slice Ao12 t315.length co12, .int .i64 a1, .int .i64 a2] rfl lz ?_; (with_reducible refine (spec_Unified.calls k _ _ t315 a1 a2 t318 t319 _ ?side1 ?side2 A7.out).mono ?_); (case side1 => exact cz (Kd.R_reads' HO317.out).2.2); (case side2 => exact (Kd.R_reads' HO317.out).2.1); rintro e w13 ⟨rfl, hb⟩; refine ⟨_, rfl, ?_⟩; replace HO317 := qz HO317 hb; replace HB := Aside0.mk (below_step (bz0 HB.out) hb); (try clear hb); (try clear hi)) | ((with_reducible refine gate_callee (f := 27) rfl ?_); refine goesL_ (some 27) rfl rfl Tryd.func27 (by kernel_rfl) rfl #[.slice A0 l0.length c0] rfl lz ?_; (with_reducible refine (laws_toTypeS.calls k _ _ l0 t320 _ ?side1 ?side2 A8.out).mono ?_); (case side1 => exact cz (Kd.C_below HR0.out HB.out)); (case side2 => exact HC0.out); rintro e w14 ⟨v321, rfl, ho0, hb⟩; refine ⟨_, rfl, ?_⟩; have HO322 := Aside0.mk (Kd.R_lower (Kd.R_new' ho0 (Kd.R_lt (rz HO317.out))) (below_size (bz0 HB.out))); replace HO317 := Aside0.mk (Kd.R_elder' (rz HO317.out) (Kd.R_base ho0) hb); replace HB := Aside0.mk (below_step (bz0 HB.out) hb); (try clear hb); (try clear ho0); obtain ⟨Ao15, co15, eo15⟩ := Kd.R_slice HO322.out; subst eo15) | ((with_reducible refine gate_callee (f := 30) rfl ?_); refine goesL_ (some 32) rfl rfl Tryd.func30 (by kernel_rfl) rfl #[.slice Ao15 t320.length co15, .int .i64 a1, .int .i64 a2] rfl lz ?_; (with_reducible refine (impl_Unified.calls k _ _ t320 a1 a2 t323 t324 _ ?side1 ?side2 A9.out ?hT_).mono ?_); (case hT_ => exact PW.below hT_ (bz0 HB.out)); (case side1 => exact cz (Kd.R_reads' HO322.out).2.2); (case side2 => exact (Kd.R_reads' HO322.out).2.1); rintro e w16 ⟨rfl, hb⟩; refine ⟨_, rfl, ?_⟩; replace HO317 := qz HO317 hb; replace HO322 := qz HO322 hb; replace HB := Aside0.mk (below_step (bz0 HB.out) hb); (try clear hb); (try clear hi)))
  (try simp only [Act.put, sz1, sz2, sz3])
  go_cut [42] (fun v42 wc => ∃ (kq : Nat) (x42_9 : Bool), v42 = .bool x42_9 /\ Aside0 (laws_FnExactUnified.j0 kq l0 t320 x42_9 = some r) /\ Aside0 (kq <= k) /\ Aside0 (Kd.R k55 55 wc w.heap.size (fun _ => True) (.slice Ao15 t320.length co15) t320) /\ Aside0 (Below w.heap.size w wc))
  case first =>
   have H := HC10.out
   clear HC10
   by_cases c17 : t323.toList = t318.toList
   ·rw [if_pos c17] at H
    have c17b0 : (t323.toList == t318.toList) = true := beq_iff_eq.mpr c17
    have c17b1 : (t323.toList != t318.toList) = false := bne_eq_false_iff_eq.mpr c17
    clear c17
    (first | rw [c17b0] | (simp only [i64_w, i32_w]; rw [c17b0]) | skip)
    have H' := Aside0.mk H
    clear H
    go_wp2
    go_meet
    case rel => exact ⟨_, ((t324 != t319)), ez, H', ⟨by first | omega | exact Nat.le_refl _⟩, ⟨by refine rq ?_; exact Kd.R_mono HO322.out (fun _ hk => trivial)⟩, ⟨(bz0 HB.out)⟩⟩
   ·rw [if_neg c17] at H
    have c17b0 : (t323.toList == t318.toList) = false := beq_eq_false_iff_ne.mpr c17
    have c17b1 : (t323.toList != t318.toList) = true := bne_iff_ne.mpr c17
    (first | rw [c17b0] | (simp only [i64_w, i32_w]; rw [c17b0]) | skip)
    have H' := Aside0.mk H
    clear H
    go_wp2
    go_meet
    case rel => exact ⟨_, (true), ez, H', ⟨by first | omega | exact Nat.le_refl _⟩, ⟨by refine rq ?_; exact Kd.R_mono HO322.out (fun _ hk => trivial)⟩, ⟨(bz0 HB.out)⟩⟩
  case rest =>
   clear HC10
   try clear c1
   try clear c2
   try clear p2
   try clear c3
   try clear c5
   try clear c5b0
   try clear c8
   try clear c17
   try clear c17b0
   try clear c17b1
   obtain ⟨kq, x42_9, rfl, HA, HJ9, HO_10, HB⟩ := hcut
   cases kq with
   | zero => exact absurd HA.out (by simp [laws_FnExactUnified.j0])
   | succ kj9 =>
    have H := HA.out
    clear HA
    simp only [laws_FnExactUnified.j0] at H
    by_cases c18 : x42_9 = true
    ·subst c18
     have H1 := hp H
     clear H
     have H := H1
     clear H1
     obtain rfl := Option.some.inj H
     go_wp2
     go_ret
     exact ⟨gz, (bz0 HB.out)⟩
    ·replace c18 := Bool.eq_false_iff.mpr c18
     subst c18
     have H1 := hq H
     clear H
     have H := H1
     clear H1
     replace H := bi H
     obtain ⟨t325, A190, H⟩ := H
     try dsimp only at H
     have A19 := Aside0.mk A190
     clear A190
     replace H := bi H
     obtain ⟨t328, A200, H⟩ := H
     try dsimp only at H
     have A20 := Aside0.mk A200
     clear A200
     by_cases c21 : t328 = true
     ·subst c21
      have H1 := hp H
      clear H
      have H := H1
      clear H1
      obtain rfl := Option.some.inj H
      go_wp2_with (first | ((with_reducible refine gate_callee (f := 27) rfl ?_); refine goesL_ (some 45) rfl rfl Tryd.func27 (by kernel_rfl) rfl #[.slice A0 l0.length c0] rfl lz ?_; (with_reducible refine (laws_toTypeS.calls kj9 _ _ l0 t325 _ ?side1 ?side2 A19.out).mono ?_); (case side1 => exact cz (Kd.C_below HR0.out HB.out)); (case side2 => exact HC0.out); rintro e w22 ⟨v326, rfl, ho0, hb⟩; refine ⟨_, rfl, ?_⟩; have HO327 := Aside0.mk (Kd.R_lower (Kd.R_new' ho0 (Kd.R_lt (rz HO_10.out))) (below_size (bz0 HB.out))); replace HO_10 := Aside0.mk (Kd.R_elder' (rz HO_10.out) (Kd.R_base ho0) hb); replace HB := Aside0.mk (below_step (bz0 HB.out) hb); (try clear hb); (try clear ho0); obtain ⟨Ao23, co23, eo23⟩ := Kd.R_slice HO327.out; subst eo23) | ((with_reducible refine gate_callee (f := 28) rfl ?_); refine goesL_ (some 46) rfl rfl Tryd.func28 (by kernel_rfl) rfl #[.slice Ao15 t320.length co15, .slice Ao23 t325.length co23] rfl lz ?_; (with_reducible refine (laws_eqTypeS.calls kj9 _ _ t320 _ _ t325 true _ ?side1 ?side2 ?side3 ?side4 A20.out).mono ?_); (case side1 => exact cz (Kd.R_reads' HO_10.out).2.2); (case side2 => exact (Kd.R_reads' HO_10.out).2.1); (case side3 => exact cz (Kd.R_reads' HO327.out).2.2); (case side4 => exact (Kd.R_reads' HO327.out).2.1); rintro e w24 ⟨rfl, hb⟩; refine ⟨_, rfl, ?_⟩; replace HO_10 := qz HO_10 hb; replace HO327 := qz HO327 hb; replace HB := Aside0.mk (below_step (bz0 HB.out) hb); (try clear hb); (try clear hi)))
      go_ret
      exact ⟨gz, (bz0 HB.out)⟩
     ·replace c21 := Bool.eq_false_iff.mpr c21
      subst c21
      have H1 := hq H
      clear H
      have H := H1
      clear H1
      obtain rfl := Option.some.inj H
      go_wp2_with (first | ((with_reducible refine gate_callee (f := 27) rfl ?_); refine goesL_ (some 45) rfl rfl Tryd.func27 (by kernel_rfl) rfl #[.slice A0 l0.length c0] rfl lz ?_; (with_reducible refine (laws_toTypeS.calls kj9 _ _ l0 t325 _ ?side1 ?side2 A19.out).mono ?_); (case side1 => exact cz (Kd.C_below HR0.out HB.out)); (case side2 => exact HC0.out); rintro e w25 ⟨v326, rfl, ho0, hb⟩; refine ⟨_, rfl, ?_⟩; have HO327 := Aside0.mk (Kd.R_lower (Kd.R_new' ho0 (Kd.R_lt (rz HO_10.out))) (below_size (bz0 HB.out))); replace HO_10 := Aside0.mk (Kd.R_elder' (rz HO_10.out) (Kd.R_base ho0) hb); replace HB := Aside0.mk (below_step (bz0 HB.out) hb); (try clear hb); (try clear ho0); obtain ⟨Ao26, co26, eo26⟩ := Kd.R_slice HO327.out; subst eo26) | ((with_reducible refine gate_callee (f := 28) rfl ?_); refine goesL_ (some 46) rfl rfl Tryd.func28 (by kernel_rfl) rfl #[.slice Ao15 t320.length co15, .slice Ao26 t325.length co26] rfl lz ?_; (with_reducible refine (laws_eqTypeS.calls kj9 _ _ t320 _ _ t325 false _ ?side1 ?side2 ?side3 ?side4 A20.out).mono ?_); (case side1 => exact cz (Kd.R_reads' HO_10.out).2.2); (case side2 => exact (Kd.R_reads' HO_10.out).2.1); (case side3 => exact cz (Kd.R_reads' HO327.out).2.2); (case side4 => exact (Kd.R_reads' HO327.out).2.1); rintro e w27 ⟨rfl, hb⟩; refine ⟨_, rfl, ?_⟩; replace HO_10 := qz HO_10 hb; replace HO327 := qz HO327 hb; replace HB := Aside0.mk (below_step (bz0 HB.out) hb); (try clear hb); (try clear hi)))
      go_ret
      exact ⟨gz, (bz0 HB.out)⟩
end Go.Proofs.YtlhofeikcaejpaaDoor.PFnExactUnified
