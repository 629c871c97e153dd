/- PFnExactCanonx17, of the words and walks that the law FnExactCanon needs; made by this session's program out of printed texts. -/

import Derived.Test.YtmilegjmiiccdaaDoorVECanonPx0
import Derived.Test.YtmilegjmiiccdaaDoorVECanonPx16
namespace Go.Proofs.YtmilegjmiiccdaaDoor.PFnExactCanon
open Go.RowKit Go.Proofs.YtmilegjmiiccdaaDoorW.PrintWords Go.Proofs.YtmilegjmiiccdaaDoorW.PrintLast Go.Proofs.YtmilegjmiiccdaaDoorW.PrintMore
attribute [local go_sem] max2_int min2_int max_two min_two max_three min_three max_four min_four
set_option linter.unusedVariables false
set_option linter.unusedSimpArgs false
def impl_sorted.l0 : Nat -> List ByteArray -> List ByteArray -> List ByteArray -> Int -> Int -> Option (List ByteArray × List ByteArray)
 | 0, _, _, _, _, _ => none
 | k + 1, x0, x3, x8, x9, x10 => if x10 < x9 then (if 0 <= x10 then (if x10 < (x8.length : Int) then (if x10 = 0 then (if x3.length < 8796093022208 then (impl_sorted.l0 k x0 (x3 ++ [rdOf ByteArray.empty x8 x10]) x8 x9 (wrap64 (x10 + 1))) else (none)) else (if 0 <= (wrap64 (x10 - 1)) then (if (wrap64 (x10 - 1)) < (x0.length : Int) then (if (rdOf ByteArray.empty x0 (wrap64 (x10 - 1))).toList = (rdOf ByteArray.empty x8 x10).toList then (impl_sorted.l0 k x0 x3 x8 x9 (wrap64 (x10 + 1))) else (if x3.length < 8796093022208 then (impl_sorted.l0 k x0 (x3 ++ [rdOf ByteArray.empty x8 x10]) x8 x9 (wrap64 (x10 + 1))) else (none))) else (none)) else (none))) else (none)) else (none)) else (some (x3, x0))
def impl_sorted.f (k : Nat) (l0 : List ByteArray) : Option (List ByteArray × List ByteArray) := (sort_Strings.f l0).bind fun t438 => (impl_sorted.l0 k t438 ([] : List ByteArray) t438 (l0.length : Int) 0)
theorem impl_sorted.mono_l : ∀ k, (∀ y0 y1 y2 y3 y4, LeO (impl_sorted.l0 k y0 y1 y2 y3 y4) (impl_sorted.l0 (k + 1) y0 y1 y2 y3 y4))
 | 0 => fun _ _ _ _ _ r h => by simp [impl_sorted.l0] at h
 | k + 1 => by
  have ih0 := impl_sorted.mono_l k
  ·intro y0 y1 y2 y3 y4
   unfold impl_sorted.l0
   with_reducible repeat' first | exact ih0 _ _ _ _ _ | exact lrz _ | exact lnz _ | refine liz ?_ ?_ | refine lbz ?_ fun _ => ?_
theorem impl_sorted.mono : ∀ a0 k, LeO (impl_sorted.f k a0) (impl_sorted.f (k + 1) a0) := by
 intro a0 k
 have ih0 := impl_sorted.mono_l k
 unfold impl_sorted.f
 with_reducible repeat' first | exact ih0 _ _ _ _ _ | exact lrz _ | exact lnz _ | refine liz ?_ ?_ | refine lbz ?_ fun _ => ?_
set_option maxHeartbeats 8000000 in
set_option maxRecDepth 100000 in
theorem impl_sorted.calls (k : Nat) (P0_ : Nat -> Prop) (u9000_ : Value) (l0 : List ByteArray) (r1 : List ByteArray) (r2 : List ByteArray) (w0 w : World) (hB : Below w0.heap.size w0 w) (ho0 : Kd.R Kd.string 9 w w0.heap.size P0_ u9000_ l0) (h : impl_sorted.f k l0 = some (r1, r2)) :
  Calls Tryd.prog 47 #[u9000_] w fun e w' => ∃ v0_ : Value, e = .returned (v0_) /\ Kd.R Kd.string 9 w' w0.heap.size (fun k_ => (P0_ k_ \/ w.heap.size <= k_) /\ some k_ ≠ (u9000_ : Value).ownBlock) v0_ r1 /\ Kd.R Kd.string 9 w' w0.heap.size (fun k_ => (P0_ k_ \/ w.heap.size <= k_)) u9000_ r2 /\ Below w0.heap.size w0 w' /\ Kept w w' (fun k_ => P0_ k_) := by
 have HO0 := Aside0.mk (show Kd.R Kd.string 9 w w0.heap.size (fun k_ => (P0_ k_ \/ w.heap.size <= k_)) u9000_ l0 from Kd.R_mono ho0 (fun k_ hk => (.inl hk)))
 have HK := Aside0.mk (Kept.refl w (fun k_ => P0_ k_))
 have HW0 := Aside0.mk hB.size
 have HB := Aside0.mk hB
 clear hB
 have H : ((sort_Strings.f l0).bind fun t438 => (impl_sorted.l0 k t438 ([] : List ByteArray) t438 (l0.length : Int) 0)) = some (r1, r2) := h
 clear h
 replace H := bi H
 obtain ⟨t438, A20, H⟩ := H
 try dsimp only at H
 have A2 := Aside0.mk A20
 clear A20
 have H' := Aside0.mk H
 clear H
 obtain ⟨Ao3, co3, eo3⟩ := Kd.R_slice HO0.out
 subst eo3
 go_enter Tryd.func47, Tryd.ntmps47
 go_wp2_with (first | ((with_reducible refine gate_callee (f := 76) rfl ?_); refine goesL_ (some 7) rfl rfl Tryd.func76 (by kernel_rfl) rfl #[.slice Ao3 l0.length co3] rfl lz ?_; (with_reducible refine (sort_Strings.calls (fun k_ => some k_ = (.slice Ao3 l0.length co3 : Value).ownBlock) (.slice Ao3 l0.length co3) l0 t438 w0 _ ?side1 ?side2 A2.out).mono ?_); (case side1 => repeat (first | (with_reducible first | exact HB.out | apply below_alloc | apply pw_below_drewN | apply below_drew1) | exact HB.out)); (case side2 => exact Kd.R_tight rfl HO0.out); rintro e w4 ⟨rfl, hy0, hb, hkp⟩; refine ⟨_, rfl, ?_⟩; replace HK := Aside0.mk (Kept.then_ (S := (fun k_ => P0_ k_)) (by repeat (first | (with_reducible first | exact HK.out | apply Kept.alloc | apply Kept.drewN | apply Kept.drew) | exact HK.out)) hkp (fun k_ hs_ => (fun e_ => (HO0.out.1 k_ e_.symm)) hs_)); replace HO0 := Aside0.mk (Kd.R_reok rfl hy0 (fun k_ e_ => HO0.out.1 k_ e_)); replace HB := Aside0.mk (hb); (try clear hb); (try clear hkp); (try clear hy0)))
 go_loopg [3, 10] k (fun kq v3 v10 w' => ∃ (x3_1 : List ByteArray) (x10_1 : Int), v10 = .int .i64 x10_1 /\ Aside0 (impl_sorted.l0 kq t438 x3_1 t438 (l0.length : Int) x10_1 = some (r1, r2)) /\ Aside0 (kq <= k) /\ Aside0 (Kd.R Kd.string 9 w' w0.heap.size (fun k_ => (P0_ k_ \/ w.heap.size <= k_) /\ some k_ ≠ (v3 : Value).ownBlock) (.slice Ao3 l0.length co3) t438) /\ Aside0 (Kd.R Kd.string 9 w' w0.heap.size (fun k_ => (P0_ k_ \/ w.heap.size <= k_) /\ some k_ ≠ ((.slice Ao3 l0.length co3) : Value).ownBlock /\ some k_ ≠ ((.slice Ao3 l0.length co3) : Value).ownBlock) v3 x3_1) /\ Aside0 (Kd.R Kd.string 9 w' w0.heap.size (fun k_ => (P0_ k_ \/ w.heap.size <= k_) /\ some k_ ≠ (v3 : Value).ownBlock) (.slice Ao3 l0.length co3) t438) /\ Aside0 (Kept w w' (fun k_ => P0_ k_)) /\ Aside0 (Below w0.heap.size w0 w'))
 case atStart => exact ⟨(([] : List ByteArray)), (0), ez, H', ⟨Nat.le_refl _⟩, ⟨by refine rq ?_; exact Kd.R_mono HO0.out (fun _ hk => ⟨hk, (by simp [Value.ownBlock])⟩)⟩, ⟨by first | exact Kd.R_nil _ _ _ _ _ | exact Kd.N_nil _ _ _ _ _ | exact Kd.V_nil _ _ _ _ _ | exact Kd.Q_nil _ _ _ _ _ | exact Kd.S_nil _ _ _ _ _⟩, ⟨by refine rq ?_; exact Kd.R_mono HO0.out (fun _ hk => ⟨hk, (by simp [Value.ownBlock])⟩)⟩, ⟨by repeat (first | (with_reducible first | exact HK.out | apply Kept.alloc | apply Kept.drewN | apply Kept.drew) | exact HK.out)⟩, ⟨(bz0 HB.out)⟩⟩
 case round =>
  clear H'
  try clear p2
  try clear c4
  obtain ⟨x3_1, x10_1, rfl, HA, HK1, HO_0, HO_3, HO_8, HK, HB⟩ := hrel
  have hl0_1 := (Kd.R_reads' HO_0.out).1
  rw [hl0_1] at HO_0
  (try simp only [hl0_1])
  (try simp only [hl0_1] at HO_3)
  (try simp only [hl0_1] at HO_8)
  have hl8_1 := (Kd.R_reads' HO_8.out).1
  rw [hl8_1] at HO_8
  (try simp only [hl8_1])
  (try simp only [hl8_1] at HO_0)
  (try simp only [hl8_1] at HO_3)
  cases gk with
  | zero => exact absurd HA.out (by simp [impl_sorted.l0])
  | succ k1 =>
   have H := HA.out
   clear HA
   simp only [impl_sorted.l0] at H
   by_cases c5 : x10_1 < (l0.length : Int)
   ·rw [if_pos c5] at H
    have c5b0 := decide_eq_true c5
    (try (have c5b0z := c5b0; simp only [hl0_1] at c5b0z))
    (try (have c5b0z1 := c5b0; simp only [hl8_1] at c5b0z1))
    clear c5
    replace H := iz H
    obtain ⟨c6, H⟩ := H
    have c6b0 := decide_eq_true c6
    clear c6
    replace H := iz H
    obtain ⟨c7, H⟩ := H
    have c7b0 := decide_eq_true c7
    clear c7
    by_cases c8 : x10_1 = 0
    ·rw [if_pos c8] at H
     have c8b0 : (x10_1 == 0) = true := beq_iff_eq.mpr c8
     have c8b1 : (x10_1 != 0) = false := bne_eq_false_iff_eq.mpr c8
     clear c8
     replace H := iz H
     obtain ⟨c9, H⟩ := H
     have LMc9 := Aside0.mk c9
     clear c9
     obtain ⟨y440, hy440⟩ : ∃ y_ : List ByteArray, y_ = (x3_1 ++ [rdOf ByteArray.empty t438 x10_1]) := ⟨_, rfl⟩
     replace H : (impl_sorted.l0 k1 t438 y440 t438 (l0.length : Int) (wrap64 (x10_1 + 1))) = some (r1, r2) := yz hy440 H
     have Ny440 := Aside0.mk hy440
     clear hy440
     have H' := Aside0.mk H
     clear H
     have p439 : 0 <= (x10_1 : Int) := oz
     have q439 : x10_1 < (t438.length : Int) := oz
     obtain ⟨ad439, e439, hx439_0⟩ := Kd.at_string (Kd.R_reads' HO_8.out).2.2 x10_1 p439 q439
     cases e439
     replace p439 := eq_true p439
     replace q439 := eq_true q439
     go_wp2_with (first | ((with_reducible refine gate_builtin (b := .append) (xs := #[.tmp 26, .tmp 28]) rfl ?_); at_builtin; refine Kd.R_append Kd.string (w0 := w0) w0.heap.size rfl (.tmp 26) (.tmp 28) 32 9 (.string ⟨#[]⟩) 16 rfl Tryd.underlying32 info9 rfl (by decide) (by omega) u3 x3_1 (rdOf ByteArray.empty t438 x10_1) [.string (rdOf ByteArray.empty t438 x10_1)] (fun k_ => (P0_ k_ \/ w.heap.size <= k_) /\ some k_ ≠ (.slice (some ad439) t438.length co3 : Value).ownBlock /\ some k_ ≠ (.slice (some ad439) t438.length co3 : Value).ownBlock) (fun _ => False) rfl rfl ?aP (fun _ hk => hk.elim) ?aF ?aO ?aB ?aS ?aL ?_; (case aP => exact rfl); (case aB => exact (bz0 HB.out)); (case aF => exact (fun k_ hk => ⟨(.inr (Nat.le_trans (by first | exact HK.out.1 | exact (show Kept w _ (fun k_ => P0_ k_) from by repeat (first | (with_reducible first | exact HK.out | apply Kept.alloc | apply Kept.drewN | apply Kept.drew) | exact HK.out)).1) hk)), Kd.fresh' (Kd.R_lt (rz HO_0.out)) k_ hk, Kd.fresh' (Kd.R_lt (rz HO_8.out)) k_ hk⟩)); (case aO => exact (rz HO_3.out)); (case aS => exact (below_size (bz0 HB.out))); (case aL => have := LMc9.out; omega); intro v441 w10 ho hb hg hat; rw [<- Ny440.out] at ho; have n0_ := Aside0.mk (Kd.R_after (ok := (fun k_ => (P0_ k_ \/ w.heap.size <= k_))) (rz HO_0.out) hg hat); have n1_ := Aside0.mk (Kd.R_after (ok := (fun k_ => (P0_ k_ \/ w.heap.size <= k_))) (rz HO_8.out) hg hat); have n2_ := Aside0.mk (hb); have n3_ := Aside0.mk (Kept.of_grown (S := (fun k_ => P0_ k_)) hg (by repeat (first | (with_reducible first | exact HK.out | apply Kept.alloc | apply Kept.drewN | apply Kept.drew) | exact HK.out)) (fun k_ e_ => (HO_3.out.1 k_ e_).1)); have n4_ := Aside0.mk (ho); clear HO_0; clear HO_8; clear HB; clear HK; clear HO_3; have HO_0 := n0_; have HO_8 := n1_; have HB := n2_; have HK := n3_; have HO442 := n4_; clear n0_ n1_ n2_ n3_ n4_; clear ho hb hg hat))
     (first | simp only [<- hl0_1, <- hl8_1] | simp only [<- hl0_1] | simp only [<- hl8_1] | skip)
     go_roundg k1
     case measure => have := HK1.out; omega
     case rel => exact ⟨(y440), (wrap64 (x10_1 + 1)), ez, H', ⟨by have := HK1.out; omega⟩, ⟨by (try simp only [hl0_1]); (try simp only [hl8_1]); refine rq ?_; exact HO_0.out⟩, ⟨by (try simp only [hl0_1]); (try simp only [hl8_1]); refine rq ?_; exact HO442.out⟩, ⟨by (try simp only [hl0_1]); (try simp only [hl8_1]); refine rq ?_; exact HO_8.out⟩, ⟨by repeat (first | (with_reducible first | exact HK.out | apply Kept.alloc | apply Kept.drewN | apply Kept.drew) | exact HK.out)⟩, ⟨(bz0 HB.out)⟩⟩
    ·rw [if_neg c8] at H
     have c8b0 : (x10_1 == 0) = false := beq_eq_false_iff_ne.mpr c8
     have c8b1 : (x10_1 != 0) = true := bne_iff_ne.mpr c8
     obtain ⟨ji11, hji11⟩ : ∃ j_ : Int, (wrap64 (x10_1 - 1)) = j_ := ⟨_, rfl⟩
     replace H : (if 0 <= (ji11) then (if (ji11) < (t438.length : Int) then (if (rdOf ByteArray.empty t438 (ji11)).toList = (rdOf ByteArray.empty t438 x10_1).toList then (impl_sorted.l0 k1 t438 x3_1 t438 (l0.length : Int) (wrap64 (x10_1 + 1))) else (if x3_1.length < 8796093022208 then (impl_sorted.l0 k1 t438 (x3_1 ++ [rdOf ByteArray.empty t438 x10_1]) t438 (l0.length : Int) (wrap64 (x10_1 + 1))) else (none))) else (none)) else (none)) = some (r1, r2) := by first | (rw [hji11] at H; exact H) | (simp only [hji11] at H ⊢; exact H)
     have hji11w : (IntKind.i64.wrap (x10_1 - 1)) = ji11 := (i64_w _).trans hji11
     replace H := iz H
     obtain ⟨c12, H⟩ := H
     have c12b0 := decide_eq_true c12
     clear c12
     replace H := iz H
     obtain ⟨c13, H⟩ := H
     have c13b0 := decide_eq_true c13
     clear c13
     by_cases c14 : (rdOf ByteArray.empty t438 (ji11)).toList = (rdOf ByteArray.empty t438 x10_1).toList
     ·rw [if_pos c14] at H
      have c14b0 : ((rdOf ByteArray.empty t438 (ji11)).toList == (rdOf ByteArray.empty t438 x10_1).toList) = true := beq_iff_eq.mpr c14
      have c14b1 : ((rdOf ByteArray.empty t438 (ji11)).toList != (rdOf ByteArray.empty t438 x10_1).toList) = false := bne_eq_false_iff_eq.mpr c14
      clear c14
      have H' := Aside0.mk H
      clear H
      have p439 : 0 <= (x10_1 : Int) := oz
      have q439 : x10_1 < (t438.length : Int) := oz
      obtain ⟨ad439, e439, hx439_0⟩ := Kd.at_string (Kd.R_reads' HO_8.out).2.2 x10_1 p439 q439
      cases e439
      replace p439 := eq_true p439
      replace q439 := eq_true q439
      have p443 : 0 <= ((ji11) : Int) := oz
      have q443 : (ji11) < (t438.length : Int) := oz
      obtain ⟨ad443, e443, hx443_0⟩ := Kd.at_string (Kd.R_reads' HO_0.out).2.2 (ji11) p443 q443
      obtain rfl : ad439 = ad443 := (by injection e443)
      replace p443 := eq_true p443
      replace q443 := eq_true q443
      go_wp2
      (first | simp only [<- hl0_1, <- hl8_1] | simp only [<- hl0_1] | simp only [<- hl8_1] | skip)
      go_roundg k1
      case measure => have := HK1.out; omega
      case rel => exact ⟨(x3_1), (wrap64 (x10_1 + 1)), ez, H', ⟨by have := HK1.out; omega⟩, ⟨by (try simp only [hl0_1]); (try simp only [hl8_1]); refine rq ?_; exact HO_0.out⟩, ⟨by (try simp only [hl0_1]); (try simp only [hl8_1]); refine rq ?_; exact HO_3.out⟩, ⟨by (try simp only [hl0_1]); (try simp only [hl8_1]); refine rq ?_; exact HO_8.out⟩, ⟨by repeat (first | (with_reducible first | exact HK.out | apply Kept.alloc | apply Kept.drewN | apply Kept.drew) | exact HK.out)⟩, ⟨(bz0 HB.out)⟩⟩
     ·rw [if_neg c14] at H
      have c14b0 : ((rdOf ByteArray.empty t438 (ji11)).toList == (rdOf ByteArray.empty t438 x10_1).toList) = false := beq_eq_false_iff_ne.mpr c14
      have c14b1 : ((rdOf ByteArray.empty t438 (ji11)).toList != (rdOf ByteArray.empty t438 x10_1).toList) = true := bne_iff_ne.mpr c14
      replace H := iz H
      obtain ⟨c15, H⟩ := H
      have LMc15 := Aside0.mk c15
      clear c15
      obtain ⟨y444, hy444⟩ : ∃ y_ : List ByteArray, y_ = (x3_1 ++ [rdOf ByteArray.empty t438 x10_1]) := ⟨_, rfl⟩
      replace H : (impl_sorted.l0 k1 t438 y444 t438 (l0.length : Int) (wrap64 (x10_1 + 1))) = some (r1, r2) := yz hy444 H
      have Ny444 := Aside0.mk hy444
      clear hy444
      have H' := Aside0.mk H
      clear H
      have p439 : 0 <= (x10_1 : Int) := oz
      have q439 : x10_1 < (t438.length : Int) := oz
      obtain ⟨ad439, e439, hx439_0⟩ := Kd.at_string (Kd.R_reads' HO_8.out).2.2 x10_1 p439 q439
      cases e439
      replace p439 := eq_true p439
      replace q439 := eq_true q439
      have p443 : 0 <= ((ji11) : Int) := oz
      have q443 : (ji11) < (t438.length : Int) := oz
      obtain ⟨ad443, e443, hx443_0⟩ := Kd.at_string (Kd.R_reads' HO_0.out).2.2 (ji11) p443 q443
      obtain rfl : ad439 = ad443 := (by injection e443)
      replace p443 := eq_true p443
      replace q443 := eq_true q443
      go_wp2_with (first | ((with_reducible refine gate_builtin (b := .append) (xs := #[.tmp 26, .tmp 28]) rfl ?_); at_builtin; refine Kd.R_append Kd.string (w0 := w0) w0.heap.size rfl (.tmp 26) (.tmp 28) 32 9 (.string ⟨#[]⟩) 16 rfl Tryd.underlying32 info9 rfl (by decide) (by omega) u3 x3_1 (rdOf ByteArray.empty t438 x10_1) [.string (rdOf ByteArray.empty t438 x10_1)] (fun k_ => (P0_ k_ \/ w.heap.size <= k_) /\ some k_ ≠ (.slice (some ad439) t438.length co3 : Value).ownBlock /\ some k_ ≠ (.slice (some ad439) t438.length co3 : Value).ownBlock) (fun _ => False) rfl rfl ?aP (fun _ hk => hk.elim) ?aF ?aO ?aB ?aS ?aL ?_; (case aP => exact rfl); (case aB => exact (bz0 HB.out)); (case aF => exact (fun k_ hk => ⟨(.inr (Nat.le_trans (by first | exact HK.out.1 | exact (show Kept w _ (fun k_ => P0_ k_) from by repeat (first | (with_reducible first | exact HK.out | apply Kept.alloc | apply Kept.drewN | apply Kept.drew) | exact HK.out)).1) hk)), Kd.fresh' (Kd.R_lt (rz HO_0.out)) k_ hk, Kd.fresh' (Kd.R_lt (rz HO_8.out)) k_ hk⟩)); (case aO => exact (rz HO_3.out)); (case aS => exact (below_size (bz0 HB.out))); (case aL => have := LMc15.out; omega); intro v445 w16 ho hb hg hat; rw [<- Ny444.out] at ho; have n0_ := Aside0.mk (Kd.R_after (ok := (fun k_ => (P0_ k_ \/ w.heap.size <= k_))) (rz HO_0.out) hg hat); have n1_ := Aside0.mk (Kd.R_after (ok := (fun k_ => (P0_ k_ \/ w.heap.size <= k_))) (rz HO_8.out) hg hat); have n2_ := Aside0.mk (hb); have n3_ := Aside0.mk (Kept.of_grown (S := (fun k_ => P0_ k_)) hg (by repeat (first | (with_reducible first | exact HK.out | apply Kept.alloc | apply Kept.drewN | apply Kept.drew) | exact HK.out)) (fun k_ e_ => (HO_3.out.1 k_ e_).1)); have n4_ := Aside0.mk (ho); clear HO_0; clear HO_8; clear HB; clear HK; clear HO_3; have HO_0 := n0_; have HO_8 := n1_; have HB := n2_; have HK := n3_; have HO446 := n4_; clear n0_ n1_ n2_ n3_ n4_; clear ho hb hg hat))
      (first | simp only [<- hl0_1, <- hl8_1] | simp only [<- hl0_1] | simp only [<- hl8_1] | skip)
      go_roundg k1
      case measure => have := HK1.out; omega
      case rel => exact ⟨(y444), (wrap64 (x10_1 + 1)), ez, H', ⟨by have := HK1.out; omega⟩, ⟨by (try simp only [hl0_1]); (try simp only [hl8_1]); refine rq ?_; exact HO_0.out⟩, ⟨by (try simp only [hl0_1]); (try simp only [hl8_1]); refine rq ?_; exact HO446.out⟩, ⟨by (try simp only [hl0_1]); (try simp only [hl8_1]); refine rq ?_; exact HO_8.out⟩, ⟨by repeat (first | (with_reducible first | exact HK.out | apply Kept.alloc | apply Kept.drewN | apply Kept.drew) | exact HK.out)⟩, ⟨(bz0 HB.out)⟩⟩
   ·rw [if_neg c5] at H
    have c5b0 := decide_eq_false c5
    (try (have c5b0z := c5b0; simp only [hl0_1] at c5b0z))
    (try (have c5b0z1 := c5b0; simp only [hl8_1] at c5b0z1))
    clear c5
    simp only [Option.some.injEq, Prod.mk.injEq] at H
    obtain ⟨rfl, rfl⟩ := H
    go_wp2
    go_ret
    exact ⟨_, gz, by refine rq ?_; exact Kd.R_mono HO_3.out (fun _ hk => ⟨hk.1, hk.2.1⟩), (by first | exact (by refine rq ?_; exact Kd.R_mono HO_0.out (fun _ hk => hk.1)) | (simp only [hl0_1, hl8_1]; exact (by refine rq ?_; exact Kd.R_mono HO_0.out (fun _ hk => hk.1)))), (bz0 HB.out), by repeat (first | (with_reducible first | exact HK.out | apply Kept.alloc | apply Kept.drewN | apply Kept.drew) | exact HK.out)⟩
mutual
def impl_parents.l0 : Nat -> List (S43) -> List Int -> Int -> Int -> Option (List Int)
 | 0, _, _, _, _ => none
 | k + 1, x0, x3, x13, x14 => if x14 < x13 then (if 0 <= x14 then (if x14 < (x3.length : Int) then (impl_parents.l0 k x0 (x3.set (x14 : Int).toNat (-1)) x13 (wrap64 (x14 + 1))) else (none)) else (none)) else (impl_parents.l1 k x3 x0 (x0.length : Int) 0)
def impl_parents.l1 : Nat -> List Int -> List (S43) -> Int -> Int -> Option (List Int)
 | 0, _, _, _, _ => none
 | k + 1, x3, x21, x22, x23 => if x23 < x22 then (if 0 <= x23 then (if x23 < (x21.length : Int) then ((impl_Kids.f k ((rd_T43 x21 x23).f0) ((rd_T43 x21 x23).f1) ((rd_T43 x21 x23).f2) ((rd_T43 x21 x23).f3) ((rd_T43 x21 x23).f4) ((rd_T43 x21 x23).f5) ((rd_T43 x21 x23).f6)).bind fun t453 => (impl_parents.l2 k x3 x23 x21 x22 x23 t453 (t453.length : Int) 0)) else (none)) else (none)) else (some x3)
def impl_parents.l2 : Nat -> List Int -> Int -> List (S43) -> Int -> Int -> List Int -> Int -> Int -> Option (List Int)
 | 0, _, _, _, _, _, _, _, _ => none
 | k + 1, x3, x5, x21, x22, x23, x29, x30, x31 => if x31 < x30 then (if 0 <= x31 then (if x31 < (x29.length : Int) then (if 0 <= (rd x29 x31) then (if (rd x29 x31) < (x3.length : Int) then (impl_parents.l2 k (x3.set ((rd x29 x31) : Int).toNat x5) x5 x21 x22 x23 x29 x30 (wrap64 (x31 + 1))) else (none)) else (none)) else (none)) else (none)) else (impl_parents.l1 k x3 x21 x22 (wrap64 (x23 + 1)))
end
def impl_parents.f (k : Nat) (l0 : List (S43)) : Option (List Int) := if 0 <= (l0.length : Int) then (if ((l0.length : Int) : Int).toNat <= 35184372088832 then ((some (List.replicate ((l0.length : Int) : Int).toNat 0 : List Int)).bind fun y447 => (impl_parents.l0 k l0 y447 (y447.length : Int) 0)) else (none)) else (none)
theorem impl_parents.mono_l : ∀ k, (∀ y0 y1 y2 y3, LeO (impl_parents.l0 k y0 y1 y2 y3) (impl_parents.l0 (k + 1) y0 y1 y2 y3)) /\ (∀ y0 y1 y2 y3, LeO (impl_parents.l1 k y0 y1 y2 y3) (impl_parents.l1 (k + 1) y0 y1 y2 y3)) /\ (∀ y0 y1 y2 y3 y4 y5 y6 y7, LeO (impl_parents.l2 k y0 y1 y2 y3 y4 y5 y6 y7) (impl_parents.l2 (k + 1) y0 y1 y2 y3 y4 y5 y6 y7))
 | 0 => ⟨fun _ _ _ _ r h => by simp [impl_parents.l0] at h, fun _ _ _ _ r h => by simp [impl_parents.l1] at h, fun _ _ _ _ _ _ _ _ r h => by simp [impl_parents.l2] at h⟩
 | k + 1 => by
  obtain ⟨ih0, ih1, ih2⟩ := impl_parents.mono_l k
  refine ⟨?_, ?_, ?_⟩
  ·intro y0 y1 y2 y3
   unfold impl_parents.l0
   with_reducible repeat' first | exact ih0 _ _ _ _ | exact ih1 _ _ _ _ | exact ih2 _ _ _ _ _ _ _ _ | exact impl_Kids.mono _ _ _ _ _ _ _ _ | exact lrz _ | exact lnz _ | refine liz ?_ ?_ | refine lbz ?_ fun _ => ?_
  ·intro y0 y1 y2 y3
   unfold impl_parents.l1
   with_reducible repeat' first | exact ih0 _ _ _ _ | exact ih1 _ _ _ _ | exact ih2 _ _ _ _ _ _ _ _ | exact impl_Kids.mono _ _ _ _ _ _ _ _ | exact lrz _ | exact lnz _ | refine liz ?_ ?_ | refine lbz ?_ fun _ => ?_
  ·intro y0 y1 y2 y3 y4 y5 y6 y7
   unfold impl_parents.l2
   with_reducible repeat' first | exact ih0 _ _ _ _ | exact ih1 _ _ _ _ | exact ih2 _ _ _ _ _ _ _ _ | exact impl_Kids.mono _ _ _ _ _ _ _ _ | exact lrz _ | exact lnz _ | refine liz ?_ ?_ | refine lbz ?_ fun _ => ?_
theorem impl_parents.mono : ∀ a0 k, LeO (impl_parents.f k a0) (impl_parents.f (k + 1) a0) := by
 intro a0 k
 obtain ⟨ih0, ih1, ih2⟩ := impl_parents.mono_l k
 unfold impl_parents.f
 with_reducible repeat' first | exact ih0 _ _ _ _ | exact ih1 _ _ _ _ | exact ih2 _ _ _ _ _ _ _ _ | exact impl_Kids.mono _ _ _ _ _ _ _ _ | exact lrz _ | exact lnz _ | refine liz ?_ ?_ | refine lbz ?_ fun _ => ?_
set_option maxHeartbeats 8000000 in
set_option maxRecDepth 100000 in
theorem impl_parents.calls (k : Nat) (A0 : Option Addr) (c0 : Nat) (l0 : List (S43)) (r : List Int) (w : World) (hr0 : Kd.C k43 w A0 l0.length l0) (hc0 : l0.length <= c0) (h : impl_parents.f k l0 = some r) :
  Calls Tryd.prog 45 #[.slice A0 l0.length c0] w fun e w' => ∃ v0_ : Value, e = .returned (v0_) /\ Kd.R (Kd.int .i64) 3 w' w.heap.size (fun _ => True) v0_ r /\ Below w.heap.size w w' := by
 have hu43 := Tryd.underlying43
 have HR0 := Aside0.mk hr0
 have HC0 := Aside0.mk hc0
 clear hr0 hc0
 have HB := Aside0.mk (Below.refl w.heap.size w)
 have H : (if 0 <= (l0.length : Int) then (if ((l0.length : Int) : Int).toNat <= 35184372088832 then ((some (List.replicate ((l0.length : Int) : Int).toNat 0 : List Int)).bind fun y447 => (impl_parents.l0 k l0 y447 (y447.length : Int) 0)) else (none)) else (none)) = some r := h
 clear h
 replace H := iz H
 obtain ⟨c2, H⟩ := H
 have c2b0 := eq_true c2
 have c2b1 : decide (0 <= (l0.length : Int)) = true := decide_eq_true c2
 clear c2
 replace H := iz H
 obtain ⟨c3, H⟩ := H
 have c3b0 := eq_true c3
 have c3b1 : decide (((l0.length : Int) : Int).toNat <= 35184372088832) = true := decide_eq_true c3
 clear c3
 obtain ⟨y447, hy447⟩ : ∃ y_ : List Int, y_ = (List.replicate ((l0.length : Int) : Int).toNat 0) := ⟨_, rfl⟩
 replace H : (impl_parents.l0 k l0 y447 (y447.length : Int) 0) = some r := yz hy447 H
 have Ny447 := Aside0.mk hy447
 clear hy447
 have H' := Aside0.mk H
 clear H
 go_enter Tryd.func45, Tryd.ntmps45
 go_wp2_with (first | ((with_reducible refine gate_dst (N := 11) rfl ?_); refine Kd.R_make (Kd.int .i64) _ 3 rfl (N := 11) rfl 47 _ _ rfl (l0.length : Int) rfl rfl Tryd.underlying47 (.int .i64 0) 8 info3 rfl (by decide) (by omega) 0 (ok := fun _ => True) (okp := fun _ => True) rfl (fun _ hk => hk) trivial (of_decide_eq_true az) (Nat.le_trans (Nat.mul_le_mul_right _ (of_decide_eq_true az : (l0.length : Int).toNat <= 35184372088832)) (by omega)) (Below.refl _ _) (Nat.le_refl _) ?_; intro v448 w4 ho5 hb hg_ hnew_; clear hg_ hnew_; (first | rw [<- Ny447.out] at ho5 | (simp only [Int.reduceToNat] at ho5; rw [<- Ny447.out] at ho5)); have HO449 := Aside0.mk (Kd.R_lower ho5 (below_size (bz0 HB.out))); replace HB := Aside0.mk (below_step (bz0 HB.out) hb); clear hb ho5; obtain ⟨Ao6, co6, eo6⟩ := Kd.R_slice HO449.out; subst eo6))
 (try simp only [Act.put, sz1, sz2, sz3])
 go_loopg [14] k (fun kq v14 w' => ∃ (x3_1 : List Int) (x14_1 : Int), v14 = .int .i64 x14_1 /\ Aside0 (impl_parents.l0 kq l0 x3_1 (y447.length : Int) x14_1 = some r) /\ Aside0 (kq <= k) /\ Aside0 (Kd.R (Kd.int .i64) 3 w' w.heap.size (fun _ => True) (.slice Ao6 y447.length co6) x3_1) /\ Aside0 (Below w.heap.size w w'))
 case atStart => exact ⟨(y447), (0), ez, H', ⟨Nat.le_refl _⟩, ⟨by refine rq ?_; exact HO449.out⟩, ⟨(bz0 HB.out)⟩⟩
 case round =>
  clear H'
  try clear c2
  try clear c2b0
  try clear c2b1
  try clear p2
  try clear c3
  try clear c3b0
  try clear c3b1
  try clear c4
  obtain ⟨x3_1, x14_1, rfl, HA, HK1, HO_3, HB⟩ := hrel
  have hl3_1 := (Kd.R_reads' HO_3.out).1
  rw [hl3_1] at HO_3
  (try simp only [hl3_1])
  cases gk with
  | zero => exact absurd HA.out (by simp [impl_parents.l0])
  | succ k1 =>
   have H := HA.out
   clear HA
   simp only [impl_parents.l0] at H
   by_cases c7 : x14_1 < (y447.length : Int)
   ·rw [if_pos c7] at H
    have c7b0 := decide_eq_true c7
    (try (have c7b0z := c7b0; simp only [hl3_1] at c7b0z))
    clear c7
    replace H := iz H
    obtain ⟨c8, H⟩ := H
    have c8b0 := decide_eq_true c8
    clear c8
    replace H := iz H
    obtain ⟨c9, H⟩ := H
    have c9b0 := decide_eq_true c9
    clear c9
    obtain ⟨y450, hy450⟩ : ∃ y_ : List Int, y_ = (x3_1.set (x14_1 : Int).toNat (-1)) := ⟨_, rfl⟩
    replace H : (impl_parents.l0 k1 l0 y450 (y447.length : Int) (wrap64 (x14_1 + 1))) = some r := yz hy450 H
    have Ny450 := Aside0.mk hy450
    clear hy450
    have H' := Aside0.mk H
    clear H
    have p10 : 0 <= (x14_1 : Int) := oz
    have q10 : (x14_1 : Int) < ((x3_1.length : Int) : Int) := oz
    obtain ⟨go10, co10, eo10, gb10, gl10, cl10, HG10⟩ := Kd.R_form HO_3.out (by omega)
    (first | cases eo10 | (injection eo10 with ea_ en_ ec_; (first | subst ea_ | (injection ea_ with ea_; subst ea_)); subst ec_; clear en_))
    have GB10 := Aside0.mk gb10
    have GG10 := Aside0.mk HG10
    clear gb10 gl10 HG10
    obtain ⟨hx10_0, hf10_0⟩ := Kd.R_celln 0 HO_3.out (x14_1 : Int) p10 q10
    replace p10 := eq_true p10
    replace q10 := eq_true q10
    have HP11 := Kd.R_putg HO_3.out (x14_1 : Int) (-1)
    go_wp2_with (first | ((with_reducible refine gate_store (t := 3) (p := 19) rfl ?_); refine store_event (t := 3) (p := 19) (v := ?vo_w12) (w1 := (wr.setCell ⟨go10, (x14_1 : Int).toNat, none⟩ (.int .i64 (-1)))) ?hg ?ho ?hn ?hr ?_; (case ho => rfl); (case hg => rfl); (case hn => rfl); (case hr => exact vz); intro w12 hw; have hg : wr.grownBy w12 (some go10) := (by rw [hw]; exact HP11.2); have hp_ : Kd.R (Kd.int .i64) 3 w12 w.heap.size (fun _ => True) (.slice (some ⟨go10, 0, none⟩) x3_1.length co6) y450 := (by rw [hw, Ny450.out]; exact HP11.1); clear HP11; replace HO_3 := Aside0.mk (hp_); replace HB := Aside0.mk ((by rw [hw]; exact below_set (HB.out) GB10.out : Below w.heap.size w w12)); clear hg hw hp_))
    (try simp only [<- hl3_1])
    go_roundg k1
    case measure => have := HK1.out; omega
    case rel => exact ⟨(y450), (wrap64 (x14_1 + 1)), ez, H', ⟨by have := HK1.out; omega⟩, ⟨by (try simp only [hl3_1]); refine rq ?_; exact HO_3.out⟩, ⟨(bz0 HB.out)⟩⟩
   ·rw [if_neg c7] at H
    have c7b0 := decide_eq_false c7
    (try (have c7b0z := c7b0; simp only [hl3_1] at c7b0z))
    clear c7
    have H' := Aside0.mk H
    clear H
    go_wp2
    go_loopg [23] k1 (fun kq v23 w' => ∃ (x3_2 : List Int) (x23_2 : Int), v23 = .int .i64 x23_2 /\ Aside0 (impl_parents.l1 kq x3_2 l0 (l0.length : Int) x23_2 = some r) /\ Aside0 (kq <= k1) /\ Aside0 (Kd.R (Kd.int .i64) 3 w' w.heap.size (fun _ => True) (.slice Ao6 x3_1.length co6) x3_2) /\ Aside0 (Below w.heap.size w w'))
    case atStart => exact ⟨(x3_1), (0), ez, H', ⟨Nat.le_refl _⟩, ⟨by (try simp only [hl3_1]); refine rq ?_; exact HO_3.out⟩, ⟨(bz0 HB.out)⟩⟩
    case round =>
     clear H'
     try clear p1
     try clear q1
     try clear hx1
     try clear hf1
     try clear c2
     try clear c2b0
     try clear c2b1
     try clear p2
     try clear c3
     try clear c3b0
     try clear c3b1
     try clear c4
     try clear p6
     try clear c7
     try clear c7b0
     try clear c8
     try clear c8b0
     try clear c9
     try clear c9b0
     try clear p10
     try clear q10
     try clear hx10
     try clear hf10
     try clear hx10_0
     try clear p10
     try clear p2
     try clear q10
     obtain ⟨x3_2, x23_2, rfl, HA, HK2, HO_3, HB⟩ := hrel
     have hl3_2 := (Kd.R_reads' HO_3.out).1
     rw [hl3_2] at HO_3
     (try simp only [hl3_2])
     cases gk with
     | zero => exact absurd HA.out (by simp [impl_parents.l1])
     | succ k2 =>
      have H := HA.out
      clear HA
      simp only [impl_parents.l1] at H
      by_cases c13 : x23_2 < (l0.length : Int)
      ·rw [if_pos c13] at H
       have c13b0 := decide_eq_true c13
       (try (have c13b0z := c13b0; simp only [hl3_1] at c13b0z))
       (try (have c13b0z1 := c13b0; simp only [hl3_2] at c13b0z1))
       clear c13
       replace H := iz H
       obtain ⟨c14, H⟩ := H
       have c14b0 := decide_eq_true c14
       clear c14
       replace H := iz H
       obtain ⟨c15, H⟩ := H
       have c15b0 := decide_eq_true c15
       (try (have c15b0z := c15b0; simp only [hl3_1] at c15b0z))
       (try (have c15b0z1 := c15b0; simp only [hl3_2] at c15b0z1))
       clear c15
       replace H := bi H
       obtain ⟨t453, A160, H⟩ := H
       try dsimp only at H
       have A16 := Aside0.mk A160
       clear A160
       have H' := Aside0.mk H
       clear H
       have p451 : 0 <= (x23_2 : Int) := oz
       have q451 : x23_2 < (l0.length : Int) := oz
       obtain ⟨ad451, e451, hx451_0, hx451_1, hx451_2, hx451_3, hx451_4, hx451_5, hx451_6⟩ := at_T43 (Kd.C_below HR0.out HB.out) x23_2 p451 q451
       cases e451
       replace p451 := eq_true p451
       replace q451 := eq_true q451
       go_wp2_with (first | ((with_reducible refine gate_dst (N := 6) rfl ?_); refine box_event ?hg (N := 6) ?hd (cs := #[.int .i64 0, .int .i64 0, .int .i64 0, .int .i64 0, .int .i64 0, .string (⟨#[]⟩ : ByteArray), .string (⟨#[]⟩ : ByteArray)]) (t := 43) ?hr ?_; (case hd => rfl); (case hg => rfl); (case hr => exact vz); intro gb452 hg w17 hbox hb; replace HO_3 := qz HO_3 hb; have BK452 := Aside0.mk (hbox); have GW452 := Aside0.mk ((by rw [hg]; exact (below_size (bz0 HB.out)) : w.heap.size <= gb452)); have GE452 := Aside0.mk ((by rw [hg]; exact (below_size (bz0 HB.out)) : w.heap.size <= gb452)); replace HB := Aside0.mk (below_step (bz0 HB.out) hb); clear hb hbox hg; obtain ⟨hcz18_0, hcz18_1, hcz18_2, hcz18_3, hcz18_4, hcz18_5, hcz18_6⟩ := cz7 BK452.out; obtain ⟨hfz18_0, hfz18_1, hfz18_2, hfz18_3, hfz18_4, hfz18_5, hfz18_6⟩ := fz7 BK452.out) | ((with_reducible refine gate_callee (f := 69) rfl ?_); refine goesL_ (some 29) rfl rfl Tryd.func69 (by kernel_rfl) rfl #[.agg #[.int .i64 ((rd_T43 l0 x23_2).f0), .int .i64 ((rd_T43 l0 x23_2).f1), .int .i64 ((rd_T43 l0 x23_2).f2), .int .i64 ((rd_T43 l0 x23_2).f3), .int .i64 ((rd_T43 l0 x23_2).f4), .string ((rd_T43 l0 x23_2).f5), .string ((rd_T43 l0 x23_2).f6)]] rfl lz ?_; (with_reducible refine (impl_Kids.calls k2 ((rd_T43 l0 x23_2).f0) ((rd_T43 l0 x23_2).f1) ((rd_T43 l0 x23_2).f2) ((rd_T43 l0 x23_2).f3) ((rd_T43 l0 x23_2).f4) ((rd_T43 l0 x23_2).f5) ((rd_T43 l0 x23_2).f6) t453 _ A16.out).mono ?_); rintro e w19 ⟨v454, rfl, ho0, hb⟩; refine ⟨_, rfl, ?_⟩; have HO455 := Aside0.mk (Kd.V_lower (Kd.V_mono (ok' := fun k_ => some k_ ≠ (.slice Ao6 x3_2.length co6 : Value).ownBlock /\ k_ ≠ gb452) ho0 (fun k_ hk_ => ⟨(Kd.fresh' (Kd.R_lt (by refine rq ?_; exact (Kd.R_mono (Kd.R_far (p := ⟨gb452, 6, none⟩) (Kd.R_far (p := ⟨gb452, 5, none⟩) (Kd.R_far (p := ⟨gb452, 4, none⟩) (Kd.R_far (p := ⟨gb452, 3, none⟩) (Kd.R_far (p := ⟨gb452, 2, none⟩) (Kd.R_far (p := ⟨gb452, 1, none⟩) (Kd.R_far (p := ⟨gb452, 0, none⟩) (Kd.R_types HO_3.out BK452.out (by decide)) (fun _ hk => hk.2) (.int .i64 ((rd_T43 l0 x23_2).f0))) (fun _ hk => hk.2) (.int .i64 ((rd_T43 l0 x23_2).f1))) (fun _ hk => hk.2) (.int .i64 ((rd_T43 l0 x23_2).f2))) (fun _ hk => hk.2) (.int .i64 ((rd_T43 l0 x23_2).f3))) (fun _ hk => hk.2) (.int .i64 ((rd_T43 l0 x23_2).f4))) (fun _ hk => hk.2) (.string ((rd_T43 l0 x23_2).f5))) (fun _ hk => hk.2) (.string ((rd_T43 l0 x23_2).f6))) (fun _ h_ => h_.1)))) k_ hk_), (Kd.freshB (g := gb452) (o := .cells #[.int .i64 ((rd_T43 l0 x23_2).f0), .int .i64 ((rd_T43 l0 x23_2).f1), .int .i64 ((rd_T43 l0 x23_2).f2), .int .i64 ((rd_T43 l0 x23_2).f3), .int .i64 ((rd_T43 l0 x23_2).f4), .string ((rd_T43 l0 x23_2).f5), .string ((rd_T43 l0 x23_2).f6)] 43 (0, 0)) (by refine kq ?_; refine blk_put (cs := #[.int .i64 ((rd_T43 l0 x23_2).f0), .int .i64 ((rd_T43 l0 x23_2).f1), .int .i64 ((rd_T43 l0 x23_2).f2), .int .i64 ((rd_T43 l0 x23_2).f3), .int .i64 ((rd_T43 l0 x23_2).f4), .string ((rd_T43 l0 x23_2).f5), .string (⟨#[]⟩ : ByteArray)]) ?_ 6 _ rfl; refine kq ?_; refine blk_put (cs := #[.int .i64 ((rd_T43 l0 x23_2).f0), .int .i64 ((rd_T43 l0 x23_2).f1), .int .i64 ((rd_T43 l0 x23_2).f2), .int .i64 ((rd_T43 l0 x23_2).f3), .int .i64 ((rd_T43 l0 x23_2).f4), .string (⟨#[]⟩ : ByteArray), .string (⟨#[]⟩ : ByteArray)]) ?_ 5 _ rfl; refine kq ?_; refine blk_put (cs := #[.int .i64 ((rd_T43 l0 x23_2).f0), .int .i64 ((rd_T43 l0 x23_2).f1), .int .i64 ((rd_T43 l0 x23_2).f2), .int .i64 ((rd_T43 l0 x23_2).f3), .int .i64 0, .string (⟨#[]⟩ : ByteArray), .string (⟨#[]⟩ : ByteArray)]) ?_ 4 _ rfl; refine kq ?_; refine blk_put (cs := #[.int .i64 ((rd_T43 l0 x23_2).f0), .int .i64 ((rd_T43 l0 x23_2).f1), .int .i64 ((rd_T43 l0 x23_2).f2), .int .i64 0, .int .i64 0, .string (⟨#[]⟩ : ByteArray), .string (⟨#[]⟩ : ByteArray)]) ?_ 3 _ rfl; refine kq ?_; refine blk_put (cs := #[.int .i64 ((rd_T43 l0 x23_2).f0), .int .i64 ((rd_T43 l0 x23_2).f1), .int .i64 0, .int .i64 0, .int .i64 0, .string (⟨#[]⟩ : ByteArray), .string (⟨#[]⟩ : ByteArray)]) ?_ 2 _ rfl; refine kq ?_; refine blk_put (cs := #[.int .i64 ((rd_T43 l0 x23_2).f0), .int .i64 0, .int .i64 0, .int .i64 0, .int .i64 0, .string (⟨#[]⟩ : ByteArray), .string (⟨#[]⟩ : ByteArray)]) ?_ 1 _ rfl; refine kq ?_; refine blk_put (cs := #[.int .i64 0, .int .i64 0, .int .i64 0, .int .i64 0, .int .i64 0, .string (⟨#[]⟩ : ByteArray), .string (⟨#[]⟩ : ByteArray)]) ?_ 0 _ rfl; refine kq ?_; exact BK452.out) k_ hk_)⟩)) (below_size (bz1 HB.out GE452.out))); replace HO_3 := Aside0.mk (Kd.R_below (by refine rq ?_; exact (Kd.R_mono (Kd.R_far (p := ⟨gb452, 6, none⟩) (Kd.R_far (p := ⟨gb452, 5, none⟩) (Kd.R_far (p := ⟨gb452, 4, none⟩) (Kd.R_far (p := ⟨gb452, 3, none⟩) (Kd.R_far (p := ⟨gb452, 2, none⟩) (Kd.R_far (p := ⟨gb452, 1, none⟩) (Kd.R_far (p := ⟨gb452, 0, none⟩) (Kd.R_types HO_3.out BK452.out (by decide)) (fun _ hk => hk.2) (.int .i64 ((rd_T43 l0 x23_2).f0))) (fun _ hk => hk.2) (.int .i64 ((rd_T43 l0 x23_2).f1))) (fun _ hk => hk.2) (.int .i64 ((rd_T43 l0 x23_2).f2))) (fun _ hk => hk.2) (.int .i64 ((rd_T43 l0 x23_2).f3))) (fun _ hk => hk.2) (.int .i64 ((rd_T43 l0 x23_2).f4))) (fun _ hk => hk.2) (.string ((rd_T43 l0 x23_2).f5))) (fun _ hk => hk.2) (.string ((rd_T43 l0 x23_2).f6))) (fun _ h_ => h_.1))) hb); replace BK452 := Aside0.mk (blk_below (g := gb452) (o := .cells #[.int .i64 ((rd_T43 l0 x23_2).f0), .int .i64 ((rd_T43 l0 x23_2).f1), .int .i64 ((rd_T43 l0 x23_2).f2), .int .i64 ((rd_T43 l0 x23_2).f3), .int .i64 ((rd_T43 l0 x23_2).f4), .string ((rd_T43 l0 x23_2).f5), .string ((rd_T43 l0 x23_2).f6)] 43 (0, 0)) (by refine kq ?_; refine blk_put (cs := #[.int .i64 ((rd_T43 l0 x23_2).f0), .int .i64 ((rd_T43 l0 x23_2).f1), .int .i64 ((rd_T43 l0 x23_2).f2), .int .i64 ((rd_T43 l0 x23_2).f3), .int .i64 ((rd_T43 l0 x23_2).f4), .string ((rd_T43 l0 x23_2).f5), .string (⟨#[]⟩ : ByteArray)]) ?_ 6 _ rfl; refine kq ?_; refine blk_put (cs := #[.int .i64 ((rd_T43 l0 x23_2).f0), .int .i64 ((rd_T43 l0 x23_2).f1), .int .i64 ((rd_T43 l0 x23_2).f2), .int .i64 ((rd_T43 l0 x23_2).f3), .int .i64 ((rd_T43 l0 x23_2).f4), .string (⟨#[]⟩ : ByteArray), .string (⟨#[]⟩ : ByteArray)]) ?_ 5 _ rfl; refine kq ?_; refine blk_put (cs := #[.int .i64 ((rd_T43 l0 x23_2).f0), .int .i64 ((rd_T43 l0 x23_2).f1), .int .i64 ((rd_T43 l0 x23_2).f2), .int .i64 ((rd_T43 l0 x23_2).f3), .int .i64 0, .string (⟨#[]⟩ : ByteArray), .string (⟨#[]⟩ : ByteArray)]) ?_ 4 _ rfl; refine kq ?_; refine blk_put (cs := #[.int .i64 ((rd_T43 l0 x23_2).f0), .int .i64 ((rd_T43 l0 x23_2).f1), .int .i64 ((rd_T43 l0 x23_2).f2), .int .i64 0, .int .i64 0, .string (⟨#[]⟩ : ByteArray), .string (⟨#[]⟩ : ByteArray)]) ?_ 3 _ rfl; refine kq ?_; refine blk_put (cs := #[.int .i64 ((rd_T43 l0 x23_2).f0), .int .i64 ((rd_T43 l0 x23_2).f1), .int .i64 0, .int .i64 0, .int .i64 0, .string (⟨#[]⟩ : ByteArray), .string (⟨#[]⟩ : ByteArray)]) ?_ 2 _ rfl; refine kq ?_; refine blk_put (cs := #[.int .i64 ((rd_T43 l0 x23_2).f0), .int .i64 0, .int .i64 0, .int .i64 0, .int .i64 0, .string (⟨#[]⟩ : ByteArray), .string (⟨#[]⟩ : ByteArray)]) ?_ 1 _ rfl; refine kq ?_; refine blk_put (cs := #[.int .i64 0, .int .i64 0, .int .i64 0, .int .i64 0, .int .i64 0, .string (⟨#[]⟩ : ByteArray), .string (⟨#[]⟩ : ByteArray)]) ?_ 0 _ rfl; refine kq ?_; exact BK452.out) hb); replace HB := Aside0.mk (below_step (bz1 HB.out GE452.out) hb); (try clear hb); (try clear hk); (try clear ho0); obtain ⟨Ao20, co20, eo20⟩ := Kd.V_slice HO455.out; subst eo20))
       (try simp only [Act.put, sz1, sz2, sz3])
       go_loopg [31] k2 (fun kq v31 w' => ∃ (x3_3 : List Int) (x31_3 : Int), v31 = .int .i64 x31_3 /\ Aside0 (impl_parents.l2 kq x3_3 x23_2 l0 (l0.length : Int) x23_2 t453 (t453.length : Int) x31_3 = some r) /\ Aside0 (kq <= k2) /\ Aside0 (Kd.R (Kd.int .i64) 3 w' w.heap.size (fun _ => True) (.slice Ao6 x3_2.length co6) x3_3) /\ Aside0 (Kd.V (Kd.int .i64) 3 w' w.heap.size (fun k_ => some k_ ≠ ((.slice Ao6 x3_2.length co6) : Value).ownBlock /\ k_ ≠ gb452) (.slice Ao20 t453.length co20) t453) /\ Aside0 (w'.heap[gb452]? = some (.cells #[.int .i64 ((rd_T43 l0 x23_2).f0), .int .i64 ((rd_T43 l0 x23_2).f1), .int .i64 ((rd_T43 l0 x23_2).f2), .int .i64 ((rd_T43 l0 x23_2).f3), .int .i64 ((rd_T43 l0 x23_2).f4), .string ((rd_T43 l0 x23_2).f5), .string ((rd_T43 l0 x23_2).f6)] 43 (0, 0))) /\ Aside0 (Below w.heap.size w w'))
       case atStart => exact ⟨(x3_2), (0), ez, H', ⟨Nat.le_refl _⟩, ⟨by (try simp only [hl3_1]); (try simp only [hl3_2]); refine rq ?_; exact HO_3.out⟩, ⟨by (try simp only [hl3_1]); (try simp only [hl3_2]); (with_reducible repeat (first | apply Kd.V_alloc | apply Kd.V_drewN | apply Kd.V_drew)); exact HO455.out⟩, ⟨by (try simp only [hl3_1]); (try simp only [hl3_2]); refine kq ?_; exact BK452.out⟩, ⟨(bz1 HB.out GE452.out)⟩⟩
       case round =>
        clear H'
        try clear c1
        try clear p1
        try clear q1
        try clear hx1
        try clear hf1
        try clear c2
        try clear c2b0
        try clear c2b1
        try clear p2
        try clear c3
        try clear c3b0
        try clear c3b1
        try clear c4
        try clear p4
        try clear q4
        try clear hx4
        try clear c6
        try clear p6
        try clear c7
        try clear c7b0
        try clear c8
        try clear c8b0
        try clear c9
        try clear c9b0
        try clear p10
        try clear q10
        try clear hx10
        try clear hf10
        try clear c13
        try clear c13b0
        try clear c14
        try clear c14b0
        try clear c15
        try clear c15b0
        try clear hcz18_0 hcz18_1 hcz18_2 hcz18_3 hcz18_4 hcz18_5 hcz18_6
        try clear hfz18_0 hfz18_1 hfz18_2 hfz18_3 hfz18_4 hfz18_5 hfz18_6
        try clear hx10_0
        try clear hx451_0
        try clear hx451_1
        try clear hx451_2
        try clear hx451_3
        try clear hx451_4
        try clear hx451_5
        try clear hx451_6
        try clear p1
        try clear p10
        try clear p2
        try clear p451
        try clear p6
        try clear q1
        try clear q10
        try clear q451
        obtain ⟨x3_3, x31_3, rfl, HA, HK3, HO_3, HO_29, BK452, HB⟩ := hrel
        have hl3_3 := (Kd.R_reads' HO_3.out).1
        rw [hl3_3] at HO_3
        (try simp only [hl3_3])
        (try simp only [hl3_3] at BK452)
        (try simp only [hl3_3] at HO_29)
        cases gk with
        | zero => exact absurd HA.out (by simp [impl_parents.l2])
        | succ k3 =>
         have H := HA.out
         clear HA
         simp only [impl_parents.l2] at H
         by_cases c21 : x31_3 < (t453.length : Int)
         ·rw [if_pos c21] at H
          have c21b0 := decide_eq_true c21
          clear c21
          replace H := iz H
          obtain ⟨c22, H⟩ := H
          have c22b0 := decide_eq_true c22
          clear c22
          replace H := iz H
          obtain ⟨c23, H⟩ := H
          have c23b0 := decide_eq_true c23
          clear c23
          replace H := iz H
          obtain ⟨c24, H⟩ := H
          have c24b0 := decide_eq_true c24
          clear c24
          replace H := iz H
          obtain ⟨c25, H⟩ := H
          have c25b0 := decide_eq_true c25
          clear c25
          obtain ⟨y457, hy457⟩ : ∃ y_ : List Int, y_ = (x3_3.set ((rd t453 x31_3) : Int).toNat x23_2) := ⟨_, rfl⟩
          replace H : (impl_parents.l2 k3 y457 x23_2 l0 (l0.length : Int) x23_2 t453 (t453.length : Int) (wrap64 (x31_3 + 1))) = some r := yz hy457 H
          have Ny457 := Aside0.mk hy457
          clear hy457
          have H' := Aside0.mk H
          clear H
          have p456 : 0 <= (x31_3 : Int) := oz
          have q456 : x31_3 < (t453.length : Int) := oz
          obtain ⟨ad456, e456, hx456_0⟩ := Kd.at_int (Kd.V_reads' HO_29.out).2.2 x31_3 p456 q456
          cases e456
          replace p456 := eq_true p456
          replace q456 := eq_true q456
          have p26 : 0 <= ((rd t453 x31_3) : Int) := oz
          have q26 : ((rd t453 x31_3) : Int) < ((x3_3.length : Int) : Int) := oz
          obtain ⟨go26, co26, eo26, gb26, gl26, cl26, HG26⟩ := Kd.R_form HO_3.out (by omega)
          (first | cases eo26 | (injection eo26 with ea_ en_ ec_; (first | subst ea_ | (injection ea_ with ea_; subst ea_)); subst ec_; clear en_))
          have GB26 := Aside0.mk gb26
          have GG26 := Aside0.mk HG26
          clear gb26 gl26 HG26
          obtain ⟨hx26_0, hf26_0⟩ := Kd.R_celln 0 HO_3.out ((rd t453 x31_3) : Int) p26 q26
          replace p26 := eq_true p26
          replace q26 := eq_true q26
          have HP27 := Kd.R_putg HO_3.out ((rd t453 x31_3) : Int) x23_2
          go_wp2_with (first | ((with_reducible refine gate_store (t := 3) (p := 38) rfl ?_); refine store_event (t := 3) (p := 38) (v := ?vo_w28) (w1 := (wr.setCell ⟨go26, ((rd t453 x31_3) : Int).toNat, none⟩ (.int .i64 x23_2))) ?hg ?ho ?hn ?hr ?_; (case ho => rfl); (case hg => rfl); (case hn => rfl); (case hr => exact vz); intro w28 hw; have hg : wr.grownBy w28 (some go26) := (by rw [hw]; exact HP27.2); have hp_ : Kd.R (Kd.int .i64) 3 w28 w.heap.size (fun _ => True) (.slice (some ⟨go26, 0, none⟩) x3_3.length co6) y457 := (by rw [hw, Ny457.out]; exact HP27.1); clear HP27; replace HO_29 := Aside0.mk (Kd.V_afterv (v := (.slice (some ⟨go26, 0, none⟩) x3_3.length co6)) (v1 := (.slice (some ⟨go26, 0, none⟩) x3_3.length co6)) (ok := (fun k_ => k_ ≠ gb452)) (by (with_reducible repeat (first | apply Kd.V_alloc | apply Kd.V_drewN | apply Kd.V_drew)); exact Kd.V_mono HO_29.out (fun _ hk => ⟨hk.2, hk.1⟩)) hg (.inl rfl)); replace BK452 := Aside0.mk (blk_grown (g := gb452) (o := .cells #[.int .i64 ((rd_T43 l0 x23_2).f0), .int .i64 ((rd_T43 l0 x23_2).f1), .int .i64 ((rd_T43 l0 x23_2).f2), .int .i64 ((rd_T43 l0 x23_2).f3), .int .i64 ((rd_T43 l0 x23_2).f4), .string ((rd_T43 l0 x23_2).f5), .string ((rd_T43 l0 x23_2).f6)] 43 (0, 0)) (kz BK452.out) hg (Kd.R_ne HO_3.out BK452.out (by decide))); replace HO_3 := Aside0.mk (hp_); replace HB := Aside0.mk ((by rw [hw]; exact below_set (HB.out) GB26.out : Below w.heap.size w w28)); clear hg hw hp_))
          (try simp only [<- hl3_3])
          go_roundg k3
          case measure => have := HK1.out; have := HK2.out; have := HK3.out; omega
          case rel => exact ⟨(y457), (wrap64 (x31_3 + 1)), ez, H', ⟨by have := HK1.out; have := HK2.out; have := HK3.out; omega⟩, ⟨by (try simp only [hl3_1]); (try simp only [hl3_2]); (try simp only [hl3_3]); refine rq ?_; exact HO_3.out⟩, ⟨by (try simp only [hl3_1]); (try simp only [hl3_2]); (try simp only [hl3_3]); (with_reducible repeat (first | apply Kd.V_alloc | apply Kd.V_drewN | apply Kd.V_drew)); exact Kd.V_mono HO_29.out (fun _ hk => ⟨hk.2, hk.1⟩)⟩, ⟨by (try simp only [hl3_1]); (try simp only [hl3_2]); (try simp only [hl3_3]); refine kq ?_; exact BK452.out⟩, ⟨(bz1 HB.out GE452.out)⟩⟩
         ·rw [if_neg c21] at H
          have c21b0 := decide_eq_false c21
          clear c21
          have H' := Aside0.mk H
          clear H
          go_wp2
          (first | simp only [<- hl3_2, <- hl3_3] | simp only [<- hl3_2] | simp only [<- hl3_3] | skip)
          go_roundg k3
          case measure => have := HK1.out; have := HK2.out; have := HK3.out; omega
          case rel => exact ⟨(x3_3), (wrap64 (x23_2 + 1)), ez, H', ⟨by have := HK1.out; have := HK2.out; have := HK3.out; omega⟩, ⟨by (try simp only [hl3_1]); (try simp only [hl3_2]); (try simp only [hl3_3]); refine rq ?_; exact HO_3.out⟩, ⟨(bz1 HB.out GE452.out)⟩⟩
      ·rw [if_neg c13] at H
       have c13b0 := decide_eq_false c13
       (try (have c13b0z := c13b0; simp only [hl3_1] at c13b0z))
       (try (have c13b0z1 := c13b0; simp only [hl3_2] at c13b0z1))
       (try (have c13b0z2 := c13b0; simp only [hl3_3] at c13b0z2))
       clear c13
       obtain rfl := Option.some.inj H
       go_wp2
       go_ret
       exact ⟨_, gz, by refine rq ?_; exact HO_3.out, (bz0 HB.out)⟩
end Go.Proofs.YtmilegjmiiccdaaDoor.PFnExactCanon
