/- PFnExactCanonx13, of the words and walks that the law FnExactCanon needs; made by this session's program out of printed texts. -/

import Derived.Test.YtmilegjmiiccdaaDoorVECanonPx0
import Derived.Test.YtmilegjmiiccdaaDoorVECanonPx12
namespace Go.Proofs.YtmilegjmiiccdaaDoor.PFnExactCanon
open Go.RowKit Go.Proofs.YtmilegjmiiccdaaDoorW.PrintWords Go.Proofs.YtmilegjmiiccdaaDoorW.PrintLast Go.Proofs.YtmilegjmiiccdaaDoorW.PrintMore
attribute [local go_sem] max2_int min2_int max_two min_two max_three min_three max_four min_four
set_option linter.unusedVariables false
set_option linter.unusedSimpArgs false
mutual
def strings_genSplit.j0 : Nat -> ByteArray -> ByteArray -> Int -> Int -> Option (List ByteArray)
 | 0, _, _, _, _ => none
 | k + 1, x0, x1, x2, x3 => if 0 <= (mn x3 (wrap64 ((x0.size : Int) + 1))) then (if (mn x3 (wrap64 ((x0.size : Int) + 1)) : Int).toNat <= 17592186044416 then (strings_genSplit.l0 k x0 x1 x2 (wrap64 ((mn x3 (wrap64 ((x0.size : Int) + 1))) - 1)) (List.replicate (mn x3 (wrap64 ((x0.size : Int) + 1)) : Int).toNat (⟨#[]⟩ : ByteArray)) 0) else (none)) else (none)
def strings_genSplit.l0 : Nat -> ByteArray -> ByteArray -> Int -> Int -> List ByteArray -> Int -> Option (List ByteArray)
 | 0, _, _, _, _, _, _ => none
 | k + 1, x0, x1, x2, x3, x9, x10 => if x10 < x3 then ((strings_Index.f x0 x1).bind fun t381 => (if t381 < 0 then (if 0 <= x10 then (if x10 < (x9.length : Int) then (if 0 <= (wrap64 (x10 + 1)) then (if (wrap64 (x10 + 1)) <= (x9.length : Int) then (some ((x9.set (x10 : Int).toNat x0).take ((wrap64 (x10 + 1)) : Int).toNat)) else (none)) else (none)) else (none)) else (none)) else (if 0 <= (wrap64 (t381 + x2)) then (if (wrap64 (t381 + x2)) <= (x0.size : Int) then (if 0 <= x10 then (if x10 < (x9.length : Int) then (if 0 <= (wrap64 (t381 + (x1.size : Int))) then (if (wrap64 (t381 + (x1.size : Int))) <= (x0.size : Int) then (strings_genSplit.l0 k (x0.extract ((wrap64 (t381 + (x1.size : Int))) : Int).toNat x0.size) x1 x2 x3 (x9.set (x10 : Int).toNat (x0.extract 0 ((wrap64 (t381 + x2)) : Int).toNat)) (wrap64 (x10 + 1))) else (none)) else (none)) else (none)) else (none)) else (none)) else (none)))) else (if 0 <= x10 then (if x10 < (x9.length : Int) then (if 0 <= (wrap64 (x10 + 1)) then (if (wrap64 (x10 + 1)) <= (x9.length : Int) then (some ((x9.set (x10 : Int).toNat x0).take ((wrap64 (x10 + 1)) : Int).toNat)) else (none)) else (none)) else (none)) else (none))
end
def strings_genSplit.f (k : Nat) (a0 : ByteArray) (a1 : ByteArray) (a2 : Int) (a3 : Int) : Option (List ByteArray) := if a3 = 0 then (some ([] : List ByteArray)) else (if a1.toList = ([] : List UInt8) then ((strings_explode.f a0 a3).bind fun t374 => (some t374)) else (if a3 < 0 then ((strings_Count.f a0 a1).bind fun t377 => (strings_genSplit.j0 k a0 a1 a2 (wrap64 (t377 + 1)))) else (strings_genSplit.j0 k a0 a1 a2 a3)))
theorem strings_genSplit.mono_l : ∀ k, (∀ y0 y1 y2 y3, LeO (strings_genSplit.j0 k y0 y1 y2 y3) (strings_genSplit.j0 (k + 1) y0 y1 y2 y3)) /\ (∀ y0 y1 y2 y3 y4 y5, LeO (strings_genSplit.l0 k y0 y1 y2 y3 y4 y5) (strings_genSplit.l0 (k + 1) y0 y1 y2 y3 y4 y5))
 | 0 => ⟨fun _ _ _ _ r h => by simp [strings_genSplit.j0] at h, fun _ _ _ _ _ _ r h => by simp [strings_genSplit.l0] at h⟩
 | k + 1 => by
  obtain ⟨ih0, ih1⟩ := strings_genSplit.mono_l k
  refine ⟨?_, ?_⟩
  ·intro y0 y1 y2 y3
   unfold strings_genSplit.j0
   with_reducible repeat' first | exact ih0 _ _ _ _ | exact ih1 _ _ _ _ _ _ | exact lrz _ | exact lnz _ | refine liz ?_ ?_ | refine lbz ?_ fun _ => ?_
  ·intro y0 y1 y2 y3 y4 y5
   unfold strings_genSplit.l0
   with_reducible repeat' first | exact ih0 _ _ _ _ | exact ih1 _ _ _ _ _ _ | exact lrz _ | exact lnz _ | refine liz ?_ ?_ | refine lbz ?_ fun _ => ?_
theorem strings_genSplit.mono : ∀ a0 a1 a2 a3 k, LeO (strings_genSplit.f k a0 a1 a2 a3) (strings_genSplit.f (k + 1) a0 a1 a2 a3) := by
 intro a0 a1 a2 a3 k
 obtain ⟨ih0, ih1⟩ := strings_genSplit.mono_l k
 unfold strings_genSplit.f
 with_reducible repeat' first | exact ih0 _ _ _ _ | exact ih1 _ _ _ _ _ _ | exact lrz _ | exact lnz _ | refine liz ?_ ?_ | refine lbz ?_ fun _ => ?_
set_option maxHeartbeats 8000000 in
set_option maxRecDepth 100000 in
theorem strings_genSplit.calls (k : Nat) (a0 : ByteArray) (a1 : ByteArray) (a2 : Int) (a3 : Int) (r : List ByteArray) (w : World) (h : strings_genSplit.f k a0 a1 a2 a3 = some r) :
  Calls Tryd.prog 95 #[.string a0, .string a1, .int .i64 a2, .int .i64 a3] w fun e w' => ∃ v0_ : Value, e = .returned (v0_) /\ Kd.R Kd.string 9 w' w.heap.size (fun _ => True) v0_ r /\ Below w.heap.size w w' := by
 have HB := Aside0.mk (Below.refl w.heap.size w)
 have H : (if a3 = 0 then (some ([] : List ByteArray)) else (if a1.toList = ([] : List UInt8) then ((strings_explode.f a0 a3).bind fun t374 => (some t374)) else (if a3 < 0 then ((strings_Count.f a0 a1).bind fun t377 => (strings_genSplit.j0 k a0 a1 a2 (wrap64 (t377 + 1)))) else (strings_genSplit.j0 k a0 a1 a2 a3)))) = some r := h
 clear h
 by_cases c5 : a3 = 0
 ·rw [if_pos c5] at H
  have c5b0 : (a3 == 0) = true := beq_iff_eq.mpr c5
  have c5b1 : (a3 != 0) = false := bne_eq_false_iff_eq.mpr c5
  clear c5
  obtain rfl := Option.some.inj H
  go_enter Tryd.func95, Tryd.ntmps95
  go_wp2
  go_ret
  exact ⟨_, gz, by first | exact Kd.R_nil _ _ _ _ _ | exact Kd.N_nil _ _ _ _ _ | exact Kd.V_nil _ _ _ _ _ | exact Kd.Q_nil _ _ _ _ _ | exact Kd.S_nil _ _ _ _ _, (bz0 HB.out)⟩
 ·rw [if_neg c5] at H
  have c5b0 : (a3 == 0) = false := beq_eq_false_iff_ne.mpr c5
  have c5b1 : (a3 != 0) = true := bne_iff_ne.mpr c5
  by_cases c6 : a1.toList = ([] : List UInt8)
  ·rw [if_pos c6] at H
   have c6b0 : (a1.toList == ([] : List UInt8)) = true := beq_iff_eq.mpr c6
   have c6b1 : (a1.toList != ([] : List UInt8)) = false := bne_eq_false_iff_eq.mpr c6
   clear c6
   replace H := bi H
   obtain ⟨t374, A70, H⟩ := H
   try dsimp only at H
   have A7 := Aside0.mk A70
   clear A70
   obtain rfl := Option.some.inj H
   go_enter Tryd.func95, Tryd.ntmps95
   go_wp2_with (first | ((with_reducible refine gate_callee (f := 105) rfl ?_); refine goesL_ (some 18) rfl rfl Tryd.func105 (by kernel_rfl) rfl #[.string a0, .int .i64 a3] rfl lz ?_; (with_reducible refine (strings_explode.calls a0 a3 t374 _ A7.out).mono ?_); rintro e w8 ⟨v375, rfl, ho0, hb⟩; refine ⟨_, rfl, ?_⟩; have HO376 := Aside0.mk (Kd.R_lower ho0 (below_size (bz0 HB.out))); replace HB := Aside0.mk (below_step (bz0 HB.out) hb); (try clear hb); (try clear ho0)))
   go_ret
   exact ⟨_, gz, by refine rq ?_; exact HO376.out, (bz0 HB.out)⟩
  ·rw [if_neg c6] at H
   have c6b0 : (a1.toList == ([] : List UInt8)) = false := beq_eq_false_iff_ne.mpr c6
   have c6b1 : (a1.toList != ([] : List UInt8)) = true := bne_iff_ne.mpr c6
   have HC9 := Aside0.mk H
   clear H
   go_enter Tryd.func95, Tryd.ntmps95
   go_upto_if 20 with (fail)
   go_cut [3] (fun v3 wc => ∃ (kq : Nat) (x3_8 : Int), v3 = .int .i64 x3_8 /\ Aside0 (strings_genSplit.j0 kq a0 a1 a2 x3_8 = some r) /\ Aside0 (kq <= k) /\ Aside0 (Below w.heap.size w wc))
   case first =>
    have H := HC9.out
    clear HC9
    by_cases c10 : a3 < 0
    ·rw [if_pos c10] at H
     have c10b0 := decide_eq_true c10
     clear c10
     (first | rw [c10b0] | (simp only [i64_w, i32_w]; rw [c10b0]) | skip)
     replace H := bi H
     obtain ⟨t377, A110, H⟩ := H
     try dsimp only at H
     have A11 := Aside0.mk A110
     clear A110
     have H' := Aside0.mk H
     clear H
     go_wp2_with (first | ((with_reducible refine gate_callee (f := 106) rfl ?_); refine goesL_ (some 23) rfl rfl Tryd.func106 (by kernel_rfl) rfl #[.string a0, .string a1] rfl lz ?_; (with_reducible refine (strings_Count.calls a0 a1 t377 _ A11.out).mono ?_); rintro e w' ⟨rfl, ⟨nd, rfl⟩⟩; refine ⟨_, rfl, ?_⟩))
     go_meet
     case rel => exact ⟨_, (wrap64 (t377 + 1)), ez, H', ⟨by first | omega | exact Nat.le_refl _⟩, ⟨(bz0 HB.out)⟩⟩
    ·rw [if_neg c10] at H
     have c10b0 := decide_eq_false c10
     clear c10
     (first | rw [c10b0] | (simp only [i64_w, i32_w]; rw [c10b0]) | skip)
     have H' := Aside0.mk H
     clear H
     go_wp2
     go_meet
     case rel => exact ⟨_, (a3), ez, H', ⟨by first | omega | exact Nat.le_refl _⟩, ⟨(bz0 HB.out)⟩⟩
   case rest =>
    clear HC9
    try clear c1
    try clear p2
    try clear c5
    try clear c5b0
    try clear c5b1
    try clear c6
    try clear c6b0
    try clear c6b1
    try clear p6
    try clear c9
    try clear c10
    try clear c10b0
    obtain ⟨kq, x3_8, rfl, HA, HJ8, HB⟩ := hcut
    cases kq with
    | zero => exact absurd HA.out (by simp [strings_genSplit.j0])
    | succ kj8 =>
     have H := HA.out
     clear HA
     simp only [strings_genSplit.j0] at H
     obtain ⟨ji12, hji12⟩ : ∃ j_ : Int, (mn x3_8 (wrap64 ((a0.size : Int) + 1))) = j_ := ⟨_, rfl⟩
     replace H : (if 0 <= (ji12) then (if (ji12 : Int).toNat <= 17592186044416 then (strings_genSplit.l0 kj8 a0 a1 a2 (wrap64 ((ji12) - 1)) (List.replicate (ji12 : Int).toNat (⟨#[]⟩ : ByteArray)) 0) else (none)) else (none)) = some r := by first | (rw [hji12] at H; exact H) | (simp only [hji12] at H ⊢; exact H)
     have hji12_ : (if (wrap64 ((a0.size : Int) + 1)) < x3_8 then (wrap64 ((a0.size : Int) + 1)) else x3_8) = ji12 := hji12
     replace H := iz H
     obtain ⟨c13, H⟩ := H
     have c13b0 := eq_true c13
     have c13b1 : decide (0 <= (ji12)) = true := decide_eq_true c13
     clear c13
     replace H := iz H
     obtain ⟨c14, H⟩ := H
     have c14b0 := eq_true c14
     have c14b1 : decide ((ji12 : Int).toNat <= 17592186044416) = true := decide_eq_true c14
     clear c14
     obtain ⟨y378, hy378⟩ : ∃ y_ : List ByteArray, y_ = (List.replicate (ji12 : Int).toNat (⟨#[]⟩ : ByteArray)) := ⟨_, rfl⟩
     replace H : (strings_genSplit.l0 kj8 a0 a1 a2 (wrap64 ((ji12) - 1)) y378 0) = some r := yz hy378 H
     have Ny378 := Aside0.mk hy378
     clear hy378
     have H' := Aside0.mk H
     clear H
     go_wp2_with (first | ((with_reducible refine gate_dst (N := 31) rfl ?_); refine Kd.R_make Kd.string _ 9 rfl (N := 31) rfl 32 _ _ rfl ji12 rfl rfl Tryd.underlying32 (.string ⟨#[]⟩) 16 info9 rfl (by decide) (by omega) (⟨#[]⟩ : ByteArray) (ok := fun _ => True) (okp := fun _ => True) rfl (fun _ hk => hk) trivial (of_decide_eq_true az) (Nat.le_trans (Nat.mul_le_mul_right _ (of_decide_eq_true az : ji12.toNat <= 17592186044416)) (by omega)) (Below.refl _ _) (Nat.le_refl _) ?_; intro v379 w15 ho16 hb hg_ hnew_; clear hg_ hnew_; (first | rw [<- Ny378.out] at ho16 | (simp only [Int.reduceToNat] at ho16; rw [<- Ny378.out] at ho16)); have HO380 := Aside0.mk (Kd.R_lower ho16 (below_size (bz0 HB.out))); replace HB := Aside0.mk (below_step (bz0 HB.out) hb); clear hb ho16))
     (try simp only [Act.put, sz1, sz2, sz3])
     go_loopg [0, 10] kj8 (fun kq v0 v10 w' => ∃ (x0_2 : ByteArray) (x9_2 : List ByteArray) (x10_2 : Int), v0 = .string x0_2 /\ v10 = .int .i64 x10_2 /\ Aside0 (strings_genSplit.l0 kq x0_2 a1 a2 (wrap64 ((ji12) - 1)) x9_2 x10_2 = some r) /\ Aside0 (kq <= kj8) /\ Aside0 (Kd.R Kd.string 9 w' w.heap.size (fun _ => True) v379 x9_2) /\ Aside0 (Below w.heap.size w w'))
     case atStart => exact ⟨(a0), (y378), (0), ez, ez, H', ⟨Nat.le_refl _⟩, ⟨by refine rq ?_; exact HO380.out⟩, ⟨(bz0 HB.out)⟩⟩
     case round =>
      clear H'
      try clear c1
      try clear p2
      try clear c5
      try clear c5b0
      try clear c5b1
      try clear c6
      try clear c6b0
      try clear c6b1
      try clear p6
      try clear c9
      try clear c10
      try clear c10b0
      try clear c13
      try clear c13b0
      try clear c13b1
      try clear c14
      try clear c14b0
      try clear c14b1
      try clear p2
      try clear p6
      obtain ⟨x0_2, x9_2, x10_2, rfl, rfl, HA, HK2, HO_9, HB⟩ := hrel
      cases gk with
      | zero => exact absurd HA.out (by simp [strings_genSplit.l0])
      | succ k2 =>
       have H := HA.out
       clear HA
       simp only [strings_genSplit.l0] at H
       by_cases c17 : x10_2 < (wrap64 ((ji12) - 1))
       ·rw [if_pos c17] at H
        have c17b0 := decide_eq_true c17
        clear c17
        replace H := bi H
        obtain ⟨t381, A180, H⟩ := H
        try dsimp only at H
        have A18 := Aside0.mk A180
        clear A180
        by_cases c19 : t381 < 0
        ·rw [if_pos c19] at H
         have c19b0 := decide_eq_true c19
         clear c19
         replace H := iz H
         obtain ⟨c20, H⟩ := H
         have c20b0 := decide_eq_true c20
         clear c20
         replace H := iz H
         obtain ⟨c21, H⟩ := H
         have c21b0 := decide_eq_true c21
         clear c21
         obtain ⟨y382, hy382⟩ : ∃ y_ : List ByteArray, y_ = (x9_2.set (x10_2 : Int).toNat x0_2) := ⟨_, rfl⟩
         replace H : (if 0 <= (wrap64 (x10_2 + 1)) then (if (wrap64 (x10_2 + 1)) <= (x9_2.length : Int) then (some (y382.take ((wrap64 (x10_2 + 1)) : Int).toNat)) else (none)) else (none)) = some r := yz hy382 H
         have Ny382 := Aside0.mk hy382
         clear hy382
         obtain ⟨ji23, hji23⟩ : ∃ j_ : Int, (wrap64 (x10_2 + 1)) = j_ := ⟨_, rfl⟩
         replace H : (if 0 <= (ji23) then (if (ji23) <= (x9_2.length : Int) then (some (y382.take ((ji23) : Int).toNat)) else (none)) else (none)) = some r := by first | (rw [hji23] at H; exact H) | (simp only [hji23] at H ⊢; exact H)
         (try rw [hji23] at A18)
         have hji23w : (IntKind.i64.wrap (x10_2 + 1)) = ji23 := (i64_w _).trans hji23
         replace H := iz H
         obtain ⟨c24, H⟩ := H
         have c24b0 := eq_true c24
         have c24b1 : decide (0 <= (ji23)) = true := decide_eq_true c24
         clear c24
         replace H := iz H
         obtain ⟨c25, H⟩ := H
         have c25b0 := eq_true c25
         have c25b1 : decide ((ji23) <= (x9_2.length : Int)) = true := decide_eq_true c25
         clear c25
         obtain ⟨y383, hy383⟩ : ∃ y_ : List ByteArray, y_ = (y382.take ((ji23) : Int).toNat) := ⟨_, rfl⟩
         replace H : (some y383) = some r := yz hy383 H
         have Ny383 := Aside0.mk hy383
         clear hy383
         obtain rfl := Option.some.inj H
         go_wp2_with (first | ((with_reducible refine gate_callee (f := 107) rfl ?_); refine goesL_ (some 39) rfl rfl Tryd.func107 (by kernel_rfl) rfl #[.string x0_2, .string a1] rfl lz ?_; (with_reducible refine (strings_Index.calls x0_2 a1 t381 _ A18.out).mono ?_); rintro e w' ⟨rfl, ⟨nd, rfl⟩⟩; refine ⟨_, rfl, ?_⟩; (try (rw [drewN_self wr]; generalize hq_ : World.drewN wr _ = wr; have n0_ : Aside0 (Kd.R Kd.string 9 wr w.heap.size (fun _ => True) v379 x9_2) := ⟨by rw [<- hq_]; exact (rz HO_9.out)⟩; have n1_ : Aside0 (Below w.heap.size w wr) := ⟨by rw [<- hq_]; exact (bz0 HB.out)⟩; clear HO_9 HB hq_; have HO_9 := n0_; have HB := n1_; clear n0_ n1_)); have p22 : 0 <= (x10_2 : Int) := oz; have q22 : (x10_2 : Int) < ((x9_2.length : Int) : Int) := oz; obtain ⟨go22, co22, eo22, gb22, gl22, cl22, HG22⟩ := Kd.R_form HO_9.out (by omega); (first | cases eo22 | (injection eo22 with ea_ en_ ec_; (first | subst ea_ | (injection ea_ with ea_; subst ea_)); subst ec_; clear en_)); have GB22 := Aside0.mk gb22; have GG22 := Aside0.mk HG22; clear gb22 gl22 HG22; obtain ⟨hx22_0, hf22_0⟩ := Kd.R_celln (⟨#[]⟩ : ByteArray) HO_9.out (x10_2 : Int) p22 q22; replace p22 := eq_true p22; replace q22 := eq_true q22; obtain ⟨hy26_, hz26_⟩ := Kd.R_celln (⟨#[]⟩ : ByteArray) HO_9.out (x10_2 : Int) (of_decide_eq_true az) (of_decide_eq_true az); have HP26 := Kd.R_putg HO_9.out (x10_2 : Int) x0_2) | ((with_reducible refine gate_store (t := 9) (p := 61) rfl ?_); refine store_event (t := 9) (p := 61) (v := ?vo_w27) (w1 := (wr.setCell ⟨go22, (x10_2 : Int).toNat, none⟩ (.string x0_2))) ?hg ?ho ?hn ?hr ?_; (case ho => rfl); (case hg => rfl); (case hn => rfl); (case hr => exact vz); intro w27 hw; have hg : wr.grownBy w27 (some go22) := (by rw [hw]; exact HP26.2); have hp_ : Kd.R Kd.string 9 w27 w.heap.size (fun _ => True) (.slice (some ⟨go22, 0, none⟩) x9_2.length co22) y382 := (by rw [hw, Ny382.out]; exact HP26.1); clear HP26; replace HO_9 := Aside0.mk (hp_); replace HB := Aside0.mk ((by rw [hw]; exact below_set (HB.out) GB22.out : Below w.heap.size w w27)); clear hg hw hp_; have q28 : ((ji23) : Int) <= ((x9_2.length : Int) : Int) := oz; obtain ⟨i028, hi028, _, hsz28, _⟩ := info_parts info9; have hcut28 := cut_to (P := Tryd.prog) 32 9 .i64 Tryd.underlying32 hi028 (some ⟨go22, 0, none⟩) x9_2.length co22 (ji23) (of_decide_eq_true az) q28 (Kd.R_reads' HO_9.out).2.1; have hlen28 : y382.length = x9_2.length := (by rw [Ny382.out, List.length_set]); have hr28 := Kd.R_take (m := ((ji23) : Int).toNat) HO_9.out (by omega); have hy28 : y383.length = ((ji23) : Int).toNat := (by rw [Ny383.out, List.length_take]; omega); rw [<- Ny383.out] at hr28; rw [<- hy28] at hr28 hcut28; clear hlen28; clear hy28 hi028 hsz28 HO_9; have HO385 := Aside0.mk hr28; clear hr28; replace q28 := eq_true q28))
         go_ret
         exact ⟨_, by first | rfl | (simp [errW_none, errW_some] <;> rfl) | (simp only [<- hji12, <- hji23]; first | rfl | (simp [errW_none, errW_some] <;> rfl)) | (simp [*, errW_none, errW_some] <;> rfl), by refine rq ?_; exact HO385.out, (bz0 HB.out)⟩
        ·rw [if_neg c19] at H
         have c19b0 := decide_eq_false c19
         clear c19
         obtain ⟨ji29, hji29⟩ : ∃ j_ : Int, (wrap64 (t381 + a2)) = j_ := ⟨_, rfl⟩
         replace H : (if 0 <= (ji29) then (if (ji29) <= (x0_2.size : Int) then (if 0 <= x10_2 then (if x10_2 < (x9_2.length : Int) then (if 0 <= (wrap64 (t381 + (a1.size : Int))) then (if (wrap64 (t381 + (a1.size : Int))) <= (x0_2.size : Int) then (strings_genSplit.l0 k2 (x0_2.extract ((wrap64 (t381 + (a1.size : Int))) : Int).toNat x0_2.size) a1 a2 (wrap64 ((ji12) - 1)) (x9_2.set (x10_2 : Int).toNat (x0_2.extract 0 ((ji29) : Int).toNat)) (wrap64 (x10_2 + 1))) else (none)) else (none)) else (none)) else (none)) else (none)) else (none)) = some r := by first | (rw [hji29] at H; exact H) | (simp only [hji29] at H ⊢; exact H)
         (try rw [hji29] at A18)
         have hji29w : (IntKind.i64.wrap (t381 + a2)) = ji29 := (i64_w _).trans hji29
         replace H := iz H
         obtain ⟨c30, H⟩ := H
         have c30b0 := eq_true c30
         have c30b1 : decide (0 <= (ji29)) = true := decide_eq_true c30
         clear c30
         replace H := iz H
         obtain ⟨c31, H⟩ := H
         have c31b0 := eq_true c31
         have c31b1 : decide ((ji29) <= (x0_2.size : Int)) = true := decide_eq_true c31
         clear c31
         replace H := iz H
         obtain ⟨c32, H⟩ := H
         have c32b0 := decide_eq_true c32
         clear c32
         replace H := iz H
         obtain ⟨c33, H⟩ := H
         have c33b0 := decide_eq_true c33
         clear c33
         obtain ⟨y386, hy386⟩ : ∃ y_ : List ByteArray, y_ = (x9_2.set (x10_2 : Int).toNat (x0_2.extract 0 ((ji29) : Int).toNat)) := ⟨_, rfl⟩
         replace H : (if 0 <= (wrap64 (t381 + (a1.size : Int))) then (if (wrap64 (t381 + (a1.size : Int))) <= (x0_2.size : Int) then (strings_genSplit.l0 k2 (x0_2.extract ((wrap64 (t381 + (a1.size : Int))) : Int).toNat x0_2.size) a1 a2 (wrap64 ((ji12) - 1)) y386 (wrap64 (x10_2 + 1))) else (none)) else (none)) = some r := yz hy386 H
         have Ny386 := Aside0.mk hy386
         clear hy386
         obtain ⟨ji35, hji35⟩ : ∃ j_ : Int, (wrap64 (t381 + (a1.size : Int))) = j_ := ⟨_, rfl⟩
         replace H : (if 0 <= (ji35) then (if (ji35) <= (x0_2.size : Int) then (strings_genSplit.l0 k2 (x0_2.extract ((ji35) : Int).toNat x0_2.size) a1 a2 (wrap64 ((ji12) - 1)) y386 (wrap64 (x10_2 + 1))) else (none)) else (none)) = some r := by first | (rw [hji35] at H; exact H) | (simp only [hji35] at H ⊢; exact H)
         (try rw [hji35] at A18)
         have hji35w : (IntKind.i64.wrap (t381 + (a1.size : Int))) = ji35 := (i64_w _).trans hji35
         replace H := iz H
         obtain ⟨c36, H⟩ := H
         have c36b0 := eq_true c36
         have c36b1 : decide (0 <= (ji35)) = true := decide_eq_true c36
         clear c36
         replace H := iz H
         obtain ⟨c37, H⟩ := H
         have c37b0 := eq_true c37
         have c37b1 : decide ((ji35) <= (x0_2.size : Int)) = true := decide_eq_true c37
         clear c37
         have H' := Aside0.mk H
         clear H
         go_wp2_with (first | ((with_reducible refine gate_callee (f := 107) rfl ?_); refine goesL_ (some 39) rfl rfl Tryd.func107 (by kernel_rfl) rfl #[.string x0_2, .string a1] rfl lz ?_; (with_reducible refine (strings_Index.calls x0_2 a1 t381 _ A18.out).mono ?_); rintro e w' ⟨rfl, ⟨nd, rfl⟩⟩; refine ⟨_, rfl, ?_⟩; (try (rw [drewN_self wr]; generalize hq_ : World.drewN wr _ = wr; have n0_ : Aside0 (Kd.R Kd.string 9 wr w.heap.size (fun _ => True) v379 x9_2) := ⟨by rw [<- hq_]; exact (rz HO_9.out)⟩; have n1_ : Aside0 (Below w.heap.size w wr) := ⟨by rw [<- hq_]; exact (bz0 HB.out)⟩; clear HO_9 HB hq_; have HO_9 := n0_; have HB := n1_; clear n0_ n1_)); have p34 : 0 <= (x10_2 : Int) := oz; have q34 : (x10_2 : Int) < ((x9_2.length : Int) : Int) := oz; obtain ⟨go34, co34, eo34, gb34, gl34, cl34, HG34⟩ := Kd.R_form HO_9.out (by omega); (first | cases eo34 | (injection eo34 with ea_ en_ ec_; (first | subst ea_ | (injection ea_ with ea_; subst ea_)); subst ec_; clear en_)); have GB34 := Aside0.mk gb34; have GG34 := Aside0.mk HG34; clear gb34 gl34 HG34; obtain ⟨hx34_0, hf34_0⟩ := Kd.R_celln (⟨#[]⟩ : ByteArray) HO_9.out (x10_2 : Int) p34 q34; replace p34 := eq_true p34; replace q34 := eq_true q34; obtain ⟨hy38_, hz38_⟩ := Kd.R_celln (⟨#[]⟩ : ByteArray) HO_9.out (x10_2 : Int) (of_decide_eq_true az) (of_decide_eq_true az); have HP38 := Kd.R_putg HO_9.out (x10_2 : Int) (x0_2.extract 0 ((ji29) : Int).toNat)) | ((with_reducible refine gate_store (t := 9) (p := 49) rfl ?_); refine store_event (t := 9) (p := 49) (v := ?vo_w39) (w1 := (wr.setCell ⟨go34, (x10_2 : Int).toNat, none⟩ (.string (x0_2.extract 0 ((ji29) : Int).toNat)))) ?hg ?ho ?hn ?hr ?_; (case ho => rfl); (case hg => rfl); (case hn => rfl); (case hr => exact vz); intro w39 hw; have hg : wr.grownBy w39 (some go34) := (by rw [hw]; exact HP38.2); have hp_ : Kd.R Kd.string 9 w39 w.heap.size (fun _ => True) (.slice (some ⟨go34, 0, none⟩) x9_2.length co34) y386 := (by rw [hw, Ny386.out]; exact HP38.1); clear HP38; replace HO_9 := Aside0.mk (hp_); replace HB := Aside0.mk ((by rw [hw]; exact below_set (HB.out) GB34.out : Below w.heap.size w w39)); clear hg hw hp_))
         go_roundg k2
         case measure => have := HJ8.out; have := HK2.out; omega
         case rel => exact ⟨(x0_2.extract ((ji35) : Int).toNat x0_2.size), (y386), (wrap64 (x10_2 + 1)), (by first | rfl | (simp; done) | (simp only [<- hji35] <;> (first | rfl | simp)) | (simp [*]; done)), ez, H', ⟨by have := HJ8.out; have := HK2.out; omega⟩, ⟨by refine rq ?_; exact HO_9.out⟩, ⟨(bz0 HB.out)⟩⟩
       ·rw [if_neg c17] at H
        have c17b0 := decide_eq_false c17
        clear c17
        replace H := iz H
        obtain ⟨c40, H⟩ := H
        have c40b0 := decide_eq_true c40
        clear c40
        replace H := iz H
        obtain ⟨c41, H⟩ := H
        have c41b0 := decide_eq_true c41
        clear c41
        obtain ⟨y387, hy387⟩ : ∃ y_ : List ByteArray, y_ = (x9_2.set (x10_2 : Int).toNat x0_2) := ⟨_, rfl⟩
        replace H : (if 0 <= (wrap64 (x10_2 + 1)) then (if (wrap64 (x10_2 + 1)) <= (x9_2.length : Int) then (some (y387.take ((wrap64 (x10_2 + 1)) : Int).toNat)) else (none)) else (none)) = some r := yz hy387 H
        have Ny387 := Aside0.mk hy387
        clear hy387
        obtain ⟨ji43, hji43⟩ : ∃ j_ : Int, (wrap64 (x10_2 + 1)) = j_ := ⟨_, rfl⟩
        replace H : (if 0 <= (ji43) then (if (ji43) <= (x9_2.length : Int) then (some (y387.take ((ji43) : Int).toNat)) else (none)) else (none)) = some r := by first | (rw [hji43] at H; exact H) | (simp only [hji43] at H ⊢; exact H)
        have hji43w : (IntKind.i64.wrap (x10_2 + 1)) = ji43 := (i64_w _).trans hji43
        replace H := iz H
        obtain ⟨c44, H⟩ := H
        have c44b0 := eq_true c44
        have c44b1 : decide (0 <= (ji43)) = true := decide_eq_true c44
        clear c44
        replace H := iz H
        obtain ⟨c45, H⟩ := H
        have c45b0 := eq_true c45
        have c45b1 : decide ((ji43) <= (x9_2.length : Int)) = true := decide_eq_true c45
        clear c45
        obtain ⟨y388, hy388⟩ : ∃ y_ : List ByteArray, y_ = (y387.take ((ji43) : Int).toNat) := ⟨_, rfl⟩
        replace H : (some y388) = some r := yz hy388 H
        have Ny388 := Aside0.mk hy388
        clear hy388
        obtain rfl := Option.some.inj H
        have p42 : 0 <= (x10_2 : Int) := oz
        have q42 : (x10_2 : Int) < ((x9_2.length : Int) : Int) := oz
        obtain ⟨go42, co42, eo42, gb42, gl42, cl42, HG42⟩ := Kd.R_form HO_9.out (by omega)
        (first | cases eo42 | (injection eo42 with ea_ en_ ec_; (first | subst ea_ | (injection ea_ with ea_; subst ea_)); subst ec_; clear en_))
        have GB42 := Aside0.mk gb42
        have GG42 := Aside0.mk HG42
        clear gb42 gl42 HG42
        obtain ⟨hx42_0, hf42_0⟩ := Kd.R_celln (⟨#[]⟩ : ByteArray) HO_9.out (x10_2 : Int) p42 q42
        replace p42 := eq_true p42
        replace q42 := eq_true q42
        have HP46 := Kd.R_putg HO_9.out (x10_2 : Int) x0_2
        go_wp2_with (first | ((with_reducible refine gate_store (t := 9) (p := 61) rfl ?_); refine store_event (t := 9) (p := 61) (v := ?vo_w47) (w1 := (wr.setCell ⟨go42, (x10_2 : Int).toNat, none⟩ (.string x0_2))) ?hg ?ho ?hn ?hr ?_; (case ho => rfl); (case hg => rfl); (case hn => rfl); (case hr => exact vz); intro w47 hw; have hg : wr.grownBy w47 (some go42) := (by rw [hw]; exact HP46.2); have hp_ : Kd.R Kd.string 9 w47 w.heap.size (fun _ => True) (.slice (some ⟨go42, 0, none⟩) x9_2.length co42) y387 := (by rw [hw, Ny387.out]; exact HP46.1); clear HP46; replace HO_9 := Aside0.mk (hp_); replace HB := Aside0.mk ((by rw [hw]; exact below_set (HB.out) GB42.out : Below w.heap.size w w47)); clear hg hw hp_; have q48 : ((ji43) : Int) <= ((x9_2.length : Int) : Int) := oz; obtain ⟨i048, hi048, _, hsz48, _⟩ := info_parts info9; have hcut48 := cut_to (P := Tryd.prog) 32 9 .i64 Tryd.underlying32 hi048 (some ⟨go42, 0, none⟩) x9_2.length co42 (ji43) (of_decide_eq_true az) q48 (Kd.R_reads' HO_9.out).2.1; have hlen48 : y387.length = x9_2.length := (by rw [Ny387.out, List.length_set]); have hr48 := Kd.R_take (m := ((ji43) : Int).toNat) HO_9.out (by omega); have hy48 : y388.length = ((ji43) : Int).toNat := (by rw [Ny388.out, List.length_take]; omega); rw [<- Ny388.out] at hr48; rw [<- hy48] at hr48 hcut48; clear hlen48; clear hy48 hi048 hsz48 HO_9; have HO390 := Aside0.mk hr48; clear hr48; replace q48 := eq_true q48))
        go_ret
        exact ⟨_, by first | rfl | (simp [errW_none, errW_some] <;> rfl) | (simp only [<- hji12, <- hji43]; first | rfl | (simp [errW_none, errW_some] <;> rfl)) | (simp [*, errW_none, errW_some] <;> rfl), by refine rq ?_; exact HO390.out, (bz0 HB.out)⟩
def strings_Split.f (k : Nat) (a0 : ByteArray) (a1 : ByteArray) : Option (List ByteArray) := (strings_genSplit.f k a0 a1 0 (-1)).bind fun t391 => (some t391)
theorem strings_Split.mono : ∀ a0 a1 k, LeO (strings_Split.f k a0 a1) (strings_Split.f (k + 1) a0 a1) := by
 intro a0 a1 k
 unfold strings_Split.f
 with_reducible repeat' first | exact strings_genSplit.mono _ _ _ _ _ | exact lrz _ | exact lnz _ | refine liz ?_ ?_ | refine lbz ?_ fun _ => ?_
set_option maxHeartbeats 8000000 in
set_option maxRecDepth 100000 in
theorem strings_Split.calls (k : Nat) (a0 : ByteArray) (a1 : ByteArray) (r : List ByteArray) (w : World) (h : strings_Split.f k a0 a1 = some r) :
  Calls Tryd.prog 84 #[.string a0, .string a1] w fun e w' => ∃ v0_ : Value, e = .returned (v0_) /\ Kd.R Kd.string 9 w' w.heap.size (fun _ => True) v0_ r /\ Below w.heap.size w w' := by
 have HB := Aside0.mk (Below.refl w.heap.size w)
 have H : ((strings_genSplit.f k a0 a1 0 (-1)).bind fun t391 => (some t391)) = some r := h
 clear h
 replace H := bi H
 obtain ⟨t391, A30, H⟩ := H
 try dsimp only at H
 have A3 := Aside0.mk A30
 clear A30
 obtain rfl := Option.some.inj H
 go_enter Tryd.func84, Tryd.ntmps84
 go_wp2_with (first | ((with_reducible refine gate_callee (f := 95) rfl ?_); refine goesL_ (some 7) rfl rfl Tryd.func95 (by kernel_rfl) rfl #[.string a0, .string a1, .int .i64 0, .int .i64 (-1)] rfl lz ?_; (with_reducible refine (strings_genSplit.calls k a0 a1 0 (-1) t391 _ A3.out).mono ?_); rintro e w4 ⟨v392, rfl, ho0, hb⟩; refine ⟨_, rfl, ?_⟩; have HO393 := Aside0.mk (Kd.R_lower ho0 (below_size (bz0 HB.out))); replace HB := Aside0.mk (below_step (bz0 HB.out) hb); (try clear hb); (try clear ho0)))
 go_ret
 exact ⟨_, gz, by refine rq ?_; exact HO393.out, (bz0 HB.out)⟩
def impl_IsKey.l0 : Nat -> ByteArray -> List ByteArray -> Int -> Int -> Option (Bool)
 | 0, _, _, _, _ => none
 | k + 1, x0, x5, x6, x7 => if x7 < x6 then (if 0 <= x7 then (if x7 < (x5.length : Int) then (if (rdOf ByteArray.empty x5 x7).toList = x0.toList then (some true) else (impl_IsKey.l0 k x0 x5 x6 (wrap64 (x7 + 1)))) else (none)) else (none)) else (some false)
def impl_IsKey.f (k : Nat) (a0 : ByteArray) : Option (Bool) := (strings_Split.f k (⟨#[102, 117, 110, 32, 97, 112, 112, 32, 108, 101, 116, 32, 114, 101, 99, 32, 105, 102, 32, 97, 100, 100, 32, 115, 117, 98, 32, 108, 101, 115, 115, 32, 115, 97, 109, 101, 32, 112, 97, 105, 114, 32, 102, 115, 116, 32, 115, 110, 100, 32, 110, 105, 108, 32, 99, 111, 110, 115, 32, 109, 97, 116, 99, 104, 32, 114, 101, 102, 32, 103, 101, 116, 32, 115, 101, 116, 32, 114, 97, 105, 115, 101, 32, 116, 114, 121]⟩ : ByteArray) (⟨#[32]⟩ : ByteArray)).bind fun t394 => (impl_IsKey.l0 k a0 t394 (t394.length : Int) 0)
theorem impl_IsKey.mono_l : ∀ k, (∀ y0 y1 y2 y3, LeO (impl_IsKey.l0 k y0 y1 y2 y3) (impl_IsKey.l0 (k + 1) y0 y1 y2 y3))
 | 0 => fun _ _ _ _ r h => by simp [impl_IsKey.l0] at h
 | k + 1 => by
  have ih0 := impl_IsKey.mono_l k
  ·intro y0 y1 y2 y3
   unfold impl_IsKey.l0
   with_reducible repeat' first | exact ih0 _ _ _ _ | exact strings_Split.mono _ _ _ | exact lrz _ | exact lnz _ | refine liz ?_ ?_ | refine lbz ?_ fun _ => ?_
theorem impl_IsKey.mono : ∀ a0 k, LeO (impl_IsKey.f k a0) (impl_IsKey.f (k + 1) a0) := by
 intro a0 k
 have ih0 := impl_IsKey.mono_l k
 unfold impl_IsKey.f
 with_reducible repeat' first | exact ih0 _ _ _ _ | exact strings_Split.mono _ _ _ | exact lrz _ | exact lnz _ | refine liz ?_ ?_ | refine lbz ?_ fun _ => ?_
set_option maxHeartbeats 8000000 in
set_option maxRecDepth 100000 in
theorem impl_IsKey.calls (k : Nat) (a0 : ByteArray) (r : Bool) (w : World) (h : impl_IsKey.f k a0 = some r) :
  Calls Tryd.prog 103 #[.string a0] w fun e w' => e = .returned (.bool r) /\ Below w.heap.size w w' := by
 have HB := Aside0.mk (Below.refl w.heap.size w)
 have H : ((strings_Split.f k (⟨#[102, 117, 110, 32, 97, 112, 112, 32, 108, 101, 116, 32, 114, 101, 99, 32, 105, 102, 32, 97, 100, 100, 32, 115, 117, 98, 32, 108, 101, 115, 115, 32, 115, 97, 109, 101, 32, 112, 97, 105, 114, 32, 102, 115, 116, 32, 115, 110, 100, 32, 110, 105, 108, 32, 99, 111, 110, 115, 32, 109, 97, 116, 99, 104, 32, 114, 101, 102, 32, 103, 101, 116, 32, 115, 101, 116, 32, 114, 97, 105, 115, 101, 32, 116, 114, 121]⟩ : ByteArray) (⟨#[32]⟩ : ByteArray)).bind fun t394 => (impl_IsKey.l0 k a0 t394 (t394.length : Int) 0)) = some r := h
 clear h
 replace H := bi H
 obtain ⟨t394, A20, H⟩ := H
 try dsimp only at H
 have A2 := Aside0.mk A20
 clear A20
 have H' := Aside0.mk H
 clear H
 go_enter Tryd.func103, Tryd.ntmps103
 go_wp2_with (first | ((with_reducible refine gate_callee (f := 84) rfl ?_); refine goesL_ (some 5) rfl rfl Tryd.func84 (by kernel_rfl) rfl #[.string (⟨#[102, 117, 110, 32, 97, 112, 112, 32, 108, 101, 116, 32, 114, 101, 99, 32, 105, 102, 32, 97, 100, 100, 32, 115, 117, 98, 32, 108, 101, 115, 115, 32, 115, 97, 109, 101, 32, 112, 97, 105, 114, 32, 102, 115, 116, 32, 115, 110, 100, 32, 110, 105, 108, 32, 99, 111, 110, 115, 32, 109, 97, 116, 99, 104, 32, 114, 101, 102, 32, 103, 101, 116, 32, 115, 101, 116, 32, 114, 97, 105, 115, 101, 32, 116, 114, 121]⟩ : ByteArray), .string (⟨#[32]⟩ : ByteArray)] rfl lz ?_; (with_reducible refine (strings_Split.calls k (⟨#[102, 117, 110, 32, 97, 112, 112, 32, 108, 101, 116, 32, 114, 101, 99, 32, 105, 102, 32, 97, 100, 100, 32, 115, 117, 98, 32, 108, 101, 115, 115, 32, 115, 97, 109, 101, 32, 112, 97, 105, 114, 32, 102, 115, 116, 32, 115, 110, 100, 32, 110, 105, 108, 32, 99, 111, 110, 115, 32, 109, 97, 116, 99, 104, 32, 114, 101, 102, 32, 103, 101, 116, 32, 115, 101, 116, 32, 114, 97, 105, 115, 101, 32, 116, 114, 121]⟩ : ByteArray) (⟨#[32]⟩ : ByteArray) t394 _ A2.out).mono ?_); rintro e w3 ⟨v395, rfl, ho0, hb⟩; refine ⟨_, rfl, ?_⟩; have HO396 := Aside0.mk (Kd.R_lower ho0 (below_size (bz0 HB.out))); replace HB := Aside0.mk (below_step (bz0 HB.out) hb); (try clear hb); (try clear ho0); obtain ⟨Ao4, co4, eo4⟩ := Kd.R_slice HO396.out; subst eo4))
 go_loopg [7] k (fun kq v7 w' => ∃ (x7_1 : Int), v7 = .int .i64 x7_1 /\ Aside0 (impl_IsKey.l0 kq a0 t394 (t394.length : Int) x7_1 = some r) /\ Aside0 (kq <= k) /\ Aside0 (Kd.R Kd.string 9 w' w.heap.size (fun _ => True) (.slice Ao4 t394.length co4) t394) /\ Aside0 (Below w.heap.size w w'))
 case atStart => exact ⟨(0), ez, H', ⟨Nat.le_refl _⟩, ⟨by refine rq ?_; exact HO396.out⟩, ⟨(bz0 HB.out)⟩⟩
 case round =>
  clear H'
  try clear c1
  try clear p2
  obtain ⟨x7_1, rfl, HA, HK1, HO_5, HB⟩ := hrel
  cases gk with
  | zero => exact absurd HA.out (by simp [impl_IsKey.l0])
  | succ k1 =>
   have H := HA.out
   clear HA
   simp only [impl_IsKey.l0] at H
   by_cases c5 : x7_1 < (t394.length : Int)
   ·rw [if_pos c5] at H
    have c5b0 := decide_eq_true c5
    clear c5
    replace H := iz H
    obtain ⟨c6, H⟩ := H
    have c6b0 := decide_eq_true c6
    clear c6
    replace H := iz H
    obtain ⟨c7, H⟩ := H
    have c7b0 := decide_eq_true c7
    clear c7
    by_cases c8 : (rdOf ByteArray.empty t394 x7_1).toList = a0.toList
    ·rw [if_pos c8] at H
     have c8b0 : ((rdOf ByteArray.empty t394 x7_1).toList == a0.toList) = true := beq_iff_eq.mpr c8
     have c8b1 : ((rdOf ByteArray.empty t394 x7_1).toList != a0.toList) = false := bne_eq_false_iff_eq.mpr c8
     clear c8
     obtain rfl := Option.some.inj H
     have p397 : 0 <= (x7_1 : Int) := oz
     have q397 : x7_1 < (t394.length : Int) := oz
     obtain ⟨ad397, e397, hx397_0⟩ := Kd.at_string (Kd.R_reads' HO_5.out).2.2 x7_1 p397 q397
     cases e397
     replace p397 := eq_true p397
     replace q397 := eq_true q397
     go_wp2
     go_ret
     exact ⟨gz, (bz0 HB.out)⟩
    ·rw [if_neg c8] at H
     have c8b0 : ((rdOf ByteArray.empty t394 x7_1).toList == a0.toList) = false := beq_eq_false_iff_ne.mpr c8
     have c8b1 : ((rdOf ByteArray.empty t394 x7_1).toList != a0.toList) = true := bne_iff_ne.mpr c8
     have H' := Aside0.mk H
     clear H
     have p397 : 0 <= (x7_1 : Int) := oz
     have q397 : x7_1 < (t394.length : Int) := oz
     obtain ⟨ad397, e397, hx397_0⟩ := Kd.at_string (Kd.R_reads' HO_5.out).2.2 x7_1 p397 q397
     cases e397
     replace p397 := eq_true p397
     replace q397 := eq_true q397
     go_wp2
     go_roundg k1
     case measure => have := HK1.out; omega
     case rel => exact ⟨(wrap64 (x7_1 + 1)), ez, H', ⟨by have := HK1.out; omega⟩, ⟨by refine rq ?_; exact HO_5.out⟩, ⟨(bz0 HB.out)⟩⟩
   ·rw [if_neg c5] at H
    have c5b0 := decide_eq_false c5
    clear c5
    obtain rfl := Option.some.inj H
    go_wp2
    go_ret
    exact ⟨gz, (bz0 HB.out)⟩
def impl_isName.f (k : Nat) (a0 : ByteArray) : Option (Bool) := (impl_IsWord.f k a0).bind fun t398 => (if t398 = true then ((impl_IsKey.f k a0).bind fun t399 => (some (!t399))) else (some false))
theorem impl_isName.mono : ∀ a0 k, LeO (impl_isName.f k a0) (impl_isName.f (k + 1) a0) := by
 intro a0 k
 unfold impl_isName.f
 with_reducible repeat' first | exact impl_IsKey.mono _ _ | exact impl_IsWord.mono _ _ | exact lrz _ | exact lnz _ | refine liz ?_ ?_ | refine lbz ?_ fun _ => ?_
set_option maxHeartbeats 8000000 in
set_option maxRecDepth 100000 in
theorem impl_isName.calls (k : Nat) (a0 : ByteArray) (r : Bool) (w : World) (h : impl_isName.f k a0 = some r) :
  Calls Tryd.prog 93 #[.string a0] w fun e w' => e = .returned (.bool r) /\ Below w.heap.size w w' := by
 have HB := Aside0.mk (Below.refl w.heap.size w)
 have H : ((impl_IsWord.f k a0).bind fun t398 => (if t398 = true then ((impl_IsKey.f k a0).bind fun t399 => (some (!t399))) else (some false))) = some r := h
 clear h
 replace H := bi H
 obtain ⟨t398, A20, H⟩ := H
 try dsimp only at H
 have A2 := Aside0.mk A20
 clear A20
 by_cases c3 : t398 = true
 ·subst c3
  have H1 := hp H
  clear H
  have H := H1
  clear H1
  replace H := bi H
  obtain ⟨t399, A40, H⟩ := H
  try dsimp only at H
  have A4 := Aside0.mk A40
  clear A40
  obtain rfl := Option.some.inj H
  go_enter Tryd.func93, Tryd.ntmps93
  go_wp2_with (first | ((with_reducible refine gate_callee (f := 102) rfl ?_); refine goesL_ (some 4) rfl rfl Tryd.func102 (by kernel_rfl) rfl #[.string a0] rfl lz ?_; (with_reducible refine (impl_IsWord.calls k a0 true _ A2.out).mono ?_); rintro e w' ⟨rfl, ⟨nd, rfl⟩⟩; refine ⟨_, rfl, ?_⟩) | (go_at_call 103; (with_reducible refine (impl_IsKey.calls k a0 t399 _ A4.out).mono ?_); rintro e w5 ⟨rfl, hb⟩; replace HB := Aside0.mk (below_step (bz0 HB.out) hb); (try clear hb); (try clear hi)))
  go_ret
  exact ⟨gz, (bz0 HB.out)⟩
 ·replace c3 := Bool.eq_false_iff.mpr c3
  subst c3
  have H1 := hq H
  clear H
  have H := H1
  clear H1
  obtain rfl := Option.some.inj H
  go_enter Tryd.func93, Tryd.ntmps93
  go_wp2_with (first | ((with_reducible refine gate_callee (f := 102) rfl ?_); refine goesL_ (some 4) rfl rfl Tryd.func102 (by kernel_rfl) rfl #[.string a0] rfl lz ?_; (with_reducible refine (impl_IsWord.calls k a0 false _ A2.out).mono ?_); rintro e w' ⟨rfl, ⟨nd, rfl⟩⟩; refine ⟨_, rfl, ?_⟩))
  go_ret
  exact ⟨gz, (bz0 HB.out)⟩
def impl_nameFits.f (k : Nat) (a0 : ByteArray) (a1 : Bool) : Option (Bool) := if a1 = true then ((impl_isName.f k a0).bind fun t400 => (some t400)) else (some (a0.toList == ([] : List UInt8)))
theorem impl_nameFits.mono : ∀ a0 a1 k, LeO (impl_nameFits.f k a0 a1) (impl_nameFits.f (k + 1) a0 a1) := by
 intro a0 a1 k
 unfold impl_nameFits.f
 with_reducible repeat' first | exact impl_isName.mono _ _ | exact lrz _ | exact lnz _ | refine liz ?_ ?_ | refine lbz ?_ fun _ => ?_
set_option maxHeartbeats 8000000 in
set_option maxRecDepth 100000 in
theorem impl_nameFits.calls (k : Nat) (a0 : ByteArray) (a1 : Bool) (r : Bool) (w : World) (h : impl_nameFits.f k a0 a1 = some r) :
  Calls Tryd.prog 81 #[.string a0, .bool a1] w fun e w' => e = .returned (.bool r) /\ Below w.heap.size w w' := by
 have HB := Aside0.mk (Below.refl w.heap.size w)
 have H : (if a1 = true then ((impl_isName.f k a0).bind fun t400 => (some t400)) else (some (a0.toList == ([] : List UInt8)))) = some r := h
 clear h
 by_cases c3 : a1 = true
 ·subst c3
  have H1 := hp H
  clear H
  have H := H1
  clear H1
  replace H := bi H
  obtain ⟨t400, A40, H⟩ := H
  try dsimp only at H
  have A4 := Aside0.mk A40
  clear A40
  obtain rfl := Option.some.inj H
  go_enter Tryd.func81, Tryd.ntmps81
  go_wp2_with (first | ((with_reducible refine gate_callee (f := 93) rfl ?_); refine goesL_ (some 7) rfl rfl Tryd.func93 (by kernel_rfl) rfl #[.string a0] rfl lz ?_; (with_reducible refine (impl_isName.calls k a0 t400 _ A4.out).mono ?_); rintro e w5 ⟨rfl, hb⟩; refine ⟨_, rfl, ?_⟩; replace HB := Aside0.mk (below_step (bz0 HB.out) hb); (try clear hb); (try clear hi)))
  go_ret
  exact ⟨gz, (bz0 HB.out)⟩
 ·replace c3 := Bool.eq_false_iff.mpr c3
  subst c3
  have H1 := hq H
  clear H
  have H := H1
  clear H1
  obtain rfl := Option.some.inj H
  go_enter Tryd.func81, Tryd.ntmps81
  go_wp2
  go_ret
  exact ⟨gz, (bz0 HB.out)⟩
end Go.Proofs.YtmilegjmiiccdaaDoor.PFnExactCanon
