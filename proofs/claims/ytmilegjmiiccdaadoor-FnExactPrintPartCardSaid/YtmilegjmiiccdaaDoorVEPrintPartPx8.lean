/- PFnExactPrintPartx8, of the words and walks that the law FnExactPrintPart needs; made by this session's program out of printed texts. -/

import Derived.Test.YtmilegjmiiccdaaDoorVEPrintPartPx0
import Derived.Test.YtmilegjmiiccdaaDoorVEPrintPartPx7
namespace Go.Proofs.YtmilegjmiiccdaaDoor.PFnExactPrintPart
open Go.RowKit Go.Proofs.YtmilegjmiiccdaaDoorW.PrintWords Go.Proofs.YtmilegjmiiccdaaDoorW.PrintLast Go.Proofs.YtmilegjmiiccdaaDoorW.PrintMore
attribute [local go_sem] max2_int min2_int max_two min_two max_three min_three max_four min_four
set_option linter.unusedVariables false
set_option linter.unusedSimpArgs false
mutual
def strings_genSplit.j0 : Nat -> ByteArray -> ByteArray -> Int -> Int -> Option (List ByteArray)
 | 0, _, _, _, _ => none
 | k + 1, x0, x1, x2, x3 => if 0 <= (mn x3 (wrap64 ((x0.size : Int) + 1))) then (if (mn x3 (wrap64 ((x0.size : Int) + 1)) : Int).toNat <= 17592186044416 then (strings_genSplit.l0 k x0 x1 x2 (wrap64 ((mn x3 (wrap64 ((x0.size : Int) + 1))) - 1)) (List.replicate (mn x3 (wrap64 ((x0.size : Int) + 1)) : Int).toNat (⟨#[]⟩ : ByteArray)) 0) else (none)) else (none)
def strings_genSplit.l0 : Nat -> ByteArray -> ByteArray -> Int -> Int -> List ByteArray -> Int -> Option (List ByteArray)
 | 0, _, _, _, _, _, _ => none
 | k + 1, x0, x1, x2, x3, x9, x10 => if x10 < x3 then ((strings_Index.f x0 x1).bind fun t244 => (if t244 < 0 then (if 0 <= x10 then (if x10 < (x9.length : Int) then (if 0 <= (wrap64 (x10 + 1)) then (if (wrap64 (x10 + 1)) <= (x9.length : Int) then (some ((x9.set (x10 : Int).toNat x0).take ((wrap64 (x10 + 1)) : Int).toNat)) else (none)) else (none)) else (none)) else (none)) else (if 0 <= (wrap64 (t244 + x2)) then (if (wrap64 (t244 + x2)) <= (x0.size : Int) then (if 0 <= x10 then (if x10 < (x9.length : Int) then (if 0 <= (wrap64 (t244 + (x1.size : Int))) then (if (wrap64 (t244 + (x1.size : Int))) <= (x0.size : Int) then (strings_genSplit.l0 k (x0.extract ((wrap64 (t244 + (x1.size : Int))) : Int).toNat x0.size) x1 x2 x3 (x9.set (x10 : Int).toNat (x0.extract 0 ((wrap64 (t244 + x2)) : Int).toNat)) (wrap64 (x10 + 1))) else (none)) else (none)) else (none)) else (none)) else (none)) else (none)))) else (if 0 <= x10 then (if x10 < (x9.length : Int) then (if 0 <= (wrap64 (x10 + 1)) then (if (wrap64 (x10 + 1)) <= (x9.length : Int) then (some ((x9.set (x10 : Int).toNat x0).take ((wrap64 (x10 + 1)) : Int).toNat)) else (none)) else (none)) else (none)) else (none))
end
def strings_genSplit.f (k : Nat) (a0 : ByteArray) (a1 : ByteArray) (a2 : Int) (a3 : Int) : Option (List ByteArray) := if a3 = 0 then (some ([] : List ByteArray)) else (if a1.toList = ([] : List UInt8) then ((strings_explode.f a0 a3).bind fun t237 => (some t237)) else (if a3 < 0 then ((strings_Count.f a0 a1).bind fun t240 => (strings_genSplit.j0 k a0 a1 a2 (wrap64 (t240 + 1)))) else (strings_genSplit.j0 k a0 a1 a2 a3)))
theorem strings_genSplit.mono_l : ∀ k, (∀ y0 y1 y2 y3, LeO (strings_genSplit.j0 k y0 y1 y2 y3) (strings_genSplit.j0 (k + 1) y0 y1 y2 y3)) /\ (∀ y0 y1 y2 y3 y4 y5, LeO (strings_genSplit.l0 k y0 y1 y2 y3 y4 y5) (strings_genSplit.l0 (k + 1) y0 y1 y2 y3 y4 y5))
 | 0 => ⟨fun _ _ _ _ r h => by simp [strings_genSplit.j0] at h, fun _ _ _ _ _ _ r h => by simp [strings_genSplit.l0] at h⟩
 | k + 1 => by
  obtain ⟨ih0, ih1⟩ := strings_genSplit.mono_l k
  refine ⟨?_, ?_⟩
  ·intro y0 y1 y2 y3
   unfold strings_genSplit.j0
   with_reducible repeat' first | exact ih0 _ _ _ _ | exact ih1 _ _ _ _ _ _ | exact lrz _ | exact lnz _ | refine liz ?_ ?_ | refine lbz ?_ fun _ => ?_
  ·intro y0 y1 y2 y3 y4 y5
   unfold strings_genSplit.l0
   with_reducible repeat' first | exact ih0 _ _ _ _ | exact ih1 _ _ _ _ _ _ | exact lrz _ | exact lnz _ | refine liz ?_ ?_ | refine lbz ?_ fun _ => ?_
theorem strings_genSplit.mono : ∀ a0 a1 a2 a3 k, LeO (strings_genSplit.f k a0 a1 a2 a3) (strings_genSplit.f (k + 1) a0 a1 a2 a3) := by
 intro a0 a1 a2 a3 k
 obtain ⟨ih0, ih1⟩ := strings_genSplit.mono_l k
 unfold strings_genSplit.f
 with_reducible repeat' first | exact ih0 _ _ _ _ | exact ih1 _ _ _ _ _ _ | exact lrz _ | exact lnz _ | refine liz ?_ ?_ | refine lbz ?_ fun _ => ?_
set_option maxHeartbeats 8000000 in
set_option maxRecDepth 100000 in
theorem strings_genSplit.calls (k : Nat) (a0 : ByteArray) (a1 : ByteArray) (a2 : Int) (a3 : Int) (r : List ByteArray) (w : World) (h : strings_genSplit.f k a0 a1 a2 a3 = some r) :
  Calls Tryd.prog 95 #[.string a0, .string a1, .int .i64 a2, .int .i64 a3] w fun e w' => ∃ v0_ : Value, e = .returned (v0_) /\ Kd.R Kd.string 9 w' w.heap.size (fun _ => True) v0_ r /\ Below w.heap.size w w' := by
 have HB := Aside0.mk (Below.refl w.heap.size w)
 have H : (if a3 = 0 then (some ([] : List ByteArray)) else (if a1.toList = ([] : List UInt8) then ((strings_explode.f a0 a3).bind fun t237 => (some t237)) else (if a3 < 0 then ((strings_Count.f a0 a1).bind fun t240 => (strings_genSplit.j0 k a0 a1 a2 (wrap64 (t240 + 1)))) else (strings_genSplit.j0 k a0 a1 a2 a3)))) = some r := h
 clear h
 by_cases c5 : a3 = 0
 ·rw [if_pos c5] at H
  have c5b0 : (a3 == 0) = true := beq_iff_eq.mpr c5
  have c5b1 : (a3 != 0) = false := bne_eq_false_iff_eq.mpr c5
  clear c5
  obtain rfl := Option.some.inj H
  go_enter Tryd.func95, Tryd.ntmps95
  go_wp2
  go_ret
  exact ⟨_, gz, by first | exact Kd.R_nil _ _ _ _ _ | exact Kd.N_nil _ _ _ _ _ | exact Kd.V_nil _ _ _ _ _ | exact Kd.Q_nil _ _ _ _ _ | exact Kd.S_nil _ _ _ _ _, (bz0 HB.out)⟩
 ·rw [if_neg c5] at H
  have c5b0 : (a3 == 0) = false := beq_eq_false_iff_ne.mpr c5
  have c5b1 : (a3 != 0) = true := bne_iff_ne.mpr c5
  by_cases c6 : a1.toList = ([] : List UInt8)
  ·rw [if_pos c6] at H
   have c6b0 : (a1.toList == ([] : List UInt8)) = true := beq_iff_eq.mpr c6
   have c6b1 : (a1.toList != ([] : List UInt8)) = false := bne_eq_false_iff_eq.mpr c6
   clear c6
   replace H := bi H
   obtain ⟨t237, A70, H⟩ := H
   try dsimp only at H
   have A7 := Aside0.mk A70
   clear A70
   obtain rfl := Option.some.inj H
   go_enter Tryd.func95, Tryd.ntmps95
   go_wp2_with (first | ((with_reducible refine gate_callee (f := 105) rfl ?_); refine goesL_ (some 18) rfl rfl Tryd.func105 (by kernel_rfl) rfl #[.string a0, .int .i64 a3] rfl lz ?_; (with_reducible refine (strings_explode.calls a0 a3 t237 _ A7.out).mono ?_); rintro e w8 ⟨v238, rfl, ho0, hb⟩; refine ⟨_, rfl, ?_⟩; have HO239 := Aside0.mk (Kd.R_lower ho0 (below_size (bz0 HB.out))); replace HB := Aside0.mk (below_step (bz0 HB.out) hb); (try clear hb); (try clear ho0)))
   go_ret
   exact ⟨_, gz, by refine rq ?_; exact HO239.out, (bz0 HB.out)⟩
  ·rw [if_neg c6] at H
   have c6b0 : (a1.toList == ([] : List UInt8)) = false := beq_eq_false_iff_ne.mpr c6
   have c6b1 : (a1.toList != ([] : List UInt8)) = true := bne_iff_ne.mpr c6
   have HC9 := Aside0.mk H
   clear H
   go_enter Tryd.func95, Tryd.ntmps95
   go_upto_if 20 with (fail)
   go_cut [3] (fun v3 wc => ∃ (kq : Nat) (x3_8 : Int), v3 = .int .i64 x3_8 /\ Aside0 (strings_genSplit.j0 kq a0 a1 a2 x3_8 = some r) /\ Aside0 (kq <= k) /\ Aside0 (Below w.heap.size w wc))
   case first =>
    have H := HC9.out
    clear HC9
    by_cases c10 : a3 < 0
    ·rw [if_pos c10] at H
     have c10b0 := decide_eq_true c10
     clear c10
     (first | rw [c10b0] | (simp only [i64_w, i32_w]; rw [c10b0]) | skip)
     replace H := bi H
     obtain ⟨t240, A110, H⟩ := H
     try dsimp only at H
     have A11 := Aside0.mk A110
     clear A110
     have H' := Aside0.mk H
     clear H
     go_wp2_with (first | ((with_reducible refine gate_callee (f := 106) rfl ?_); refine goesL_ (some 23) rfl rfl Tryd.func106 (by kernel_rfl) rfl #[.string a0, .string a1] rfl lz ?_; (with_reducible refine (strings_Count.calls a0 a1 t240 _ A11.out).mono ?_); rintro e w' ⟨rfl, ⟨nd, rfl⟩⟩; refine ⟨_, rfl, ?_⟩))
     go_meet
     case rel => exact ⟨_, (wrap64 (t240 + 1)), ez, H', ⟨by first | omega | exact Nat.le_refl _⟩, ⟨(bz0 HB.out)⟩⟩
    ·rw [if_neg c10] at H
     have c10b0 := decide_eq_false c10
     clear c10
     (first | rw [c10b0] | (simp only [i64_w, i32_w]; rw [c10b0]) | skip)
     have H' := Aside0.mk H
     clear H
     go_wp2
     go_meet
     case rel => exact ⟨_, (a3), ez, H', ⟨by first | omega | exact Nat.le_refl _⟩, ⟨(bz0 HB.out)⟩⟩
   case rest =>
    clear HC9
    try clear c1
    try clear p2
    try clear c5
    try clear c5b0
    try clear c5b1
    try clear c6
    try clear c6b0
    try clear c6b1
    try clear p6
    try clear c9
    try clear c10
    try clear c10b0
    obtain ⟨kq, x3_8, rfl, HA, HJ8, HB⟩ := hcut
    cases kq with
    | zero => exact absurd HA.out (by simp [strings_genSplit.j0])
    | succ kj8 =>
     have H := HA.out
     clear HA
     simp only [strings_genSplit.j0] at H
     obtain ⟨ji12, hji12⟩ : ∃ j_ : Int, (mn x3_8 (wrap64 ((a0.size : Int) + 1))) = j_ := ⟨_, rfl⟩
     replace H : (if 0 <= (ji12) then (if (ji12 : Int).toNat <= 17592186044416 then (strings_genSplit.l0 kj8 a0 a1 a2 (wrap64 ((ji12) - 1)) (List.replicate (ji12 : Int).toNat (⟨#[]⟩ : ByteArray)) 0) else (none)) else (none)) = some r := by first | (rw [hji12] at H; exact H) | (simp only [hji12] at H ⊢; exact H)
     have hji12_ : (if (wrap64 ((a0.size : Int) + 1)) < x3_8 then (wrap64 ((a0.size : Int) + 1)) else x3_8) = ji12 := hji12
     replace H := iz H
     obtain ⟨c13, H⟩ := H
     have c13b0 := eq_true c13
     have c13b1 : decide (0 <= (ji12)) = true := decide_eq_true c13
     clear c13
     replace H := iz H
     obtain ⟨c14, H⟩ := H
     have c14b0 := eq_true c14
     have c14b1 : decide ((ji12 : Int).toNat <= 17592186044416) = true := decide_eq_true c14
     clear c14
     obtain ⟨y241, hy241⟩ : ∃ y_ : List ByteArray, y_ = (List.replicate (ji12 : Int).toNat (⟨#[]⟩ : ByteArray)) := ⟨_, rfl⟩
     replace H : (strings_genSplit.l0 kj8 a0 a1 a2 (wrap64 ((ji12) - 1)) y241 0) = some r := yz hy241 H
     have Ny241 := Aside0.mk hy241
     clear hy241
     have H' := Aside0.mk H
     clear H
     go_wp2_with (first | ((with_reducible refine gate_dst (N := 31) rfl ?_); refine Kd.R_make Kd.string _ 9 rfl (N := 31) rfl 32 _ _ rfl ji12 rfl rfl Tryd.underlying32 (.string ⟨#[]⟩) 16 info9 rfl (by decide) (by omega) (⟨#[]⟩ : ByteArray) (ok := fun _ => True) (okp := fun _ => True) rfl (fun _ hk => hk) trivial (of_decide_eq_true az) (Nat.le_trans (Nat.mul_le_mul_right _ (of_decide_eq_true az : ji12.toNat <= 17592186044416)) (by omega)) (Below.refl _ _) (Nat.le_refl _) ?_; intro v242 w15 ho16 hb hg_ hnew_; clear hg_ hnew_; (first | rw [<- Ny241.out] at ho16 | (simp only [Int.reduceToNat] at ho16; rw [<- Ny241.out] at ho16)); have HO243 := Aside0.mk (Kd.R_lower ho16 (below_size (bz0 HB.out))); replace HB := Aside0.mk (below_step (bz0 HB.out) hb); clear hb ho16))
     (try simp only [Act.put, sz1, sz2, sz3])
     go_loopg [0, 10] kj8 (fun kq v0 v10 w' => ∃ (x0_2 : ByteArray) (x9_2 : List ByteArray) (x10_2 : Int), v0 = .string x0_2 /\ v10 = .int .i64 x10_2 /\ Aside0 (strings_genSplit.l0 kq x0_2 a1 a2 (wrap64 ((ji12) - 1)) x9_2 x10_2 = some r) /\ Aside0 (kq <= kj8) /\ Aside0 (Kd.R Kd.string 9 w' w.heap.size (fun _ => True) v242 x9_2) /\ Aside0 (Below w.heap.size w w'))
     case atStart => exact ⟨(a0), (y241), (0), ez, ez, H', ⟨Nat.le_refl _⟩, ⟨by refine rq ?_; exact HO243.out⟩, ⟨(bz0 HB.out)⟩⟩
     case round =>
      clear H'
      try clear c1
      try clear p2
      try clear c5
      try clear c5b0
      try clear c5b1
      try clear c6
      try clear c6b0
      try clear c6b1
      try clear p6
      try clear c9
      try clear c10
      try clear c10b0
      try clear c13
      try clear c13b0
      try clear c13b1
      try clear c14
      try clear c14b0
      try clear c14b1
      try clear p2
      try clear p6
      obtain ⟨x0_2, x9_2, x10_2, rfl, rfl, HA, HK2, HO_9, HB⟩ := hrel
      cases gk with
      | zero => exact absurd HA.out (by simp [strings_genSplit.l0])
      | succ k2 =>
       have H := HA.out
       clear HA
       simp only [strings_genSplit.l0] at H
       by_cases c17 : x10_2 < (wrap64 ((ji12) - 1))
       ·rw [if_pos c17] at H
        have c17b0 := decide_eq_true c17
        clear c17
        replace H := bi H
        obtain ⟨t244, A180, H⟩ := H
        try dsimp only at H
        have A18 := Aside0.mk A180
        clear A180
        by_cases c19 : t244 < 0
        ·rw [if_pos c19] at H
         have c19b0 := decide_eq_true c19
         clear c19
         replace H := iz H
         obtain ⟨c20, H⟩ := H
         have c20b0 := decide_eq_true c20
         clear c20
         replace H := iz H
         obtain ⟨c21, H⟩ := H
         have c21b0 := decide_eq_true c21
         clear c21
         obtain ⟨y245, hy245⟩ : ∃ y_ : List ByteArray, y_ = (x9_2.set (x10_2 : Int).toNat x0_2) := ⟨_, rfl⟩
         replace H : (if 0 <= (wrap64 (x10_2 + 1)) then (if (wrap64 (x10_2 + 1)) <= (x9_2.length : Int) then (some (y245.take ((wrap64 (x10_2 + 1)) : Int).toNat)) else (none)) else (none)) = some r := yz hy245 H
         have Ny245 := Aside0.mk hy245
         clear hy245
         obtain ⟨ji23, hji23⟩ : ∃ j_ : Int, (wrap64 (x10_2 + 1)) = j_ := ⟨_, rfl⟩
         replace H : (if 0 <= (ji23) then (if (ji23) <= (x9_2.length : Int) then (some (y245.take ((ji23) : Int).toNat)) else (none)) else (none)) = some r := by first | (rw [hji23] at H; exact H) | (simp only [hji23] at H ⊢; exact H)
         (try rw [hji23] at A18)
         have hji23w : (IntKind.i64.wrap (x10_2 + 1)) = ji23 := (i64_w _).trans hji23
         replace H := iz H
         obtain ⟨c24, H⟩ := H
         have c24b0 := eq_true c24
         have c24b1 : decide (0 <= (ji23)) = true := decide_eq_true c24
         clear c24
         replace H := iz H
         obtain ⟨c25, H⟩ := H
         have c25b0 := eq_true c25
         have c25b1 : decide ((ji23) <= (x9_2.length : Int)) = true := decide_eq_true c25
         clear c25
         obtain ⟨y246, hy246⟩ : ∃ y_ : List ByteArray, y_ = (y245.take ((ji23) : Int).toNat) := ⟨_, rfl⟩
         replace H : (some y246) = some r := yz hy246 H
         have Ny246 := Aside0.mk hy246
         clear hy246
         obtain rfl := Option.some.inj H
         go_wp2_with (first | ((with_reducible refine gate_callee (f := 107) rfl ?_); refine goesL_ (some 39) rfl rfl Tryd.func107 (by kernel_rfl) rfl #[.string x0_2, .string a1] rfl lz ?_; (with_reducible refine (strings_Index.calls x0_2 a1 t244 _ A18.out).mono ?_); rintro e w' ⟨rfl, ⟨nd, rfl⟩⟩; refine ⟨_, rfl, ?_⟩; (try (rw [drewN_self wr]; generalize hq_ : World.drewN wr _ = wr; have n0_ : Aside0 (Kd.R Kd.string 9 wr w.heap.size (fun _ => True) v242 x9_2) := ⟨by rw [<- hq_]; exact (rz HO_9.out)⟩; have n1_ : Aside0 (Below w.heap.size w wr) := ⟨by rw [<- hq_]; exact (bz0 HB.out)⟩; clear HO_9 HB hq_; have HO_9 := n0_; have HB := n1_; clear n0_ n1_)); have p22 : 0 <= (x10_2 : Int) := oz; have q22 : (x10_2 : Int) < ((x9_2.length : Int) : Int) := oz; obtain ⟨go22, co22, eo22, gb22, gl22, cl22, HG22⟩ := Kd.R_form HO_9.out (by omega); (first | cases eo22 | (injection eo22 with ea_ en_ ec_; (first | subst ea_ | (injection ea_ with ea_; subst ea_)); subst ec_; clear en_)); have GB22 := Aside0.mk gb22; have GG22 := Aside0.mk HG22; clear gb22 gl22 HG22; obtain ⟨hx22_0, hf22_0⟩ := Kd.R_celln (⟨#[]⟩ : ByteArray) HO_9.out (x10_2 : Int) p22 q22; replace p22 := eq_true p22; replace q22 := eq_true q22; obtain ⟨hy26_, hz26_⟩ := Kd.R_celln (⟨#[]⟩ : ByteArray) HO_9.out (x10_2 : Int) (of_decide_eq_true az) (of_decide_eq_true az); have HP26 := Kd.R_putg HO_9.out (x10_2 : Int) x0_2) | ((with_reducible refine gate_store (t := 9) (p := 61) rfl ?_); refine store_event (t := 9) (p := 61) (v := ?vo_w27) (w1 := (wr.setCell ⟨go22, (x10_2 : Int).toNat, none⟩ (.string x0_2))) ?hg ?ho ?hn ?hr ?_; (case ho => rfl); (case hg => rfl); (case hn => rfl); (case hr => exact vz); intro w27 hw; have hg : wr.grownBy w27 (some go22) := (by rw [hw]; exact HP26.2); have hp_ : Kd.R Kd.string 9 w27 w.heap.size (fun _ => True) (.slice (some ⟨go22, 0, none⟩) x9_2.length co22) y245 := (by rw [hw, Ny245.out]; exact HP26.1); clear HP26; replace HO_9 := Aside0.mk (hp_); replace HB := Aside0.mk ((by rw [hw]; exact below_set (HB.out) GB22.out : Below w.heap.size w w27)); clear hg hw hp_; have q28 : ((ji23) : Int) <= ((x9_2.length : Int) : Int) := oz; obtain ⟨i028, hi028, _, hsz28, _⟩ := info_parts info9; have hcut28 := cut_to (P := Tryd.prog) 32 9 .i64 Tryd.underlying32 hi028 (some ⟨go22, 0, none⟩) x9_2.length co22 (ji23) (of_decide_eq_true az) q28 (Kd.R_reads' HO_9.out).2.1; have hlen28 : y245.length = x9_2.length := (by rw [Ny245.out, List.length_set]); have hr28 := Kd.R_take (m := ((ji23) : Int).toNat) HO_9.out (by omega); have hy28 : y246.length = ((ji23) : Int).toNat := (by rw [Ny246.out, List.length_take]; omega); rw [<- Ny246.out] at hr28; rw [<- hy28] at hr28 hcut28; clear hlen28; clear hy28 hi028 hsz28 HO_9; have HO248 := Aside0.mk hr28; clear hr28; replace q28 := eq_true q28))
         go_ret
         exact ⟨_, by first | rfl | (simp [errW_none, errW_some] <;> rfl) | (simp only [<- hji12, <- hji23]; first | rfl | (simp [errW_none, errW_some] <;> rfl)) | (simp [*, errW_none, errW_some] <;> rfl), by refine rq ?_; exact HO248.out, (bz0 HB.out)⟩
        ·rw [if_neg c19] at H
         have c19b0 := decide_eq_false c19
         clear c19
         obtain ⟨ji29, hji29⟩ : ∃ j_ : Int, (wrap64 (t244 + a2)) = j_ := ⟨_, rfl⟩
         replace H : (if 0 <= (ji29) then (if (ji29) <= (x0_2.size : Int) then (if 0 <= x10_2 then (if x10_2 < (x9_2.length : Int) then (if 0 <= (wrap64 (t244 + (a1.size : Int))) then (if (wrap64 (t244 + (a1.size : Int))) <= (x0_2.size : Int) then (strings_genSplit.l0 k2 (x0_2.extract ((wrap64 (t244 + (a1.size : Int))) : Int).toNat x0_2.size) a1 a2 (wrap64 ((ji12) - 1)) (x9_2.set (x10_2 : Int).toNat (x0_2.extract 0 ((ji29) : Int).toNat)) (wrap64 (x10_2 + 1))) else (none)) else (none)) else (none)) else (none)) else (none)) else (none)) = some r := by first | (rw [hji29] at H; exact H) | (simp only [hji29] at H ⊢; exact H)
         (try rw [hji29] at A18)
         have hji29w : (IntKind.i64.wrap (t244 + a2)) = ji29 := (i64_w _).trans hji29
         replace H := iz H
         obtain ⟨c30, H⟩ := H
         have c30b0 := eq_true c30
         have c30b1 : decide (0 <= (ji29)) = true := decide_eq_true c30
         clear c30
         replace H := iz H
         obtain ⟨c31, H⟩ := H
         have c31b0 := eq_true c31
         have c31b1 : decide ((ji29) <= (x0_2.size : Int)) = true := decide_eq_true c31
         clear c31
         replace H := iz H
         obtain ⟨c32, H⟩ := H
         have c32b0 := decide_eq_true c32
         clear c32
         replace H := iz H
         obtain ⟨c33, H⟩ := H
         have c33b0 := decide_eq_true c33
         clear c33
         obtain ⟨y249, hy249⟩ : ∃ y_ : List ByteArray, y_ = (x9_2.set (x10_2 : Int).toNat (x0_2.extract 0 ((ji29) : Int).toNat)) := ⟨_, rfl⟩
         replace H : (if 0 <= (wrap64 (t244 + (a1.size : Int))) then (if (wrap64 (t244 + (a1.size : Int))) <= (x0_2.size : Int) then (strings_genSplit.l0 k2 (x0_2.extract ((wrap64 (t244 + (a1.size : Int))) : Int).toNat x0_2.size) a1 a2 (wrap64 ((ji12) - 1)) y249 (wrap64 (x10_2 + 1))) else (none)) else (none)) = some r := yz hy249 H
         have Ny249 := Aside0.mk hy249
         clear hy249
         obtain ⟨ji35, hji35⟩ : ∃ j_ : Int, (wrap64 (t244 + (a1.size : Int))) = j_ := ⟨_, rfl⟩
         replace H : (if 0 <= (ji35) then (if (ji35) <= (x0_2.size : Int) then (strings_genSplit.l0 k2 (x0_2.extract ((ji35) : Int).toNat x0_2.size) a1 a2 (wrap64 ((ji12) - 1)) y249 (wrap64 (x10_2 + 1))) else (none)) else (none)) = some r := by first | (rw [hji35] at H; exact H) | (simp only [hji35] at H ⊢; exact H)
         (try rw [hji35] at A18)
         have hji35w : (IntKind.i64.wrap (t244 + (a1.size : Int))) = ji35 := (i64_w _).trans hji35
         replace H := iz H
         obtain ⟨c36, H⟩ := H
         have c36b0 := eq_true c36
         have c36b1 : decide (0 <= (ji35)) = true := decide_eq_true c36
         clear c36
         replace H := iz H
         obtain ⟨c37, H⟩ := H
         have c37b0 := eq_true c37
         have c37b1 : decide ((ji35) <= (x0_2.size : Int)) = true := decide_eq_true c37
         clear c37
         have H' := Aside0.mk H
         clear H
         go_wp2_with (first | ((with_reducible refine gate_callee (f := 107) rfl ?_); refine goesL_ (some 39) rfl rfl Tryd.func107 (by kernel_rfl) rfl #[.string x0_2, .string a1] rfl lz ?_; (with_reducible refine (strings_Index.calls x0_2 a1 t244 _ A18.out).mono ?_); rintro e w' ⟨rfl, ⟨nd, rfl⟩⟩; refine ⟨_, rfl, ?_⟩; (try (rw [drewN_self wr]; generalize hq_ : World.drewN wr _ = wr; have n0_ : Aside0 (Kd.R Kd.string 9 wr w.heap.size (fun _ => True) v242 x9_2) := ⟨by rw [<- hq_]; exact (rz HO_9.out)⟩; have n1_ : Aside0 (Below w.heap.size w wr) := ⟨by rw [<- hq_]; exact (bz0 HB.out)⟩; clear HO_9 HB hq_; have HO_9 := n0_; have HB := n1_; clear n0_ n1_)); have p34 : 0 <= (x10_2 : Int) := oz; have q34 : (x10_2 : Int) < ((x9_2.length : Int) : Int) := oz; obtain ⟨go34, co34, eo34, gb34, gl34, cl34, HG34⟩ := Kd.R_form HO_9.out (by omega); (first | cases eo34 | (injection eo34 with ea_ en_ ec_; (first | subst ea_ | (injection ea_ with ea_; subst ea_)); subst ec_; clear en_)); have GB34 := Aside0.mk gb34; have GG34 := Aside0.mk HG34; clear gb34 gl34 HG34; obtain ⟨hx34_0, hf34_0⟩ := Kd.R_celln (⟨#[]⟩ : ByteArray) HO_9.out (x10_2 : Int) p34 q34; replace p34 := eq_true p34; replace q34 := eq_true q34; obtain ⟨hy38_, hz38_⟩ := Kd.R_celln (⟨#[]⟩ : ByteArray) HO_9.out (x10_2 : Int) (of_decide_eq_true az) (of_decide_eq_true az); have HP38 := Kd.R_putg HO_9.out (x10_2 : Int) (x0_2.extract 0 ((ji29) : Int).toNat)) | ((with_reducible refine gate_store (t := 9) (p := 49) rfl ?_); refine store_event (t := 9) (p := 49) (v := ?vo_w39) (w1 := (wr.setCell ⟨go34, (x10_2 : Int).toNat, none⟩ (.string (x0_2.extract 0 ((ji29) : Int).toNat)))) ?hg ?ho ?hn ?hr ?_; (case ho => rfl); (case hg => rfl); (case hn => rfl); (case hr => exact vz); intro w39 hw; have hg : wr.grownBy w39 (some go34) := (by rw [hw]; exact HP38.2); have hp_ : Kd.R Kd.string 9 w39 w.heap.size (fun _ => True) (.slice (some ⟨go34, 0, none⟩) x9_2.length co34) y249 := (by rw [hw, Ny249.out]; exact HP38.1); clear HP38; replace HO_9 := Aside0.mk (hp_); replace HB := Aside0.mk ((by rw [hw]; exact below_set (HB.out) GB34.out : Below w.heap.size w w39)); clear hg hw hp_))
         go_roundg k2
         case measure => have := HJ8.out; have := HK2.out; omega
         case rel => exact ⟨(x0_2.extract ((ji35) : Int).toNat x0_2.size), (y249), (wrap64 (x10_2 + 1)), (by first | rfl | (simp; done) | (simp only [<- hji35] <;> (first | rfl | simp)) | (simp [*]; done)), ez, H', ⟨by have := HJ8.out; have := HK2.out; omega⟩, ⟨by refine rq ?_; exact HO_9.out⟩, ⟨(bz0 HB.out)⟩⟩
       ·rw [if_neg c17] at H
        have c17b0 := decide_eq_false c17
        clear c17
        replace H := iz H
        obtain ⟨c40, H⟩ := H
        have c40b0 := decide_eq_true c40
        clear c40
        replace H := iz H
        obtain ⟨c41, H⟩ := H
        have c41b0 := decide_eq_true c41
        clear c41
        obtain ⟨y250, hy250⟩ : ∃ y_ : List ByteArray, y_ = (x9_2.set (x10_2 : Int).toNat x0_2) := ⟨_, rfl⟩
        replace H : (if 0 <= (wrap64 (x10_2 + 1)) then (if (wrap64 (x10_2 + 1)) <= (x9_2.length : Int) then (some (y250.take ((wrap64 (x10_2 + 1)) : Int).toNat)) else (none)) else (none)) = some r := yz hy250 H
        have Ny250 := Aside0.mk hy250
        clear hy250
        obtain ⟨ji43, hji43⟩ : ∃ j_ : Int, (wrap64 (x10_2 + 1)) = j_ := ⟨_, rfl⟩
        replace H : (if 0 <= (ji43) then (if (ji43) <= (x9_2.length : Int) then (some (y250.take ((ji43) : Int).toNat)) else (none)) else (none)) = some r := by first | (rw [hji43] at H; exact H) | (simp only [hji43] at H ⊢; exact H)
        have hji43w : (IntKind.i64.wrap (x10_2 + 1)) = ji43 := (i64_w _).trans hji43
        replace H := iz H
        obtain ⟨c44, H⟩ := H
        have c44b0 := eq_true c44
        have c44b1 : decide (0 <= (ji43)) = true := decide_eq_true c44
        clear c44
        replace H := iz H
        obtain ⟨c45, H⟩ := H
        have c45b0 := eq_true c45
        have c45b1 : decide ((ji43) <= (x9_2.length : Int)) = true := decide_eq_true c45
        clear c45
        obtain ⟨y251, hy251⟩ : ∃ y_ : List ByteArray, y_ = (y250.take ((ji43) : Int).toNat) := ⟨_, rfl⟩
        replace H : (some y251) = some r := yz hy251 H
        have Ny251 := Aside0.mk hy251
        clear hy251
        obtain rfl := Option.some.inj H
        have p42 : 0 <= (x10_2 : Int) := oz
        have q42 : (x10_2 : Int) < ((x9_2.length : Int) : Int) := oz
        obtain ⟨go42, co42, eo42, gb42, gl42, cl42, HG42⟩ := Kd.R_form HO_9.out (by omega)
        (first | cases eo42 | (injection eo42 with ea_ en_ ec_; (first | subst ea_ | (injection ea_ with ea_; subst ea_)); subst ec_; clear en_))
        have GB42 := Aside0.mk gb42
        have GG42 := Aside0.mk HG42
        clear gb42 gl42 HG42
        obtain ⟨hx42_0, hf42_0⟩ := Kd.R_celln (⟨#[]⟩ : ByteArray) HO_9.out (x10_2 : Int) p42 q42
        replace p42 := eq_true p42
        replace q42 := eq_true q42
        have HP46 := Kd.R_putg HO_9.out (x10_2 : Int) x0_2
        go_wp2_with (first | ((with_reducible refine gate_store (t := 9) (p := 61) rfl ?_); refine store_event (t := 9) (p := 61) (v := ?vo_w47) (w1 := (wr.setCell ⟨go42, (x10_2 : Int).toNat, none⟩ (.string x0_2))) ?hg ?ho ?hn ?hr ?_; (case ho => rfl); (case hg => rfl); (case hn => rfl); (case hr => exact vz); intro w47 hw; have hg : wr.grownBy w47 (some go42) := (by rw [hw]; exact HP46.2); have hp_ : Kd.R Kd.string 9 w47 w.heap.size (fun _ => True) (.slice (some ⟨go42, 0, none⟩) x9_2.length co42) y250 := (by rw [hw, Ny250.out]; exact HP46.1); clear HP46; replace HO_9 := Aside0.mk (hp_); replace HB := Aside0.mk ((by rw [hw]; exact below_set (HB.out) GB42.out : Below w.heap.size w w47)); clear hg hw hp_; have q48 : ((ji43) : Int) <= ((x9_2.length : Int) : Int) := oz; obtain ⟨i048, hi048, _, hsz48, _⟩ := info_parts info9; have hcut48 := cut_to (P := Tryd.prog) 32 9 .i64 Tryd.underlying32 hi048 (some ⟨go42, 0, none⟩) x9_2.length co42 (ji43) (of_decide_eq_true az) q48 (Kd.R_reads' HO_9.out).2.1; have hlen48 : y250.length = x9_2.length := (by rw [Ny250.out, List.length_set]); have hr48 := Kd.R_take (m := ((ji43) : Int).toNat) HO_9.out (by omega); have hy48 : y251.length = ((ji43) : Int).toNat := (by rw [Ny251.out, List.length_take]; omega); rw [<- Ny251.out] at hr48; rw [<- hy48] at hr48 hcut48; clear hlen48; clear hy48 hi048 hsz48 HO_9; have HO253 := Aside0.mk hr48; clear hr48; replace q48 := eq_true q48))
        go_ret
        exact ⟨_, by first | rfl | (simp [errW_none, errW_some] <;> rfl) | (simp only [<- hji12, <- hji43]; first | rfl | (simp [errW_none, errW_some] <;> rfl)) | (simp [*, errW_none, errW_some] <;> rfl), by refine rq ?_; exact HO253.out, (bz0 HB.out)⟩
def strings_Split.f (k : Nat) (a0 : ByteArray) (a1 : ByteArray) : Option (List ByteArray) := (strings_genSplit.f k a0 a1 0 (-1)).bind fun t254 => (some t254)
theorem strings_Split.mono : ∀ a0 a1 k, LeO (strings_Split.f k a0 a1) (strings_Split.f (k + 1) a0 a1) := by
 intro a0 a1 k
 unfold strings_Split.f
 with_reducible repeat' first | exact strings_genSplit.mono _ _ _ _ _ | exact lrz _ | exact lnz _ | refine liz ?_ ?_ | refine lbz ?_ fun _ => ?_
set_option maxHeartbeats 8000000 in
set_option maxRecDepth 100000 in
theorem strings_Split.calls (k : Nat) (a0 : ByteArray) (a1 : ByteArray) (r : List ByteArray) (w : World) (h : strings_Split.f k a0 a1 = some r) :
  Calls Tryd.prog 84 #[.string a0, .string a1] w fun e w' => ∃ v0_ : Value, e = .returned (v0_) /\ Kd.R Kd.string 9 w' w.heap.size (fun _ => True) v0_ r /\ Below w.heap.size w w' := by
 have HB := Aside0.mk (Below.refl w.heap.size w)
 have H : ((strings_genSplit.f k a0 a1 0 (-1)).bind fun t254 => (some t254)) = some r := h
 clear h
 replace H := bi H
 obtain ⟨t254, A30, H⟩ := H
 try dsimp only at H
 have A3 := Aside0.mk A30
 clear A30
 obtain rfl := Option.some.inj H
 go_enter Tryd.func84, Tryd.ntmps84
 go_wp2_with (first | ((with_reducible refine gate_callee (f := 95) rfl ?_); refine goesL_ (some 7) rfl rfl Tryd.func95 (by kernel_rfl) rfl #[.string a0, .string a1, .int .i64 0, .int .i64 (-1)] rfl lz ?_; (with_reducible refine (strings_genSplit.calls k a0 a1 0 (-1) t254 _ A3.out).mono ?_); rintro e w4 ⟨v255, rfl, ho0, hb⟩; refine ⟨_, rfl, ?_⟩; have HO256 := Aside0.mk (Kd.R_lower ho0 (below_size (bz0 HB.out))); replace HB := Aside0.mk (below_step (bz0 HB.out) hb); (try clear hb); (try clear ho0)))
 go_ret
 exact ⟨_, gz, by refine rq ?_; exact HO256.out, (bz0 HB.out)⟩
def impl_keyPlace.f (a0 : Int) : Option (Int) := if a0 <= 2 then (some 0) else (some (wrap64 ((wrap64 (a0 - 2)) + 1)))
set_option maxHeartbeats 8000000 in
set_option maxRecDepth 100000 in
theorem impl_keyPlace.calls (a0 : Int) (r : Int) (w : World) (h : impl_keyPlace.f a0 = some r) :
  Calls Tryd.prog 85 #[.int .i64 a0] w fun e w' => e = .returned (.int .i64 r) /\ Drawn0 w w' := by
 have H : (if a0 <= 2 then (some 0) else (some (wrap64 ((wrap64 (a0 - 2)) + 1)))) = some r := h
 clear h
 by_cases c2 : a0 <= 2
 ·rw [if_pos c2] at H
  have c2b0 := decide_eq_true c2
  clear c2
  obtain rfl := Option.some.inj H
  go_enter Tryd.func85, Tryd.ntmps85
  go_wp2
  go_ret
  exact ⟨e2z, dz⟩
 ·rw [if_neg c2] at H
  have c2b0 := decide_eq_false c2
  clear c2
  obtain rfl := Option.some.inj H
  go_enter Tryd.func85, Tryd.ntmps85
  go_wp2
  go_ret
  exact ⟨e2z, dz⟩
def impl_KeyOf.f (k : Nat) (a0_0 : Int) (a0_1 : Int) (a0_2 : Int) (a0_3 : Int) (a0_4 : Int) (a0_5 : ByteArray) (a0_6 : ByteArray) : Option (ByteArray) := if a0_0 = 8 then ((impl_in.f a0_4 0 3).bind fun t258 => (if t258 = true then ((strings_Split.f k (⟨#[97, 100, 100, 32, 115, 117, 98, 32, 108, 101, 115, 115, 32, 115, 97, 109, 101]⟩ : ByteArray) (⟨#[32]⟩ : ByteArray)).bind fun t259 => (if 0 <= a0_4 then (if a0_4 < (t259.length : Int) then (some (rdOf ByteArray.empty t259 a0_4)) else (none)) else (none))) else (some (⟨#[]⟩ : ByteArray)))) else ((impl_in.f a0_0 1 19).bind fun t263 => (if t263 = true then ((strings_Split.f k (⟨#[32, 45, 32, 102, 117, 110, 32, 97, 112, 112, 32, 108, 101, 116, 32, 114, 101, 99, 32, 105, 102, 32, 45, 32, 112, 97, 105, 114, 32, 102, 115, 116, 32, 115, 110, 100, 32, 110, 105, 108, 32, 99, 111, 110, 115, 32, 109, 97, 116, 99, 104, 32, 114, 101, 102, 32, 103, 101, 116, 32, 115, 101, 116, 32, 114, 97, 105, 115, 101, 32, 116, 114, 121]⟩ : ByteArray) (⟨#[32]⟩ : ByteArray)).bind fun t264 => ((impl_keyPlace.f a0_0).bind fun t267 => (if 0 <= t267 then (if t267 < (t264.length : Int) then (some (rdOf ByteArray.empty t264 t267)) else (none)) else (none)))) else (some (⟨#[]⟩ : ByteArray))))
theorem impl_KeyOf.mono : ∀ a0 a1 a2 a3 a4 a5 a6 k, LeO (impl_KeyOf.f k a0 a1 a2 a3 a4 a5 a6) (impl_KeyOf.f (k + 1) a0 a1 a2 a3 a4 a5 a6) := by
 intro a0 a1 a2 a3 a4 a5 a6 k
 unfold impl_KeyOf.f
 with_reducible repeat' first | exact strings_Split.mono _ _ _ | exact lrz _ | exact lnz _ | refine liz ?_ ?_ | refine lbz ?_ fun _ => ?_
set_option maxHeartbeats 8000000 in
set_option maxRecDepth 100000 in
theorem impl_KeyOf.calls (k : Nat) (a0_0 : Int) (a0_1 : Int) (a0_2 : Int) (a0_3 : Int) (a0_4 : Int) (a0_5 : ByteArray) (a0_6 : ByteArray) (r : ByteArray) (w : World) (h : impl_KeyOf.f k a0_0 a0_1 a0_2 a0_3 a0_4 a0_5 a0_6 = some r) :
  Calls Tryd.prog 71 #[.agg #[.int .i64 a0_0, .int .i64 a0_1, .int .i64 a0_2, .int .i64 a0_3, .int .i64 a0_4, .string a0_5, .string a0_6]] w fun e w' => e = .returned (.string r) /\ Below w.heap.size w w' := by
 have hu43 := Tryd.underlying43
 have HB := Aside0.mk (Below.refl w.heap.size w)
 have H : (if a0_0 = 8 then ((impl_in.f a0_4 0 3).bind fun t258 => (if t258 = true then ((strings_Split.f k (⟨#[97, 100, 100, 32, 115, 117, 98, 32, 108, 101, 115, 115, 32, 115, 97, 109, 101]⟩ : ByteArray) (⟨#[32]⟩ : ByteArray)).bind fun t259 => (if 0 <= a0_4 then (if a0_4 < (t259.length : Int) then (some (rdOf ByteArray.empty t259 a0_4)) else (none)) else (none))) else (some (⟨#[]⟩ : ByteArray)))) else ((impl_in.f a0_0 1 19).bind fun t263 => (if t263 = true then ((strings_Split.f k (⟨#[32, 45, 32, 102, 117, 110, 32, 97, 112, 112, 32, 108, 101, 116, 32, 114, 101, 99, 32, 105, 102, 32, 45, 32, 112, 97, 105, 114, 32, 102, 115, 116, 32, 115, 110, 100, 32, 110, 105, 108, 32, 99, 111, 110, 115, 32, 109, 97, 116, 99, 104, 32, 114, 101, 102, 32, 103, 101, 116, 32, 115, 101, 116, 32, 114, 97, 105, 115, 101, 32, 116, 114, 121]⟩ : ByteArray) (⟨#[32]⟩ : ByteArray)).bind fun t264 => ((impl_keyPlace.f a0_0).bind fun t267 => (if 0 <= t267 then (if t267 < (t264.length : Int) then (some (rdOf ByteArray.empty t264 t267)) else (none)) else (none)))) else (some (⟨#[]⟩ : ByteArray))))) = some r := h
 clear h
 by_cases c2 : a0_0 = 8
 ·rw [if_pos c2] at H
  have c2b0 : (a0_0 == 8) = true := beq_iff_eq.mpr c2
  have c2b1 : (a0_0 != 8) = false := bne_eq_false_iff_eq.mpr c2
  clear c2
  replace H := bi H
  obtain ⟨t258, A30, H⟩ := H
  try dsimp only at H
  have A3 := Aside0.mk A30
  clear A30
  by_cases c4 : t258 = true
  ·subst c4
   have H1 := hp H
   clear H
   have H := H1
   clear H1
   replace H := bi H
   obtain ⟨t259, A50, H⟩ := H
   try dsimp only at H
   have A5 := Aside0.mk A50
   clear A50
   replace H := iz H
   obtain ⟨c6, H⟩ := H
   have c6b0 := decide_eq_true c6
   clear c6
   replace H := iz H
   obtain ⟨c7, H⟩ := H
   have c7b0 := decide_eq_true c7
   clear c7
   obtain rfl := Option.some.inj H
   go_enter Tryd.func71, Tryd.ntmps71
   try go_wp2_with (first | ((with_reducible refine gate_dst (N := 1) rfl ?_); refine box_event ?hg (N := 1) ?hd (cs := #[.int .i64 a0_0, .int .i64 a0_1, .int .i64 a0_2, .int .i64 a0_3, .int .i64 a0_4, .string a0_5, .string a0_6]) (t := 43) ?hr ?_; (case hd => rfl); (case hg => rfl); (case hr => exact vz); intro gb257 hg w8 hbox hb; have BK257 := Aside0.mk (hbox); have GW257 := Aside0.mk ((by rw [hg]; exact (below_size (bz0 HB.out)) : w.heap.size <= gb257)); have GE257 := Aside0.mk ((by rw [hg]; exact (below_size (bz0 HB.out)) : w.heap.size <= gb257)); replace HB := Aside0.mk (below_step (bz0 HB.out) hb); clear hb hbox hg; obtain ⟨hcz9_0, hcz9_1, hcz9_2, hcz9_3, hcz9_4, hcz9_5, hcz9_6⟩ := cz7 BK257.out; obtain ⟨hfz9_0, hfz9_1, hfz9_2, hfz9_3, hfz9_4, hfz9_5, hfz9_6⟩ := fz7 BK257.out) | ((with_reducible refine gate_callee (f := 44) rfl ?_); refine goesL_ (some 9) rfl rfl Tryd.func44 (by kernel_rfl) rfl #[.int .i64 a0_4, .int .i64 0, .int .i64 3] rfl lz ?_; (with_reducible refine (impl_in.calls a0_4 0 3 true _ A3.out).mono ?_); rintro e w' ⟨rfl, ⟨nd, rfl⟩⟩; refine ⟨_, rfl, ?_⟩))
   (try (rw [drewN_self w8]; generalize hq_ : World.drewN w8 _ = w8; have n0_ : Aside0 (w8.heap[gb257]? = some (.cells #[.int .i64 a0_0, .int .i64 a0_1, .int .i64 a0_2, .int .i64 a0_3, .int .i64 a0_4, .string a0_5, .string a0_6] 43 (0, 0))) := ⟨by rw [<- hq_]; exact (kz BK257.out)⟩; have n1_ : Aside0 (Below w.heap.size w w8) := ⟨by rw [<- hq_]; exact (bz1 HB.out GE257.out)⟩; clear BK257 HB hq_; have BK257 := n0_; have HB := n1_; clear n0_ n1_))
   have n0_ := Aside0.mk (blk_drew BK257.out)
   have n1_ := Aside0.mk (below_drew1 HB.out)
   clear BK257
   clear HB
   have BK257 := n0_
   have HB := n1_
   clear n0_ n1_
   refine start_ (n := 6) (S := fun w' => w'.cell? ⟨gb257, 0, none⟩ = some (.int .i64 a0_0) /\ w'.cell? ⟨gb257, 1, none⟩ = some (.int .i64 a0_1) /\ w'.cell? ⟨gb257, 2, none⟩ = some (.int .i64 a0_2) /\ w'.cell? ⟨gb257, 3, none⟩ = some (.int .i64 a0_3) /\ w'.cell? ⟨gb257, 4, none⟩ = some (.int .i64 a0_4) /\ w'.cell? ⟨gb257, 5, none⟩ = some (.string a0_5) /\ w'.cell? ⟨gb257, 6, none⟩ = some (.string a0_6)) (ds := []) #[ff, ff, ff, ff, ff, ff] (by kernel_rfl) rfl rfl ⟨(blk_cell BK257.out 0).trans rfl, (blk_cell BK257.out 1).trans rfl, (blk_cell BK257.out 2).trans rfl, (blk_cell BK257.out 3).trans rfl, (blk_cell BK257.out 4).trans rfl, (blk_cell BK257.out 5).trans rfl, (blk_cell BK257.out 6).trans rfl⟩ (fun hHeld => ?_)
   generalize w8.drew = w10 at BK257 HB hHeld ⊢
   refine pure_ (i := 1) (N := some 12) (v := ?_) (a' := ?_) #[ff, tt, ff, ff, ff, ff] rfl rfl (by kernel_rfl) (fun _ _ _ h => h) (Or.inl ⟨by rfl, ?_⟩) ?_ ?_
   rotate_left
   ·intro w'
    go_simp
    with_reducible rfl
   rotate_left
   ·simp only [Act.put, sz1, sz2, sz3, i64_w, i32_w]
    rfl
   refine take_ (i := 2) (N := some 13) (v := ?_) (a' := ?_) #[ff, tt, tt, ff, ff, ff] rfl rfl (by kernel_rfl) (fun _ _ _ h => h) (Or.inl ⟨by rfl, ?_⟩) hHeld ?_ ?_
   rotate_left
   ·rintro w' ⟨s0, s1, s2, s3, s4, s5, s6⟩
    go_simp
    with_reducible rfl
   rotate_left
   ·simp only [Act.put, sz1, sz2, sz3, i64_w, i32_w]
    rfl
   refine one_ (i := 0) (N := some 11) #[tt, tt, tt, ff, ff, ff] rfl rfl (by kernel_rfl) (by decide) (fun K hK => ?_)
   refine goes_ Tryd.func84 (by kernel_rfl) rfl #[.string (⟨#[97, 100, 100, 32, 115, 117, 98, 32, 108, 101, 115, 115, 32, 115, 97, 109, 101]⟩ : ByteArray), .string (⟨#[32]⟩ : ByteArray)] (by rfl) rfl rfl lz ?_
   with_reducible refine (strings_Split.calls k (⟨#[97, 100, 100, 32, 115, 117, 98, 32, 108, 101, 115, 115, 32, 115, 97, 109, 101]⟩ : ByteArray) (⟨#[32]⟩ : ByteArray) t259 _ A5.out).mono ?_
   rintro e w11 ⟨v260, rfl, ho0, hb⟩
   refine ⟨_, rfl, ?_⟩
   have n0_ := Aside0.mk (Kd.R_lower ho0 (below_size (bz1 HB.out GE257.out)))
   have n1_ := Aside0.mk (blk_below (kz BK257.out) hb)
   have n2_ := Aside0.mk (below_step (bz1 HB.out GE257.out) hb)
   clear BK257
   clear HB
   have HO261 := n0_
   have BK257 := n1_
   have HB := n2_
   clear n0_ n1_ n2_
   (try clear hb)
   (try clear hb2)
   (try clear hk)
   (try clear hi)
   (try clear ho0)
   obtain ⟨Ao12, co12, eo12⟩ := Kd.R_slice HO261.out
   (first | subst eo12 | (injection eo12 with f1_ f2_ f3_; have f4_ := f1_.symm; have f5_ := f3_.symm; clear f1_ f2_ f3_; subst f4_; subst f5_))
   have p262 : 0 <= (a0_4 : Int) := oz
   have q262 : a0_4 < (t259.length : Int) := oz
   obtain ⟨ad262, e262, hx262_0⟩ := Kd.at_string (Kd.R_reads' HO261.out).2.2 a0_4 p262 q262
   cases e262
   replace p262 := eq_true p262
   replace q262 := eq_true q262
   refine hK.out _ _ ⟨(blk_cell BK257.out 0).trans rfl, (blk_cell BK257.out 1).trans rfl, (blk_cell BK257.out 2).trans rfl, (blk_cell BK257.out 3).trans rfl, (blk_cell BK257.out 4).trans rfl, (blk_cell BK257.out 5).trans rfl, (blk_cell BK257.out 6).trans rfl⟩ (fun hHeld => ?_)
   clear hK K
   refine norm_ (a' := ?_) ?_ ?_
   rotate_left
   ·show Act.put _ (some 11) _ = _
    simp only [Act.put, sz1, sz2, sz3, i64_w, i32_w]
    rfl
   refine pure_ (i := 3) (N := some 14) (v := ?_) (a' := ?_) #[tt, tt, tt, tt, ff, ff] rfl rfl (by kernel_rfl) (fun _ _ _ h => h) (Or.inl ⟨by rfl, ?_⟩) ?_ ?_
   rotate_left
   ·intro w'
    go_simp
    with_reducible rfl
   rotate_left
   ·simp only [Act.put, sz1, sz2, sz3, i64_w, i32_w]
    rfl
   refine one_ (i := 4) (N := some 15) #[tt, tt, tt, tt, tt, ff] rfl rfl (by kernel_rfl) (by decide) (fun K hK => ?_)
   refine value_ (v := .string (rdOf ByteArray.empty t259 a0_4)) (w1 := ?w1_262) (by rfl) rfl ?hr_262 ?hk_262
   case hr_262 => first | (go_simp; with_reducible rfl) | (go_simp; rfl) | (simp [go_sem, hx262_0]; rfl)
   refine hK.out _ _ ⟨(blk_cell BK257.out 0).trans rfl, (blk_cell BK257.out 1).trans rfl, (blk_cell BK257.out 2).trans rfl, (blk_cell BK257.out 3).trans rfl, (blk_cell BK257.out 4).trans rfl, (blk_cell BK257.out 5).trans rfl, (blk_cell BK257.out 6).trans rfl⟩ (fun hHeld => ?_)
   clear hK K
   refine norm_ (a' := ?_) ?_ ?_
   rotate_left
   ·show Act.put _ (some 15) _ = _
    simp only [Act.put, sz1, sz2, sz3, i64_w, i32_w]
    rfl
   refine pure_ (i := 5) (N := some 2) (v := ?_) (a' := ?_) #[tt, tt, tt, tt, tt, tt] rfl rfl (by kernel_rfl) (fun _ _ _ h => h) (Or.inl ⟨by rfl, ?_⟩) ?_ ?_
   rotate_left
   ·intro w'
    go_simp
    with_reducible rfl
   rotate_left
   ·simp only [Act.put, sz1, sz2, sz3, i64_w, i32_w]
    rfl
   refine done_ (by kernel_rfl) ?_
   try go_wp2
   go_ret
   exact ⟨gz, (bz1 HB.out GE257.out)⟩
  ·replace c4 := Bool.eq_false_iff.mpr c4
   subst c4
   have H1 := hq H
   clear H
   have H := H1
   clear H1
   obtain rfl := Option.some.inj H
   go_enter Tryd.func71, Tryd.ntmps71
   go_wp2_with (first | ((with_reducible refine gate_dst (N := 1) rfl ?_); refine box_event ?hg (N := 1) ?hd (cs := #[.int .i64 a0_0, .int .i64 a0_1, .int .i64 a0_2, .int .i64 a0_3, .int .i64 a0_4, .string a0_5, .string a0_6]) (t := 43) ?hr ?_; (case hd => rfl); (case hg => rfl); (case hr => exact vz); intro gb257 hg w13 hbox hb; have BK257 := Aside0.mk (hbox); have GW257 := Aside0.mk ((by rw [hg]; exact (below_size (bz0 HB.out)) : w.heap.size <= gb257)); have GE257 := Aside0.mk ((by rw [hg]; exact (below_size (bz0 HB.out)) : w.heap.size <= gb257)); replace HB := Aside0.mk (below_step (bz0 HB.out) hb); clear hb hbox hg; obtain ⟨hcz14_0, hcz14_1, hcz14_2, hcz14_3, hcz14_4, hcz14_5, hcz14_6⟩ := cz7 BK257.out; obtain ⟨hfz14_0, hfz14_1, hfz14_2, hfz14_3, hfz14_4, hfz14_5, hfz14_6⟩ := fz7 BK257.out) | ((with_reducible refine gate_callee (f := 44) rfl ?_); refine goesL_ (some 9) rfl rfl Tryd.func44 (by kernel_rfl) rfl #[.int .i64 a0_4, .int .i64 0, .int .i64 3] rfl lz ?_; (with_reducible refine (impl_in.calls a0_4 0 3 false _ A3.out).mono ?_); rintro e w' ⟨rfl, ⟨nd, rfl⟩⟩; refine ⟨_, rfl, ?_⟩))
   go_ret
   exact ⟨gz, (bz1 HB.out GE257.out)⟩
 ·rw [if_neg c2] at H
  have c2b0 : (a0_0 == 8) = false := beq_eq_false_iff_ne.mpr c2
  have c2b1 : (a0_0 != 8) = true := bne_iff_ne.mpr c2
  replace H := bi H
  obtain ⟨t263, A150, H⟩ := H
  try dsimp only at H
  have A15 := Aside0.mk A150
  clear A150
  by_cases c16 : t263 = true
  ·subst c16
   have H1 := hp H
   clear H
   have H := H1
   clear H1
   replace H := bi H
   obtain ⟨t264, A170, H⟩ := H
   try dsimp only at H
   have A17 := Aside0.mk A170
   clear A170
   replace H := bi H
   obtain ⟨t267, A180, H⟩ := H
   try dsimp only at H
   have A18 := Aside0.mk A180
   clear A180
   replace H := iz H
   obtain ⟨c19, H⟩ := H
   have c19b0 := decide_eq_true c19
   clear c19
   replace H := iz H
   obtain ⟨c20, H⟩ := H
   have c20b0 := decide_eq_true c20
   clear c20
   obtain rfl := Option.some.inj H
   go_enter Tryd.func71, Tryd.ntmps71
   try go_wp2_with (first | ((with_reducible refine gate_dst (N := 1) rfl ?_); refine box_event ?hg (N := 1) ?hd (cs := #[.int .i64 a0_0, .int .i64 a0_1, .int .i64 a0_2, .int .i64 a0_3, .int .i64 a0_4, .string a0_5, .string a0_6]) (t := 43) ?hr ?_; (case hd => rfl); (case hg => rfl); (case hr => exact vz); intro gb257 hg w21 hbox hb; have BK257 := Aside0.mk (hbox); have GW257 := Aside0.mk ((by rw [hg]; exact (below_size (bz0 HB.out)) : w.heap.size <= gb257)); have GE257 := Aside0.mk ((by rw [hg]; exact (below_size (bz0 HB.out)) : w.heap.size <= gb257)); replace HB := Aside0.mk (below_step (bz0 HB.out) hb); clear hb hbox hg; obtain ⟨hcz22_0, hcz22_1, hcz22_2, hcz22_3, hcz22_4, hcz22_5, hcz22_6⟩ := cz7 BK257.out; obtain ⟨hfz22_0, hfz22_1, hfz22_2, hfz22_3, hfz22_4, hfz22_5, hfz22_6⟩ := fz7 BK257.out) | ((with_reducible refine gate_callee (f := 44) rfl ?_); refine goesL_ (some 19) rfl rfl Tryd.func44 (by kernel_rfl) rfl #[.int .i64 a0_0, .int .i64 1, .int .i64 19] rfl lz ?_; (with_reducible refine (impl_in.calls a0_0 1 19 true _ A15.out).mono ?_); rintro e w' ⟨rfl, ⟨nd, rfl⟩⟩; refine ⟨_, rfl, ?_⟩))
   (try (rw [drewN_self w21]; generalize hq_ : World.drewN w21 _ = w21; have n0_ : Aside0 (w21.heap[gb257]? = some (.cells #[.int .i64 a0_0, .int .i64 a0_1, .int .i64 a0_2, .int .i64 a0_3, .int .i64 a0_4, .string a0_5, .string a0_6] 43 (0, 0))) := ⟨by rw [<- hq_]; exact (kz BK257.out)⟩; have n1_ : Aside0 (Below w.heap.size w w21) := ⟨by rw [<- hq_]; exact (bz1 HB.out GE257.out)⟩; clear BK257 HB hq_; have BK257 := n0_; have HB := n1_; clear n0_ n1_))
   have n0_ := Aside0.mk (blk_drew BK257.out)
   have n1_ := Aside0.mk (below_drew1 HB.out)
   clear BK257
   clear HB
   have BK257 := n0_
   have HB := n1_
   clear n0_ n1_
   refine start_ (n := 7) (S := fun w' => w'.cell? ⟨gb257, 0, none⟩ = some (.int .i64 a0_0) /\ w'.cell? ⟨gb257, 1, none⟩ = some (.int .i64 a0_1) /\ w'.cell? ⟨gb257, 2, none⟩ = some (.int .i64 a0_2) /\ w'.cell? ⟨gb257, 3, none⟩ = some (.int .i64 a0_3) /\ w'.cell? ⟨gb257, 4, none⟩ = some (.int .i64 a0_4) /\ w'.cell? ⟨gb257, 5, none⟩ = some (.string a0_5) /\ w'.cell? ⟨gb257, 6, none⟩ = some (.string a0_6)) (ds := []) #[ff, ff, ff, ff, ff, ff, ff] (by kernel_rfl) rfl rfl ⟨(blk_cell BK257.out 0).trans rfl, (blk_cell BK257.out 1).trans rfl, (blk_cell BK257.out 2).trans rfl, (blk_cell BK257.out 3).trans rfl, (blk_cell BK257.out 4).trans rfl, (blk_cell BK257.out 5).trans rfl, (blk_cell BK257.out 6).trans rfl⟩ (fun hHeld => ?_)
   generalize w21.drew = w23 at BK257 HB hHeld ⊢
   refine pure_ (i := 1) (N := some 21) (v := ?_) (a' := ?_) #[ff, tt, ff, ff, ff, ff, ff] rfl rfl (by kernel_rfl) (fun _ _ _ h => h) (Or.inl ⟨by rfl, ?_⟩) ?_ ?_
   rotate_left
   ·intro w'
    go_simp
    with_reducible rfl
   rotate_left
   ·simp only [Act.put, sz1, sz2, sz3, i64_w, i32_w]
    rfl
   refine take_ (i := 2) (N := some 22) (v := ?_) (a' := ?_) #[ff, tt, tt, ff, ff, ff, ff] rfl rfl (by kernel_rfl) (fun _ _ _ h => h) (Or.inl ⟨by rfl, ?_⟩) hHeld ?_ ?_
   rotate_left
   ·rintro w' ⟨s0, s1, s2, s3, s4, s5, s6⟩
    go_simp
    with_reducible rfl
   rotate_left
   ·simp only [Act.put, sz1, sz2, sz3, i64_w, i32_w]
    rfl
   refine one_ (i := 0) (N := some 20) #[tt, tt, tt, ff, ff, ff, ff] rfl rfl (by kernel_rfl) (by decide) (fun K hK => ?_)
   refine goes_ Tryd.func84 (by kernel_rfl) rfl #[.string (⟨#[32, 45, 32, 102, 117, 110, 32, 97, 112, 112, 32, 108, 101, 116, 32, 114, 101, 99, 32, 105, 102, 32, 45, 32, 112, 97, 105, 114, 32, 102, 115, 116, 32, 115, 110, 100, 32, 110, 105, 108, 32, 99, 111, 110, 115, 32, 109, 97, 116, 99, 104, 32, 114, 101, 102, 32, 103, 101, 116, 32, 115, 101, 116, 32, 114, 97, 105, 115, 101, 32, 116, 114, 121]⟩ : ByteArray), .string (⟨#[32]⟩ : ByteArray)] (by rfl) rfl rfl lz ?_
   with_reducible refine (strings_Split.calls k (⟨#[32, 45, 32, 102, 117, 110, 32, 97, 112, 112, 32, 108, 101, 116, 32, 114, 101, 99, 32, 105, 102, 32, 45, 32, 112, 97, 105, 114, 32, 102, 115, 116, 32, 115, 110, 100, 32, 110, 105, 108, 32, 99, 111, 110, 115, 32, 109, 97, 116, 99, 104, 32, 114, 101, 102, 32, 103, 101, 116, 32, 115, 101, 116, 32, 114, 97, 105, 115, 101, 32, 116, 114, 121]⟩ : ByteArray) (⟨#[32]⟩ : ByteArray) t264 _ A17.out).mono ?_
   rintro e w24 ⟨v265, rfl, ho0, hb⟩
   refine ⟨_, rfl, ?_⟩
   have n0_ := Aside0.mk (Kd.R_lower ho0 (below_size (bz1 HB.out GE257.out)))
   have n1_ := Aside0.mk (blk_below (kz BK257.out) hb)
   have n2_ := Aside0.mk (below_step (bz1 HB.out GE257.out) hb)
   clear BK257
   clear HB
   have HO266 := n0_
   have BK257 := n1_
   have HB := n2_
   clear n0_ n1_ n2_
   (try clear hb)
   (try clear hb2)
   (try clear hk)
   (try clear hi)
   (try clear ho0)
   refine hK.out _ _ ⟨(blk_cell BK257.out 0).trans rfl, (blk_cell BK257.out 1).trans rfl, (blk_cell BK257.out 2).trans rfl, (blk_cell BK257.out 3).trans rfl, (blk_cell BK257.out 4).trans rfl, (blk_cell BK257.out 5).trans rfl, (blk_cell BK257.out 6).trans rfl⟩ (fun hHeld => ?_)
   clear hK K
   refine norm_ (a' := ?_) ?_ ?_
   rotate_left
   ·show Act.put _ (some 20) _ = _
    simp only [Act.put, sz1, sz2, sz3, i64_w, i32_w]
    rfl
   refine one_ (i := 3) (N := some 23) #[tt, tt, tt, tt, ff, ff, ff] rfl rfl (by kernel_rfl) (by decide) (fun K hK => ?_)
   refine goes_ Tryd.func85 (by kernel_rfl) rfl #[.int .i64 a0_0] (by rfl) rfl rfl lz ?_
   with_reducible refine (impl_keyPlace.calls a0_0 t267 _ A18.out).mono ?_
   rintro e w' ⟨rfl, ⟨nd, rfl⟩⟩
   refine ⟨_, rfl, ?_⟩
   obtain ⟨Ao25, co25, eo25⟩ := Kd.R_slice HO266.out
   (first | subst eo25 | (injection eo25 with f1_ f2_ f3_; have f4_ := f1_.symm; have f5_ := f3_.symm; clear f1_ f2_ f3_; subst f4_; subst f5_))
   have p268 : 0 <= (t267 : Int) := oz
   have q268 : t267 < (t264.length : Int) := oz
   obtain ⟨ad268, e268, hx268_0⟩ := Kd.at_string (Kd.R_reads' HO266.out).2.2 t267 p268 q268
   cases e268
   replace p268 := eq_true p268
   replace q268 := eq_true q268
   refine hK.out _ _ ⟨(blk_cell BK257.out 0).trans rfl, (blk_cell BK257.out 1).trans rfl, (blk_cell BK257.out 2).trans rfl, (blk_cell BK257.out 3).trans rfl, (blk_cell BK257.out 4).trans rfl, (blk_cell BK257.out 5).trans rfl, (blk_cell BK257.out 6).trans rfl⟩ (fun hHeld => ?_)
   clear hK K
   refine norm_ (a' := ?_) ?_ ?_
   rotate_left
   ·show Act.put _ (some 23) _ = _
    simp only [Act.put, sz1, sz2, sz3, i64_w, i32_w]
    rfl
   refine pure_ (i := 4) (N := some 24) (v := ?_) (a' := ?_) #[tt, tt, tt, tt, tt, ff, ff] rfl rfl (by kernel_rfl) (fun _ _ _ h => h) (Or.inl ⟨by rfl, ?_⟩) ?_ ?_
   rotate_left
   ·intro w'
    go_simp
    with_reducible rfl
   rotate_left
   ·simp only [Act.put, sz1, sz2, sz3, i64_w, i32_w]
    rfl
   refine one_ (i := 5) (N := some 25) #[tt, tt, tt, tt, tt, tt, ff] rfl rfl (by kernel_rfl) (by decide) (fun K hK => ?_)
   refine value_ (v := .string (rdOf ByteArray.empty t264 t267)) (w1 := ?w1_268) (by rfl) rfl ?hr_268 ?hk_268
   case hr_268 => first | (go_simp; with_reducible rfl) | (go_simp; rfl) | (simp [go_sem, hx268_0]; rfl)
   refine hK.out _ _ ⟨(blk_cell BK257.out 0).trans rfl, (blk_cell BK257.out 1).trans rfl, (blk_cell BK257.out 2).trans rfl, (blk_cell BK257.out 3).trans rfl, (blk_cell BK257.out 4).trans rfl, (blk_cell BK257.out 5).trans rfl, (blk_cell BK257.out 6).trans rfl⟩ (fun hHeld => ?_)
   clear hK K
   refine norm_ (a' := ?_) ?_ ?_
   rotate_left
   ·show Act.put _ (some 25) _ = _
    simp only [Act.put, sz1, sz2, sz3, i64_w, i32_w]
    rfl
   refine pure_ (i := 6) (N := some 2) (v := ?_) (a' := ?_) #[tt, tt, tt, tt, tt, tt, tt] rfl rfl (by kernel_rfl) (fun _ _ _ h => h) (Or.inl ⟨by rfl, ?_⟩) ?_ ?_
   rotate_left
   ·intro w'
    go_simp
    with_reducible rfl
   rotate_left
   ·simp only [Act.put, sz1, sz2, sz3, i64_w, i32_w]
    rfl
   refine done_ (by kernel_rfl) ?_
   try go_wp2
   go_ret
   exact ⟨gz, (bz1 HB.out GE257.out)⟩
  ·replace c16 := Bool.eq_false_iff.mpr c16
   subst c16
   have H1 := hq H
   clear H
   have H := H1
   clear H1
   obtain rfl := Option.some.inj H
   go_enter Tryd.func71, Tryd.ntmps71
   go_wp2_with (first | ((with_reducible refine gate_dst (N := 1) rfl ?_); refine box_event ?hg (N := 1) ?hd (cs := #[.int .i64 a0_0, .int .i64 a0_1, .int .i64 a0_2, .int .i64 a0_3, .int .i64 a0_4, .string a0_5, .string a0_6]) (t := 43) ?hr ?_; (case hd => rfl); (case hg => rfl); (case hr => exact vz); intro gb257 hg w26 hbox hb; have BK257 := Aside0.mk (hbox); have GW257 := Aside0.mk ((by rw [hg]; exact (below_size (bz0 HB.out)) : w.heap.size <= gb257)); have GE257 := Aside0.mk ((by rw [hg]; exact (below_size (bz0 HB.out)) : w.heap.size <= gb257)); replace HB := Aside0.mk (below_step (bz0 HB.out) hb); clear hb hbox hg; obtain ⟨hcz27_0, hcz27_1, hcz27_2, hcz27_3, hcz27_4, hcz27_5, hcz27_6⟩ := cz7 BK257.out; obtain ⟨hfz27_0, hfz27_1, hfz27_2, hfz27_3, hfz27_4, hfz27_5, hfz27_6⟩ := fz7 BK257.out) | ((with_reducible refine gate_callee (f := 44) rfl ?_); refine goesL_ (some 19) rfl rfl Tryd.func44 (by kernel_rfl) rfl #[.int .i64 a0_0, .int .i64 1, .int .i64 19] rfl lz ?_; (with_reducible refine (impl_in.calls a0_0 1 19 false _ A15.out).mono ?_); rintro e w' ⟨rfl, ⟨nd, rfl⟩⟩; refine ⟨_, rfl, ?_⟩))
   go_ret
   exact ⟨gz, (bz1 HB.out GE257.out)⟩
def impl_plainForm.f (a0 : ByteArray) : Option (Int × Int × Int × Int × Int × ByteArray × ByteArray × ByteArray) := if a0.toList = ([112, 97, 105, 114] : List UInt8) then (some (9, 0, 0, 0, 0, (⟨#[]⟩ : ByteArray), (⟨#[]⟩ : ByteArray), (⟨#[101, 101]⟩ : ByteArray))) else (if a0.toList = ([102, 115, 116] : List UInt8) then (some (10, 0, 0, 0, 0, (⟨#[]⟩ : ByteArray), (⟨#[]⟩ : ByteArray), (⟨#[101]⟩ : ByteArray))) else (if a0.toList = ([115, 110, 100] : List UInt8) then (some (11, 0, 0, 0, 0, (⟨#[]⟩ : ByteArray), (⟨#[]⟩ : ByteArray), (⟨#[101]⟩ : ByteArray))) else (if a0.toList = ([99, 111, 110, 115] : List UInt8) then (some (13, 0, 0, 0, 0, (⟨#[]⟩ : ByteArray), (⟨#[]⟩ : ByteArray), (⟨#[101, 101]⟩ : ByteArray))) else (if a0.toList = ([114, 101, 102] : List UInt8) then (some (15, 0, 0, 0, 0, (⟨#[]⟩ : ByteArray), (⟨#[]⟩ : ByteArray), (⟨#[101]⟩ : ByteArray))) else (if a0.toList = ([103, 101, 116] : List UInt8) then (some (16, 0, 0, 0, 0, (⟨#[]⟩ : ByteArray), (⟨#[]⟩ : ByteArray), (⟨#[101]⟩ : ByteArray))) else (if a0.toList = ([115, 101, 116] : List UInt8) then (some (17, 0, 0, 0, 0, (⟨#[]⟩ : ByteArray), (⟨#[]⟩ : ByteArray), (⟨#[101, 101]⟩ : ByteArray))) else (if a0.toList = ([114, 97, 105, 115, 101] : List UInt8) then (some (18, 0, 0, 0, 0, (⟨#[]⟩ : ByteArray), (⟨#[]⟩ : ByteArray), (⟨#[101]⟩ : ByteArray))) else (some (0, 0, 0, 0, 0, (⟨#[]⟩ : ByteArray), (⟨#[]⟩ : ByteArray), (⟨#[]⟩ : ByteArray))))))))))
set_option maxHeartbeats 8000000 in
set_option maxRecDepth 100000 in
theorem impl_plainForm.calls (a0 : ByteArray) (r1 : Int) (r2 : Int) (r3 : Int) (r4 : Int) (r5 : Int) (r6 : ByteArray) (r7 : ByteArray) (r8 : ByteArray) (w : World) (h : impl_plainForm.f a0 = some (r1, r2, r3, r4, r5, r6, r7, r8)) :
  Calls Tryd.prog 86 #[.string a0] w fun e w' => e = .returned (.tuple #[.agg #[.int .i64 r1, .int .i64 r2, .int .i64 r3, .int .i64 r4, .int .i64 r5, .string r6, .string r7], .string r8]) /\ Below w.heap.size w w' := by
 have hu43 := Tryd.underlying43
 have HB := Aside0.mk (Below.refl w.heap.size w)
 have H : (if a0.toList = ([112, 97, 105, 114] : List UInt8) then (some (9, 0, 0, 0, 0, (⟨#[]⟩ : ByteArray), (⟨#[]⟩ : ByteArray), (⟨#[101, 101]⟩ : ByteArray))) else (if a0.toList = ([102, 115, 116] : List UInt8) then (some (10, 0, 0, 0, 0, (⟨#[]⟩ : ByteArray), (⟨#[]⟩ : ByteArray), (⟨#[101]⟩ : ByteArray))) else (if a0.toList = ([115, 110, 100] : List UInt8) then (some (11, 0, 0, 0, 0, (⟨#[]⟩ : ByteArray), (⟨#[]⟩ : ByteArray), (⟨#[101]⟩ : ByteArray))) else (if a0.toList = ([99, 111, 110, 115] : List UInt8) then (some (13, 0, 0, 0, 0, (⟨#[]⟩ : ByteArray), (⟨#[]⟩ : ByteArray), (⟨#[101, 101]⟩ : ByteArray))) else (if a0.toList = ([114, 101, 102] : List UInt8) then (some (15, 0, 0, 0, 0, (⟨#[]⟩ : ByteArray), (⟨#[]⟩ : ByteArray), (⟨#[101]⟩ : ByteArray))) else (if a0.toList = ([103, 101, 116] : List UInt8) then (some (16, 0, 0, 0, 0, (⟨#[]⟩ : ByteArray), (⟨#[]⟩ : ByteArray), (⟨#[101]⟩ : ByteArray))) else (if a0.toList = ([115, 101, 116] : List UInt8) then (some (17, 0, 0, 0, 0, (⟨#[]⟩ : ByteArray), (⟨#[]⟩ : ByteArray), (⟨#[101, 101]⟩ : ByteArray))) else (if a0.toList = ([114, 97, 105, 115, 101] : List UInt8) then (some (18, 0, 0, 0, 0, (⟨#[]⟩ : ByteArray), (⟨#[]⟩ : ByteArray), (⟨#[101]⟩ : ByteArray))) else (some (0, 0, 0, 0, 0, (⟨#[]⟩ : ByteArray), (⟨#[]⟩ : ByteArray), (⟨#[]⟩ : ByteArray))))))))))) = some (r1, r2, r3, r4, r5, r6, r7, r8) := h
 clear h
 by_cases c2 : a0.toList = ([112, 97, 105, 114] : List UInt8)
 ·rw [if_pos c2] at H
  have c2b0 : (a0.toList == ([112, 97, 105, 114] : List UInt8)) = true := beq_iff_eq.mpr c2
  have c2b1 : (a0.toList != ([112, 97, 105, 114] : List UInt8)) = false := bne_eq_false_iff_eq.mpr c2
  clear c2
  simp only [Option.some.injEq, Prod.mk.injEq] at H
  obtain ⟨rfl, rfl, rfl, rfl, rfl, rfl, rfl, rfl⟩ := H
  go_enter Tryd.func86, Tryd.ntmps86
  go_wp2_with (first | ((with_reducible refine gate_dst (N := 2) rfl ?_); refine box_event ?hg (N := 2) ?hd (cs := #[.int .i64 0, .int .i64 0, .int .i64 0, .int .i64 0, .int .i64 0, .string (⟨#[]⟩ : ByteArray), .string (⟨#[]⟩ : ByteArray)]) (t := 43) ?hr ?_; (case hd => rfl); (case hg => rfl); (case hr => exact vz); intro gb269 hg w3 hbox hb; have BK269 := Aside0.mk (hbox); have GW269 := Aside0.mk ((by rw [hg]; exact (below_size (bz0 HB.out)) : w.heap.size <= gb269)); have GE269 := Aside0.mk ((by rw [hg]; exact (below_size (bz0 HB.out)) : w.heap.size <= gb269)); replace HB := Aside0.mk (below_step (bz0 HB.out) hb); clear hb hbox hg; obtain ⟨hcz4_0, hcz4_1, hcz4_2, hcz4_3, hcz4_4, hcz4_5, hcz4_6⟩ := cz7 BK269.out; obtain ⟨hfz4_0, hfz4_1, hfz4_2, hfz4_3, hfz4_4, hfz4_5, hfz4_6⟩ := fz7 BK269.out))
  refine bodyPost_ret (results_ct rfl _ _ gb269 43 #[.int .i64 9, .int .i64 0, .int .i64 0, .int .i64 0, .int .i64 0, .string (⟨#[]⟩ : ByteArray), .string (⟨#[]⟩ : ByteArray)] (0, 0) _ rfl (by refine kq ?_; refine blk_put (cs := #[.int .i64 9, .int .i64 0, .int .i64 0, .int .i64 0, .int .i64 0, .string (⟨#[]⟩ : ByteArray), .string (⟨#[]⟩ : ByteArray)]) ?_ 6 _ rfl; refine kq ?_; refine blk_put (cs := #[.int .i64 9, .int .i64 0, .int .i64 0, .int .i64 0, .int .i64 0, .string (⟨#[]⟩ : ByteArray), .string (⟨#[]⟩ : ByteArray)]) ?_ 5 _ rfl; refine kq ?_; refine blk_put (cs := #[.int .i64 9, .int .i64 0, .int .i64 0, .int .i64 0, .int .i64 0, .string (⟨#[]⟩ : ByteArray), .string (⟨#[]⟩ : ByteArray)]) ?_ 4 _ rfl; refine kq ?_; refine blk_put (cs := #[.int .i64 9, .int .i64 0, .int .i64 0, .int .i64 0, .int .i64 0, .string (⟨#[]⟩ : ByteArray), .string (⟨#[]⟩ : ByteArray)]) ?_ 3 _ rfl; refine kq ?_; refine blk_put (cs := #[.int .i64 9, .int .i64 0, .int .i64 0, .int .i64 0, .int .i64 0, .string (⟨#[]⟩ : ByteArray), .string (⟨#[]⟩ : ByteArray)]) ?_ 2 _ rfl; refine kq ?_; refine blk_put (cs := #[.int .i64 9, .int .i64 0, .int .i64 0, .int .i64 0, .int .i64 0, .string (⟨#[]⟩ : ByteArray), .string (⟨#[]⟩ : ByteArray)]) ?_ 1 _ rfl; refine kq ?_; refine blk_put (cs := #[.int .i64 0, .int .i64 0, .int .i64 0, .int .i64 0, .int .i64 0, .string (⟨#[]⟩ : ByteArray), .string (⟨#[]⟩ : ByteArray)]) ?_ 0 _ rfl; refine kq ?_; exact BK269.out) Tryd.underlying43 rfl (by kernel_rfl)) rfl ?_
  exact ⟨gz, (bz1 HB.out GE269.out)⟩
 ·rw [if_neg c2] at H
  have c2b0 : (a0.toList == ([112, 97, 105, 114] : List UInt8)) = false := beq_eq_false_iff_ne.mpr c2
  have c2b1 : (a0.toList != ([112, 97, 105, 114] : List UInt8)) = true := bne_iff_ne.mpr c2
  by_cases c5 : a0.toList = ([102, 115, 116] : List UInt8)
  ·rw [if_pos c5] at H
   have c5b0 : (a0.toList == ([102, 115, 116] : List UInt8)) = true := beq_iff_eq.mpr c5
   have c5b1 : (a0.toList != ([102, 115, 116] : List UInt8)) = false := bne_eq_false_iff_eq.mpr c5
   clear c5
   simp only [Option.some.injEq, Prod.mk.injEq] at H
   obtain ⟨rfl, rfl, rfl, rfl, rfl, rfl, rfl, rfl⟩ := H
   go_enter Tryd.func86, Tryd.ntmps86
   go_wp2_with (first | ((with_reducible refine gate_dst (N := 2) rfl ?_); refine box_event ?hg (N := 2) ?hd (cs := #[.int .i64 0, .int .i64 0, .int .i64 0, .int .i64 0, .int .i64 0, .string (⟨#[]⟩ : ByteArray), .string (⟨#[]⟩ : ByteArray)]) (t := 43) ?hr ?_; (case hd => rfl); (case hg => rfl); (case hr => exact vz); intro gb269 hg w6 hbox hb; have BK269 := Aside0.mk (hbox); have GW269 := Aside0.mk ((by rw [hg]; exact (below_size (bz0 HB.out)) : w.heap.size <= gb269)); have GE269 := Aside0.mk ((by rw [hg]; exact (below_size (bz0 HB.out)) : w.heap.size <= gb269)); replace HB := Aside0.mk (below_step (bz0 HB.out) hb); clear hb hbox hg; obtain ⟨hcz7_0, hcz7_1, hcz7_2, hcz7_3, hcz7_4, hcz7_5, hcz7_6⟩ := cz7 BK269.out; obtain ⟨hfz7_0, hfz7_1, hfz7_2, hfz7_3, hfz7_4, hfz7_5, hfz7_6⟩ := fz7 BK269.out))
   refine bodyPost_ret (results_ct rfl _ _ gb269 43 #[.int .i64 10, .int .i64 0, .int .i64 0, .int .i64 0, .int .i64 0, .string (⟨#[]⟩ : ByteArray), .string (⟨#[]⟩ : ByteArray)] (0, 0) _ rfl (by refine kq ?_; refine blk_put (cs := #[.int .i64 10, .int .i64 0, .int .i64 0, .int .i64 0, .int .i64 0, .string (⟨#[]⟩ : ByteArray), .string (⟨#[]⟩ : ByteArray)]) ?_ 6 _ rfl; refine kq ?_; refine blk_put (cs := #[.int .i64 10, .int .i64 0, .int .i64 0, .int .i64 0, .int .i64 0, .string (⟨#[]⟩ : ByteArray), .string (⟨#[]⟩ : ByteArray)]) ?_ 5 _ rfl; refine kq ?_; refine blk_put (cs := #[.int .i64 10, .int .i64 0, .int .i64 0, .int .i64 0, .int .i64 0, .string (⟨#[]⟩ : ByteArray), .string (⟨#[]⟩ : ByteArray)]) ?_ 4 _ rfl; refine kq ?_; refine blk_put (cs := #[.int .i64 10, .int .i64 0, .int .i64 0, .int .i64 0, .int .i64 0, .string (⟨#[]⟩ : ByteArray), .string (⟨#[]⟩ : ByteArray)]) ?_ 3 _ rfl; refine kq ?_; refine blk_put (cs := #[.int .i64 10, .int .i64 0, .int .i64 0, .int .i64 0, .int .i64 0, .string (⟨#[]⟩ : ByteArray), .string (⟨#[]⟩ : ByteArray)]) ?_ 2 _ rfl; refine kq ?_; refine blk_put (cs := #[.int .i64 10, .int .i64 0, .int .i64 0, .int .i64 0, .int .i64 0, .string (⟨#[]⟩ : ByteArray), .string (⟨#[]⟩ : ByteArray)]) ?_ 1 _ rfl; refine kq ?_; refine blk_put (cs := #[.int .i64 0, .int .i64 0, .int .i64 0, .int .i64 0, .int .i64 0, .string (⟨#[]⟩ : ByteArray), .string (⟨#[]⟩ : ByteArray)]) ?_ 0 _ rfl; refine kq ?_; exact BK269.out) Tryd.underlying43 rfl (by kernel_rfl)) rfl ?_
   exact ⟨gz, (bz1 HB.out GE269.out)⟩
  ·rw [if_neg c5] at H
   have c5b0 : (a0.toList == ([102, 115, 116] : List UInt8)) = false := beq_eq_false_iff_ne.mpr c5
   have c5b1 : (a0.toList != ([102, 115, 116] : List UInt8)) = true := bne_iff_ne.mpr c5
   by_cases c8 : a0.toList = ([115, 110, 100] : List UInt8)
   ·rw [if_pos c8] at H
    have c8b0 : (a0.toList == ([115, 110, 100] : List UInt8)) = true := beq_iff_eq.mpr c8
    have c8b1 : (a0.toList != ([115, 110, 100] : List UInt8)) = false := bne_eq_false_iff_eq.mpr c8
    clear c8
    simp only [Option.some.injEq, Prod.mk.injEq] at H
    obtain ⟨rfl, rfl, rfl, rfl, rfl, rfl, rfl, rfl⟩ := H
    go_enter Tryd.func86, Tryd.ntmps86
    go_wp2_with (first | ((with_reducible refine gate_dst (N := 2) rfl ?_); refine box_event ?hg (N := 2) ?hd (cs := #[.int .i64 0, .int .i64 0, .int .i64 0, .int .i64 0, .int .i64 0, .string (⟨#[]⟩ : ByteArray), .string (⟨#[]⟩ : ByteArray)]) (t := 43) ?hr ?_; (case hd => rfl); (case hg => rfl); (case hr => exact vz); intro gb269 hg w9 hbox hb; have BK269 := Aside0.mk (hbox); have GW269 := Aside0.mk ((by rw [hg]; exact (below_size (bz0 HB.out)) : w.heap.size <= gb269)); have GE269 := Aside0.mk ((by rw [hg]; exact (below_size (bz0 HB.out)) : w.heap.size <= gb269)); replace HB := Aside0.mk (below_step (bz0 HB.out) hb); clear hb hbox hg; obtain ⟨hcz10_0, hcz10_1, hcz10_2, hcz10_3, hcz10_4, hcz10_5, hcz10_6⟩ := cz7 BK269.out; obtain ⟨hfz10_0, hfz10_1, hfz10_2, hfz10_3, hfz10_4, hfz10_5, hfz10_6⟩ := fz7 BK269.out))
    refine bodyPost_ret (results_ct rfl _ _ gb269 43 #[.int .i64 11, .int .i64 0, .int .i64 0, .int .i64 0, .int .i64 0, .string (⟨#[]⟩ : ByteArray), .string (⟨#[]⟩ : ByteArray)] (0, 0) _ rfl (by refine kq ?_; refine blk_put (cs := #[.int .i64 11, .int .i64 0, .int .i64 0, .int .i64 0, .int .i64 0, .string (⟨#[]⟩ : ByteArray), .string (⟨#[]⟩ : ByteArray)]) ?_ 6 _ rfl; refine kq ?_; refine blk_put (cs := #[.int .i64 11, .int .i64 0, .int .i64 0, .int .i64 0, .int .i64 0, .string (⟨#[]⟩ : ByteArray), .string (⟨#[]⟩ : ByteArray)]) ?_ 5 _ rfl; refine kq ?_; refine blk_put (cs := #[.int .i64 11, .int .i64 0, .int .i64 0, .int .i64 0, .int .i64 0, .string (⟨#[]⟩ : ByteArray), .string (⟨#[]⟩ : ByteArray)]) ?_ 4 _ rfl; refine kq ?_; refine blk_put (cs := #[.int .i64 11, .int .i64 0, .int .i64 0, .int .i64 0, .int .i64 0, .string (⟨#[]⟩ : ByteArray), .string (⟨#[]⟩ : ByteArray)]) ?_ 3 _ rfl; refine kq ?_; refine blk_put (cs := #[.int .i64 11, .int .i64 0, .int .i64 0, .int .i64 0, .int .i64 0, .string (⟨#[]⟩ : ByteArray), .string (⟨#[]⟩ : ByteArray)]) ?_ 2 _ rfl; refine kq ?_; refine blk_put (cs := #[.int .i64 11, .int .i64 0, .int .i64 0, .int .i64 0, .int .i64 0, .string (⟨#[]⟩ : ByteArray), .string (⟨#[]⟩ : ByteArray)]) ?_ 1 _ rfl; refine kq ?_; refine blk_put (cs := #[.int .i64 0, .int .i64 0, .int .i64 0, .int .i64 0, .int .i64 0, .string (⟨#[]⟩ : ByteArray), .string (⟨#[]⟩ : ByteArray)]) ?_ 0 _ rfl; refine kq ?_; exact BK269.out) Tryd.underlying43 rfl (by kernel_rfl)) rfl ?_
    exact ⟨gz, (bz1 HB.out GE269.out)⟩
   ·rw [if_neg c8] at H
    have c8b0 : (a0.toList == ([115, 110, 100] : List UInt8)) = false := beq_eq_false_iff_ne.mpr c8
    have c8b1 : (a0.toList != ([115, 110, 100] : List UInt8)) = true := bne_iff_ne.mpr c8
    by_cases c11 : a0.toList = ([99, 111, 110, 115] : List UInt8)
    ·rw [if_pos c11] at H
     have c11b0 : (a0.toList == ([99, 111, 110, 115] : List UInt8)) = true := beq_iff_eq.mpr c11
     have c11b1 : (a0.toList != ([99, 111, 110, 115] : List UInt8)) = false := bne_eq_false_iff_eq.mpr c11
     clear c11
     simp only [Option.some.injEq, Prod.mk.injEq] at H
     obtain ⟨rfl, rfl, rfl, rfl, rfl, rfl, rfl, rfl⟩ := H
     go_enter Tryd.func86, Tryd.ntmps86
     go_wp2_with (first | ((with_reducible refine gate_dst (N := 2) rfl ?_); refine box_event ?hg (N := 2) ?hd (cs := #[.int .i64 0, .int .i64 0, .int .i64 0, .int .i64 0, .int .i64 0, .string (⟨#[]⟩ : ByteArray), .string (⟨#[]⟩ : ByteArray)]) (t := 43) ?hr ?_; (case hd => rfl); (case hg => rfl); (case hr => exact vz); intro gb269 hg w12 hbox hb; have BK269 := Aside0.mk (hbox); have GW269 := Aside0.mk ((by rw [hg]; exact (below_size (bz0 HB.out)) : w.heap.size <= gb269)); have GE269 := Aside0.mk ((by rw [hg]; exact (below_size (bz0 HB.out)) : w.heap.size <= gb269)); replace HB := Aside0.mk (below_step (bz0 HB.out) hb); clear hb hbox hg; obtain ⟨hcz13_0, hcz13_1, hcz13_2, hcz13_3, hcz13_4, hcz13_5, hcz13_6⟩ := cz7 BK269.out; obtain ⟨hfz13_0, hfz13_1, hfz13_2, hfz13_3, hfz13_4, hfz13_5, hfz13_6⟩ := fz7 BK269.out))
     refine bodyPost_ret (results_ct rfl _ _ gb269 43 #[.int .i64 13, .int .i64 0, .int .i64 0, .int .i64 0, .int .i64 0, .string (⟨#[]⟩ : ByteArray), .string (⟨#[]⟩ : ByteArray)] (0, 0) _ rfl (by refine kq ?_; refine blk_put (cs := #[.int .i64 13, .int .i64 0, .int .i64 0, .int .i64 0, .int .i64 0, .string (⟨#[]⟩ : ByteArray), .string (⟨#[]⟩ : ByteArray)]) ?_ 6 _ rfl; refine kq ?_; refine blk_put (cs := #[.int .i64 13, .int .i64 0, .int .i64 0, .int .i64 0, .int .i64 0, .string (⟨#[]⟩ : ByteArray), .string (⟨#[]⟩ : ByteArray)]) ?_ 5 _ rfl; refine kq ?_; refine blk_put (cs := #[.int .i64 13, .int .i64 0, .int .i64 0, .int .i64 0, .int .i64 0, .string (⟨#[]⟩ : ByteArray), .string (⟨#[]⟩ : ByteArray)]) ?_ 4 _ rfl; refine kq ?_; refine blk_put (cs := #[.int .i64 13, .int .i64 0, .int .i64 0, .int .i64 0, .int .i64 0, .string (⟨#[]⟩ : ByteArray), .string (⟨#[]⟩ : ByteArray)]) ?_ 3 _ rfl; refine kq ?_; refine blk_put (cs := #[.int .i64 13, .int .i64 0, .int .i64 0, .int .i64 0, .int .i64 0, .string (⟨#[]⟩ : ByteArray), .string (⟨#[]⟩ : ByteArray)]) ?_ 2 _ rfl; refine kq ?_; refine blk_put (cs := #[.int .i64 13, .int .i64 0, .int .i64 0, .int .i64 0, .int .i64 0, .string (⟨#[]⟩ : ByteArray), .string (⟨#[]⟩ : ByteArray)]) ?_ 1 _ rfl; refine kq ?_; refine blk_put (cs := #[.int .i64 0, .int .i64 0, .int .i64 0, .int .i64 0, .int .i64 0, .string (⟨#[]⟩ : ByteArray), .string (⟨#[]⟩ : ByteArray)]) ?_ 0 _ rfl; refine kq ?_; exact BK269.out) Tryd.underlying43 rfl (by kernel_rfl)) rfl ?_
     exact ⟨gz, (bz1 HB.out GE269.out)⟩
    ·rw [if_neg c11] at H
     have c11b0 : (a0.toList == ([99, 111, 110, 115] : List UInt8)) = false := beq_eq_false_iff_ne.mpr c11
     have c11b1 : (a0.toList != ([99, 111, 110, 115] : List UInt8)) = true := bne_iff_ne.mpr c11
     by_cases c14 : a0.toList = ([114, 101, 102] : List UInt8)
     ·rw [if_pos c14] at H
      have c14b0 : (a0.toList == ([114, 101, 102] : List UInt8)) = true := beq_iff_eq.mpr c14
      have c14b1 : (a0.toList != ([114, 101, 102] : List UInt8)) = false := bne_eq_false_iff_eq.mpr c14
      clear c14
      simp only [Option.some.injEq, Prod.mk.injEq] at H
      obtain ⟨rfl, rfl, rfl, rfl, rfl, rfl, rfl, rfl⟩ := H
      go_enter Tryd.func86, Tryd.ntmps86
      go_wp2_with (first | ((with_reducible refine gate_dst (N := 2) rfl ?_); refine box_event ?hg (N := 2) ?hd (cs := #[.int .i64 0, .int .i64 0, .int .i64 0, .int .i64 0, .int .i64 0, .string (⟨#[]⟩ : ByteArray), .string (⟨#[]⟩ : ByteArray)]) (t := 43) ?hr ?_; (case hd => rfl); (case hg => rfl); (case hr => exact vz); intro gb269 hg w15 hbox hb; have BK269 := Aside0.mk (hbox); have GW269 := Aside0.mk ((by rw [hg]; exact (below_size (bz0 HB.out)) : w.heap.size <= gb269)); have GE269 := Aside0.mk ((by rw [hg]; exact (below_size (bz0 HB.out)) : w.heap.size <= gb269)); replace HB := Aside0.mk (below_step (bz0 HB.out) hb); clear hb hbox hg; obtain ⟨hcz16_0, hcz16_1, hcz16_2, hcz16_3, hcz16_4, hcz16_5, hcz16_6⟩ := cz7 BK269.out; obtain ⟨hfz16_0, hfz16_1, hfz16_2, hfz16_3, hfz16_4, hfz16_5, hfz16_6⟩ := fz7 BK269.out))
      refine bodyPost_ret (results_ct rfl _ _ gb269 43 #[.int .i64 15, .int .i64 0, .int .i64 0, .int .i64 0, .int .i64 0, .string (⟨#[]⟩ : ByteArray), .string (⟨#[]⟩ : ByteArray)] (0, 0) _ rfl (by refine kq ?_; refine blk_put (cs := #[.int .i64 15, .int .i64 0, .int .i64 0, .int .i64 0, .int .i64 0, .string (⟨#[]⟩ : ByteArray), .string (⟨#[]⟩ : ByteArray)]) ?_ 6 _ rfl; refine kq ?_; refine blk_put (cs := #[.int .i64 15, .int .i64 0, .int .i64 0, .int .i64 0, .int .i64 0, .string (⟨#[]⟩ : ByteArray), .string (⟨#[]⟩ : ByteArray)]) ?_ 5 _ rfl; refine kq ?_; refine blk_put (cs := #[.int .i64 15, .int .i64 0, .int .i64 0, .int .i64 0, .int .i64 0, .string (⟨#[]⟩ : ByteArray), .string (⟨#[]⟩ : ByteArray)]) ?_ 4 _ rfl; refine kq ?_; refine blk_put (cs := #[.int .i64 15, .int .i64 0, .int .i64 0, .int .i64 0, .int .i64 0, .string (⟨#[]⟩ : ByteArray), .string (⟨#[]⟩ : ByteArray)]) ?_ 3 _ rfl; refine kq ?_; refine blk_put (cs := #[.int .i64 15, .int .i64 0, .int .i64 0, .int .i64 0, .int .i64 0, .string (⟨#[]⟩ : ByteArray), .string (⟨#[]⟩ : ByteArray)]) ?_ 2 _ rfl; refine kq ?_; refine blk_put (cs := #[.int .i64 15, .int .i64 0, .int .i64 0, .int .i64 0, .int .i64 0, .string (⟨#[]⟩ : ByteArray), .string (⟨#[]⟩ : ByteArray)]) ?_ 1 _ rfl; refine kq ?_; refine blk_put (cs := #[.int .i64 0, .int .i64 0, .int .i64 0, .int .i64 0, .int .i64 0, .string (⟨#[]⟩ : ByteArray), .string (⟨#[]⟩ : ByteArray)]) ?_ 0 _ rfl; refine kq ?_; exact BK269.out) Tryd.underlying43 rfl (by kernel_rfl)) rfl ?_
      exact ⟨gz, (bz1 HB.out GE269.out)⟩
     ·rw [if_neg c14] at H
      have c14b0 : (a0.toList == ([114, 101, 102] : List UInt8)) = false := beq_eq_false_iff_ne.mpr c14
      have c14b1 : (a0.toList != ([114, 101, 102] : List UInt8)) = true := bne_iff_ne.mpr c14
      by_cases c17 : a0.toList = ([103, 101, 116] : List UInt8)
      ·rw [if_pos c17] at H
       have c17b0 : (a0.toList == ([103, 101, 116] : List UInt8)) = true := beq_iff_eq.mpr c17
       have c17b1 : (a0.toList != ([103, 101, 116] : List UInt8)) = false := bne_eq_false_iff_eq.mpr c17
       clear c17
       simp only [Option.some.injEq, Prod.mk.injEq] at H
       obtain ⟨rfl, rfl, rfl, rfl, rfl, rfl, rfl, rfl⟩ := H
       go_enter Tryd.func86, Tryd.ntmps86
       go_wp2_with (first | ((with_reducible refine gate_dst (N := 2) rfl ?_); refine box_event ?hg (N := 2) ?hd (cs := #[.int .i64 0, .int .i64 0, .int .i64 0, .int .i64 0, .int .i64 0, .string (⟨#[]⟩ : ByteArray), .string (⟨#[]⟩ : ByteArray)]) (t := 43) ?hr ?_; (case hd => rfl); (case hg => rfl); (case hr => exact vz); intro gb269 hg w18 hbox hb; have BK269 := Aside0.mk (hbox); have GW269 := Aside0.mk ((by rw [hg]; exact (below_size (bz0 HB.out)) : w.heap.size <= gb269)); have GE269 := Aside0.mk ((by rw [hg]; exact (below_size (bz0 HB.out)) : w.heap.size <= gb269)); replace HB := Aside0.mk (below_step (bz0 HB.out) hb); clear hb hbox hg; obtain ⟨hcz19_0, hcz19_1, hcz19_2, hcz19_3, hcz19_4, hcz19_5, hcz19_6⟩ := cz7 BK269.out; obtain ⟨hfz19_0, hfz19_1, hfz19_2, hfz19_3, hfz19_4, hfz19_5, hfz19_6⟩ := fz7 BK269.out))
       refine bodyPost_ret (results_ct rfl _ _ gb269 43 #[.int .i64 16, .int .i64 0, .int .i64 0, .int .i64 0, .int .i64 0, .string (⟨#[]⟩ : ByteArray), .string (⟨#[]⟩ : ByteArray)] (0, 0) _ rfl (by refine kq ?_; refine blk_put (cs := #[.int .i64 16, .int .i64 0, .int .i64 0, .int .i64 0, .int .i64 0, .string (⟨#[]⟩ : ByteArray), .string (⟨#[]⟩ : ByteArray)]) ?_ 6 _ rfl; refine kq ?_; refine blk_put (cs := #[.int .i64 16, .int .i64 0, .int .i64 0, .int .i64 0, .int .i64 0, .string (⟨#[]⟩ : ByteArray), .string (⟨#[]⟩ : ByteArray)]) ?_ 5 _ rfl; refine kq ?_; refine blk_put (cs := #[.int .i64 16, .int .i64 0, .int .i64 0, .int .i64 0, .int .i64 0, .string (⟨#[]⟩ : ByteArray), .string (⟨#[]⟩ : ByteArray)]) ?_ 4 _ rfl; refine kq ?_; refine blk_put (cs := #[.int .i64 16, .int .i64 0, .int .i64 0, .int .i64 0, .int .i64 0, .string (⟨#[]⟩ : ByteArray), .string (⟨#[]⟩ : ByteArray)]) ?_ 3 _ rfl; refine kq ?_; refine blk_put (cs := #[.int .i64 16, .int .i64 0, .int .i64 0, .int .i64 0, .int .i64 0, .string (⟨#[]⟩ : ByteArray), .string (⟨#[]⟩ : ByteArray)]) ?_ 2 _ rfl; refine kq ?_; refine blk_put (cs := #[.int .i64 16, .int .i64 0, .int .i64 0, .int .i64 0, .int .i64 0, .string (⟨#[]⟩ : ByteArray), .string (⟨#[]⟩ : ByteArray)]) ?_ 1 _ rfl; refine kq ?_; refine blk_put (cs := #[.int .i64 0, .int .i64 0, .int .i64 0, .int .i64 0, .int .i64 0, .string (⟨#[]⟩ : ByteArray), .string (⟨#[]⟩ : ByteArray)]) ?_ 0 _ rfl; refine kq ?_; exact BK269.out) Tryd.underlying43 rfl (by kernel_rfl)) rfl ?_
       exact ⟨gz, (bz1 HB.out GE269.out)⟩
      ·rw [if_neg c17] at H
       have c17b0 : (a0.toList == ([103, 101, 116] : List UInt8)) = false := beq_eq_false_iff_ne.mpr c17
       have c17b1 : (a0.toList != ([103, 101, 116] : List UInt8)) = true := bne_iff_ne.mpr c17
       by_cases c20 : a0.toList = ([115, 101, 116] : List UInt8)
       ·rw [if_pos c20] at H
        have c20b0 : (a0.toList == ([115, 101, 116] : List UInt8)) = true := beq_iff_eq.mpr c20
        have c20b1 : (a0.toList != ([115, 101, 116] : List UInt8)) = false := bne_eq_false_iff_eq.mpr c20
        clear c20
        simp only [Option.some.injEq, Prod.mk.injEq] at H
        obtain ⟨rfl, rfl, rfl, rfl, rfl, rfl, rfl, rfl⟩ := H
        go_enter Tryd.func86, Tryd.ntmps86
        go_wp2_with (first | ((with_reducible refine gate_dst (N := 2) rfl ?_); refine box_event ?hg (N := 2) ?hd (cs := #[.int .i64 0, .int .i64 0, .int .i64 0, .int .i64 0, .int .i64 0, .string (⟨#[]⟩ : ByteArray), .string (⟨#[]⟩ : ByteArray)]) (t := 43) ?hr ?_; (case hd => rfl); (case hg => rfl); (case hr => exact vz); intro gb269 hg w21 hbox hb; have BK269 := Aside0.mk (hbox); have GW269 := Aside0.mk ((by rw [hg]; exact (below_size (bz0 HB.out)) : w.heap.size <= gb269)); have GE269 := Aside0.mk ((by rw [hg]; exact (below_size (bz0 HB.out)) : w.heap.size <= gb269)); replace HB := Aside0.mk (below_step (bz0 HB.out) hb); clear hb hbox hg; obtain ⟨hcz22_0, hcz22_1, hcz22_2, hcz22_3, hcz22_4, hcz22_5, hcz22_6⟩ := cz7 BK269.out; obtain ⟨hfz22_0, hfz22_1, hfz22_2, hfz22_3, hfz22_4, hfz22_5, hfz22_6⟩ := fz7 BK269.out))
        refine bodyPost_ret (results_ct rfl _ _ gb269 43 #[.int .i64 17, .int .i64 0, .int .i64 0, .int .i64 0, .int .i64 0, .string (⟨#[]⟩ : ByteArray), .string (⟨#[]⟩ : ByteArray)] (0, 0) _ rfl (by refine kq ?_; refine blk_put (cs := #[.int .i64 17, .int .i64 0, .int .i64 0, .int .i64 0, .int .i64 0, .string (⟨#[]⟩ : ByteArray), .string (⟨#[]⟩ : ByteArray)]) ?_ 6 _ rfl; refine kq ?_; refine blk_put (cs := #[.int .i64 17, .int .i64 0, .int .i64 0, .int .i64 0, .int .i64 0, .string (⟨#[]⟩ : ByteArray), .string (⟨#[]⟩ : ByteArray)]) ?_ 5 _ rfl; refine kq ?_; refine blk_put (cs := #[.int .i64 17, .int .i64 0, .int .i64 0, .int .i64 0, .int .i64 0, .string (⟨#[]⟩ : ByteArray), .string (⟨#[]⟩ : ByteArray)]) ?_ 4 _ rfl; refine kq ?_; refine blk_put (cs := #[.int .i64 17, .int .i64 0, .int .i64 0, .int .i64 0, .int .i64 0, .string (⟨#[]⟩ : ByteArray), .string (⟨#[]⟩ : ByteArray)]) ?_ 3 _ rfl; refine kq ?_; refine blk_put (cs := #[.int .i64 17, .int .i64 0, .int .i64 0, .int .i64 0, .int .i64 0, .string (⟨#[]⟩ : ByteArray), .string (⟨#[]⟩ : ByteArray)]) ?_ 2 _ rfl; refine kq ?_; refine blk_put (cs := #[.int .i64 17, .int .i64 0, .int .i64 0, .int .i64 0, .int .i64 0, .string (⟨#[]⟩ : ByteArray), .string (⟨#[]⟩ : ByteArray)]) ?_ 1 _ rfl; refine kq ?_; refine blk_put (cs := #[.int .i64 0, .int .i64 0, .int .i64 0, .int .i64 0, .int .i64 0, .string (⟨#[]⟩ : ByteArray), .string (⟨#[]⟩ : ByteArray)]) ?_ 0 _ rfl; refine kq ?_; exact BK269.out) Tryd.underlying43 rfl (by kernel_rfl)) rfl ?_
        exact ⟨gz, (bz1 HB.out GE269.out)⟩
       ·rw [if_neg c20] at H
        have c20b0 : (a0.toList == ([115, 101, 116] : List UInt8)) = false := beq_eq_false_iff_ne.mpr c20
        have c20b1 : (a0.toList != ([115, 101, 116] : List UInt8)) = true := bne_iff_ne.mpr c20
        by_cases c23 : a0.toList = ([114, 97, 105, 115, 101] : List UInt8)
        ·rw [if_pos c23] at H
         have c23b0 : (a0.toList == ([114, 97, 105, 115, 101] : List UInt8)) = true := beq_iff_eq.mpr c23
         have c23b1 : (a0.toList != ([114, 97, 105, 115, 101] : List UInt8)) = false := bne_eq_false_iff_eq.mpr c23
         clear c23
         simp only [Option.some.injEq, Prod.mk.injEq] at H
         obtain ⟨rfl, rfl, rfl, rfl, rfl, rfl, rfl, rfl⟩ := H
         go_enter Tryd.func86, Tryd.ntmps86
         go_wp2_with (first | ((with_reducible refine gate_dst (N := 2) rfl ?_); refine box_event ?hg (N := 2) ?hd (cs := #[.int .i64 0, .int .i64 0, .int .i64 0, .int .i64 0, .int .i64 0, .string (⟨#[]⟩ : ByteArray), .string (⟨#[]⟩ : ByteArray)]) (t := 43) ?hr ?_; (case hd => rfl); (case hg => rfl); (case hr => exact vz); intro gb269 hg w24 hbox hb; have BK269 := Aside0.mk (hbox); have GW269 := Aside0.mk ((by rw [hg]; exact (below_size (bz0 HB.out)) : w.heap.size <= gb269)); have GE269 := Aside0.mk ((by rw [hg]; exact (below_size (bz0 HB.out)) : w.heap.size <= gb269)); replace HB := Aside0.mk (below_step (bz0 HB.out) hb); clear hb hbox hg; obtain ⟨hcz25_0, hcz25_1, hcz25_2, hcz25_3, hcz25_4, hcz25_5, hcz25_6⟩ := cz7 BK269.out; obtain ⟨hfz25_0, hfz25_1, hfz25_2, hfz25_3, hfz25_4, hfz25_5, hfz25_6⟩ := fz7 BK269.out))
         refine bodyPost_ret (results_ct rfl _ _ gb269 43 #[.int .i64 18, .int .i64 0, .int .i64 0, .int .i64 0, .int .i64 0, .string (⟨#[]⟩ : ByteArray), .string (⟨#[]⟩ : ByteArray)] (0, 0) _ rfl (by refine kq ?_; refine blk_put (cs := #[.int .i64 18, .int .i64 0, .int .i64 0, .int .i64 0, .int .i64 0, .string (⟨#[]⟩ : ByteArray), .string (⟨#[]⟩ : ByteArray)]) ?_ 6 _ rfl; refine kq ?_; refine blk_put (cs := #[.int .i64 18, .int .i64 0, .int .i64 0, .int .i64 0, .int .i64 0, .string (⟨#[]⟩ : ByteArray), .string (⟨#[]⟩ : ByteArray)]) ?_ 5 _ rfl; refine kq ?_; refine blk_put (cs := #[.int .i64 18, .int .i64 0, .int .i64 0, .int .i64 0, .int .i64 0, .string (⟨#[]⟩ : ByteArray), .string (⟨#[]⟩ : ByteArray)]) ?_ 4 _ rfl; refine kq ?_; refine blk_put (cs := #[.int .i64 18, .int .i64 0, .int .i64 0, .int .i64 0, .int .i64 0, .string (⟨#[]⟩ : ByteArray), .string (⟨#[]⟩ : ByteArray)]) ?_ 3 _ rfl; refine kq ?_; refine blk_put (cs := #[.int .i64 18, .int .i64 0, .int .i64 0, .int .i64 0, .int .i64 0, .string (⟨#[]⟩ : ByteArray), .string (⟨#[]⟩ : ByteArray)]) ?_ 2 _ rfl; refine kq ?_; refine blk_put (cs := #[.int .i64 18, .int .i64 0, .int .i64 0, .int .i64 0, .int .i64 0, .string (⟨#[]⟩ : ByteArray), .string (⟨#[]⟩ : ByteArray)]) ?_ 1 _ rfl; refine kq ?_; refine blk_put (cs := #[.int .i64 0, .int .i64 0, .int .i64 0, .int .i64 0, .int .i64 0, .string (⟨#[]⟩ : ByteArray), .string (⟨#[]⟩ : ByteArray)]) ?_ 0 _ rfl; refine kq ?_; exact BK269.out) Tryd.underlying43 rfl (by kernel_rfl)) rfl ?_
         exact ⟨gz, (bz1 HB.out GE269.out)⟩
        ·rw [if_neg c23] at H
         have c23b0 : (a0.toList == ([114, 97, 105, 115, 101] : List UInt8)) = false := beq_eq_false_iff_ne.mpr c23
         have c23b1 : (a0.toList != ([114, 97, 105, 115, 101] : List UInt8)) = true := bne_iff_ne.mpr c23
         simp only [Option.some.injEq, Prod.mk.injEq] at H
         obtain ⟨rfl, rfl, rfl, rfl, rfl, rfl, rfl, rfl⟩ := H
         go_enter Tryd.func86, Tryd.ntmps86
         go_wp2_with (first | ((with_reducible refine gate_dst (N := 2) rfl ?_); refine box_event ?hg (N := 2) ?hd (cs := #[.int .i64 0, .int .i64 0, .int .i64 0, .int .i64 0, .int .i64 0, .string (⟨#[]⟩ : ByteArray), .string (⟨#[]⟩ : ByteArray)]) (t := 43) ?hr ?_; (case hd => rfl); (case hg => rfl); (case hr => exact vz); intro gb269 hg w26 hbox hb; have BK269 := Aside0.mk (hbox); have GW269 := Aside0.mk ((by rw [hg]; exact (below_size (bz0 HB.out)) : w.heap.size <= gb269)); have GE269 := Aside0.mk ((by rw [hg]; exact (below_size (bz0 HB.out)) : w.heap.size <= gb269)); replace HB := Aside0.mk (below_step (bz0 HB.out) hb); clear hb hbox hg; obtain ⟨hcz27_0, hcz27_1, hcz27_2, hcz27_3, hcz27_4, hcz27_5, hcz27_6⟩ := cz7 BK269.out; obtain ⟨hfz27_0, hfz27_1, hfz27_2, hfz27_3, hfz27_4, hfz27_5, hfz27_6⟩ := fz7 BK269.out))
         refine bodyPost_ret (results_ct rfl _ _ gb269 43 #[.int .i64 0, .int .i64 0, .int .i64 0, .int .i64 0, .int .i64 0, .string (⟨#[]⟩ : ByteArray), .string (⟨#[]⟩ : ByteArray)] (0, 0) _ rfl (by refine kq ?_; refine blk_put (cs := #[.int .i64 0, .int .i64 0, .int .i64 0, .int .i64 0, .int .i64 0, .string (⟨#[]⟩ : ByteArray), .string (⟨#[]⟩ : ByteArray)]) ?_ 6 _ rfl; refine kq ?_; refine blk_put (cs := #[.int .i64 0, .int .i64 0, .int .i64 0, .int .i64 0, .int .i64 0, .string (⟨#[]⟩ : ByteArray), .string (⟨#[]⟩ : ByteArray)]) ?_ 5 _ rfl; refine kq ?_; refine blk_put (cs := #[.int .i64 0, .int .i64 0, .int .i64 0, .int .i64 0, .int .i64 0, .string (⟨#[]⟩ : ByteArray), .string (⟨#[]⟩ : ByteArray)]) ?_ 4 _ rfl; refine kq ?_; refine blk_put (cs := #[.int .i64 0, .int .i64 0, .int .i64 0, .int .i64 0, .int .i64 0, .string (⟨#[]⟩ : ByteArray), .string (⟨#[]⟩ : ByteArray)]) ?_ 3 _ rfl; refine kq ?_; refine blk_put (cs := #[.int .i64 0, .int .i64 0, .int .i64 0, .int .i64 0, .int .i64 0, .string (⟨#[]⟩ : ByteArray), .string (⟨#[]⟩ : ByteArray)]) ?_ 2 _ rfl; refine kq ?_; refine blk_put (cs := #[.int .i64 0, .int .i64 0, .int .i64 0, .int .i64 0, .int .i64 0, .string (⟨#[]⟩ : ByteArray), .string (⟨#[]⟩ : ByteArray)]) ?_ 1 _ rfl; refine kq ?_; refine blk_put (cs := #[.int .i64 0, .int .i64 0, .int .i64 0, .int .i64 0, .int .i64 0, .string (⟨#[]⟩ : ByteArray), .string (⟨#[]⟩ : ByteArray)]) ?_ 0 _ rfl; refine kq ?_; exact BK269.out) Tryd.underlying43 rfl (by kernel_rfl)) rfl ?_
         exact ⟨gz, (bz1 HB.out GE269.out)⟩
end Go.Proofs.YtmilegjmiiccdaaDoor.PFnExactPrintPart
