/- PFnNumbersx2, of the words and walks that the law FnNumbers needs; made by this session's program out of printed texts. -/

import Derived.Test.YtdjamdnjkdllgaaDoorVFnNumbersPx0
import Derived.Test.YtdjamdnjkdllgaaDoorVFnNumbersPx1
namespace Go.Proofs.YtdjamdnjkdllgaaDoor.PFnNumbers
open Go.RowKit Go.Proofs.YtdjamdnjkdllgaaDoorW.PrintWords Go.Proofs.YtdjamdnjkdllgaaDoorW.PrintLast Go.Proofs.YtdjamdnjkdllgaaDoorW.PrintMore
attribute [local go_sem] max2_int min2_int max_two min_two max_three min_three max_four min_four
set_option linter.unusedVariables false
set_option linter.unusedSimpArgs false
def impl_Var.l0 : Nat -> Int -> List Int -> Option (ByteArray)
 | 0, _, _ => none
 | k + 1, x0, x3 => if x0 > 127 then (if x3.length < 140737488355328 then (impl_Var.l0 k (wrap64 (Int.tdiv x0 128)) (x3 ++ [(wrap64 ((Int.tmod x0 128) + 128)) % 256])) else (none)) else (if x3.length < 140737488355328 then (some (strOfNums (x3 ++ [(x0) % 256]))) else (none))
def impl_Var.f (k : Nat) (a0 : Int) : Option (ByteArray) := (impl_in.f a0 0 562949953421311).bind fun t184 => (if t184 = true then (impl_Var.l0 k a0 ([] : List Int)) else (some (⟨#[]⟩ : ByteArray)))
theorem impl_Var.mono_l : ∀ k, (∀ y0 y1, LeO (impl_Var.l0 k y0 y1) (impl_Var.l0 (k + 1) y0 y1))
 | 0 => fun _ _ r h => by simp [impl_Var.l0] at h
 | k + 1 => by
  have ih0 := impl_Var.mono_l k
  ·intro y0 y1
   unfold impl_Var.l0
   with_reducible repeat' first | exact ih0 _ _ | exact lrz _ | exact lnz _ | refine liz ?_ ?_ | refine lbz ?_ fun _ => ?_
theorem impl_Var.mono : ∀ a0 k, LeO (impl_Var.f k a0) (impl_Var.f (k + 1) a0) := by
 intro a0 k
 have ih0 := impl_Var.mono_l k
 unfold impl_Var.f
 with_reducible repeat' first | exact ih0 _ _ | exact lrz _ | exact lnz _ | refine liz ?_ ?_ | refine lbz ?_ fun _ => ?_
set_option maxHeartbeats 8000000 in
set_option maxRecDepth 100000 in
theorem impl_Var.calls (k : Nat) (a0 : Int) (r : ByteArray) (w : World) (h : impl_Var.f k a0 = some r) :
  Calls Tryd.prog 12 #[.int .i64 a0] w fun e w' => e = .returned (.string r) /\ Below w.heap.size w w' := by
 have HB := Aside0.mk (Below.refl w.heap.size w)
 have H : ((impl_in.f a0 0 562949953421311).bind fun t184 => (if t184 = true then (impl_Var.l0 k a0 ([] : List Int)) else (some (⟨#[]⟩ : ByteArray)))) = some r := h
 clear h
 replace H := bi H
 obtain ⟨t184, A20, H⟩ := H
 try dsimp only at H
 have A2 := Aside0.mk A20
 clear A20
 by_cases c3 : t184 = true
 ·subst c3
  have H1 := hp H
  clear H
  have H := H1
  clear H1
  have H' := Aside0.mk H
  clear H
  go_enter Tryd.func12, Tryd.ntmps12
  go_wp2_with (first | ((with_reducible refine gate_callee (f := 30) rfl ?_); refine goesL_ (some 5) rfl rfl Tryd.func30 (by kernel_rfl) rfl #[.int .i64 a0, .int .i64 0, .int .i64 562949953421311] rfl lz ?_; (with_reducible refine (impl_in.calls a0 0 562949953421311 true _ A2.out).mono ?_); rintro e w' ⟨rfl, ⟨nd, rfl⟩⟩; refine ⟨_, rfl, ?_⟩))
  go_loopg [0, 3] k (fun kq v0 v3 w' => ∃ (x0_1 : Int) (x3_1 : List Int), v0 = .int .i64 x0_1 /\ Aside0 (impl_Var.l0 kq x0_1 x3_1 = some r) /\ Aside0 (kq <= k) /\ Aside0 (Kd.R (Kd.int .u8) 5 w' w.heap.size (fun _ => True) v3 x3_1) /\ Aside0 (Below w.heap.size w w'))
  case atStart => exact ⟨(a0), (([] : List Int)), ez, H', ⟨Nat.le_refl _⟩, ⟨by first | exact Kd.R_nil _ _ _ _ _ | exact Kd.N_nil _ _ _ _ _ | exact Kd.V_nil _ _ _ _ _ | exact Kd.Q_nil _ _ _ _ _ | exact Kd.S_nil _ _ _ _ _⟩, ⟨(bz0 HB.out)⟩⟩
  case round =>
   clear H'
   try clear c1
   try clear p2
   try clear c3
   obtain ⟨x0_1, x3_1, rfl, HA, HK1, HO_3, HB⟩ := hrel
   cases gk with
   | zero => exact absurd HA.out (by simp [impl_Var.l0])
   | succ k1 =>
    have H := HA.out
    clear HA
    simp only [impl_Var.l0] at H
    by_cases c4 : x0_1 > 127
    ·rw [if_pos c4] at H
     have c4b0 : decide (127 < x0_1) = true := decide_eq_true c4
     clear c4
     replace H := iz H
     obtain ⟨c5, H⟩ := H
     have LMc5 := Aside0.mk c5
     clear c5
     obtain ⟨y185, hy185⟩ : ∃ y_ : List Int, y_ = (x3_1 ++ [(wrap64 ((Int.tmod x0_1 128) + 128)) % 256]) := ⟨_, rfl⟩
     replace H : (impl_Var.l0 k1 (wrap64 (Int.tdiv x0_1 128)) y185) = some r := yz hy185 H
     have Ny185 := Aside0.mk hy185
     clear hy185
     have H' := Aside0.mk H
     clear H
     go_wp2_with (first | ((with_reducible refine gate_builtin (b := .append) (xs := #[.tmp 9, .tmp 14]) rfl ?_); at_builtin; refine Kd.R_append (Kd.int .u8) (w0 := w) w.heap.size rfl (.tmp 9) (.tmp 14) 25 5 (.int .u8 0) 1 rfl Tryd.underlying25 info5 rfl (by decide) (by omega) u3 x3_1 ((wrap64 ((Int.tmod x0_1 128) + 128)) % 256) [.int .u8 ((wrap64 ((Int.tmod x0_1 128) + 128)) % 256)] (fun _ => True) (fun _ => False) rfl rfl ?aP (fun _ hk => hk.elim) ?aF ?aO ?aB ?aS ?aL ?_; (case aP => exact rfl); (case aB => exact (bz0 HB.out)); (case aF => exact (fun _ _ => trivial)); (case aO => exact (rz HO_3.out)); (case aS => exact (below_size (bz0 HB.out))); (case aL => have := LMc5.out; omega); intro v186 w6 ho hb hg hat; rw [<- Ny185.out] at ho; have n0_ := Aside0.mk (hb); have n1_ := Aside0.mk (ho); clear HB; clear HO_3; have HB := n0_; have HO187 := n1_; clear n0_ n1_; clear ho hb hg hat))
     go_roundg k1
     case measure => have := HK1.out; omega
     case rel => exact ⟨(wrap64 (Int.tdiv x0_1 128)), (y185), ez, H', ⟨by have := HK1.out; omega⟩, ⟨by refine rq ?_; exact HO187.out⟩, ⟨(bz0 HB.out)⟩⟩
    ·rw [if_neg c4] at H
     have c4b0 : decide (127 < x0_1) = false := decide_eq_false c4
     clear c4
     replace H := iz H
     obtain ⟨c7, H⟩ := H
     have LMc7 := Aside0.mk c7
     clear c7
     obtain ⟨y188, hy188⟩ : ∃ y_ : List Int, y_ = (x3_1 ++ [(x0_1) % 256]) := ⟨_, rfl⟩
     replace H : (some (strOfNums y188)) = some r := yz hy188 H
     have Ny188 := Aside0.mk hy188
     clear hy188
     obtain rfl := Option.some.inj H
     go_wp2_with (first | ((with_reducible refine gate_builtin (b := .append) (xs := #[.tmp 18, .tmp 21]) rfl ?_); at_builtin; refine Kd.R_append (Kd.int .u8) (w0 := w) w.heap.size rfl (.tmp 18) (.tmp 21) 25 5 (.int .u8 0) 1 rfl Tryd.underlying25 info5 rfl (by decide) (by omega) u3 x3_1 ((x0_1) % 256) [.int .u8 ((x0_1) % 256)] (fun _ => True) (fun _ => False) rfl rfl ?aP (fun _ hk => hk.elim) ?aF ?aO ?aB ?aS ?aL ?_; (case aP => exact rfl); (case aB => exact (bz0 HB.out)); (case aF => exact (fun _ _ => trivial)); (case aO => exact (rz HO_3.out)); (case aS => exact (below_size (bz0 HB.out))); (case aL => have := LMc7.out; omega); intro v189 w8 ho hb hg hat; rw [<- Ny188.out] at ho; have n0_ := Aside0.mk (hb); have n1_ := Aside0.mk (ho); clear HB; clear HO_3; have HB := n0_; have HO190 := n1_; clear n0_ n1_; clear ho hb hg hat; have hcv9 := own_string (P := Tryd.prog) Tryd.underlying25 Tryd.underlying5 Tryd.underlying9 (Kd.own_of_R HO190.out)))
     go_ret
     exact ⟨gz, (bz0 HB.out)⟩
 ·replace c3 := Bool.eq_false_iff.mpr c3
  subst c3
  have H1 := hq H
  clear H
  have H := H1
  clear H1
  obtain rfl := Option.some.inj H
  go_enter Tryd.func12, Tryd.ntmps12
  go_wp2_with (first | ((with_reducible refine gate_callee (f := 30) rfl ?_); refine goesL_ (some 5) rfl rfl Tryd.func30 (by kernel_rfl) rfl #[.int .i64 a0, .int .i64 0, .int .i64 562949953421311] rfl lz ?_; (with_reducible refine (impl_in.calls a0 0 562949953421311 false _ A2.out).mono ?_); rintro e w' ⟨rfl, ⟨nd, rfl⟩⟩; refine ⟨_, rfl, ?_⟩))
  go_ret
  exact ⟨gz, (bz0 HB.out)⟩
mutual
def impl_ReadVar.l0 : Nat -> ByteArray -> Int -> Int -> Option (Int × Int)
 | 0, _, _, _ => none
 | k + 1, x0, x4, x5 => if x5 < 7 then (impl_ReadVar.j1 k x0 x4 x5 (decide (x5 < (x0.size : Int)))) else (impl_ReadVar.j1 k x0 x4 x5 false)
def impl_ReadVar.j1 : Nat -> ByteArray -> Int -> Int -> Bool -> Option (Int × Int)
 | 0, _, _, _, _ => none
 | k + 1, x0, x4, x5, x14 => if x14 = true then (if 0 <= x5 then (if x5 < (x0.size : Int) then (if 0 <= (wrap64 (7 * x5)) then (if (wrap64 (bt x0 x5)) ≥ 128 then (impl_ReadVar.l0 k x0 (wrap64 (x4 + (shl .i64 (Int.tmod (wrap64 (bt x0 x5)) 128) (wrap64 (7 * x5))))) (wrap64 (x5 + 1))) else (if (wrap64 (bt x0 x5)) = 0 then (if x5 > 0 then (some (0, 0)) else (some (wrap64 (x4 + (shl .i64 (Int.tmod (wrap64 (bt x0 x5)) 128) (wrap64 (7 * x5)))), wrap64 (x5 + 1)))) else (some (wrap64 (x4 + (shl .i64 (Int.tmod (wrap64 (bt x0 x5)) 128) (wrap64 (7 * x5)))), wrap64 (x5 + 1))))) else (none)) else (none)) else (none)) else (some (0, 0))
end
def impl_ReadVar.f (k : Nat) (a0 : ByteArray) : Option (Int × Int) := impl_ReadVar.l0 k a0 0 0
theorem impl_ReadVar.mono_l : ∀ k, (∀ y0 y1 y2, LeO (impl_ReadVar.l0 k y0 y1 y2) (impl_ReadVar.l0 (k + 1) y0 y1 y2)) /\ (∀ y0 y1 y2 y3, LeO (impl_ReadVar.j1 k y0 y1 y2 y3) (impl_ReadVar.j1 (k + 1) y0 y1 y2 y3))
 | 0 => ⟨fun _ _ _ r h => by simp [impl_ReadVar.l0] at h, fun _ _ _ _ r h => by simp [impl_ReadVar.j1] at h⟩
 | k + 1 => by
  obtain ⟨ih0, ih1⟩ := impl_ReadVar.mono_l k
  refine ⟨?_, ?_⟩
  ·intro y0 y1 y2
   unfold impl_ReadVar.l0
   with_reducible repeat' first | exact ih0 _ _ _ | exact ih1 _ _ _ _ | exact lrz _ | exact lnz _ | refine liz ?_ ?_ | refine lbz ?_ fun _ => ?_
  ·intro y0 y1 y2 y3
   unfold impl_ReadVar.j1
   with_reducible repeat' first | exact ih0 _ _ _ | exact ih1 _ _ _ _ | exact lrz _ | exact lnz _ | refine liz ?_ ?_ | refine lbz ?_ fun _ => ?_
theorem impl_ReadVar.mono : ∀ a0 k, LeO (impl_ReadVar.f k a0) (impl_ReadVar.f (k + 1) a0) := by
 intro a0 k
 obtain ⟨ih0, ih1⟩ := impl_ReadVar.mono_l k
 unfold impl_ReadVar.f
 with_reducible repeat' first | exact ih0 _ _ _ | exact ih1 _ _ _ _ | exact lrz _ | exact lnz _ | refine liz ?_ ?_ | refine lbz ?_ fun _ => ?_
set_option maxHeartbeats 8000000 in
set_option maxRecDepth 100000 in
theorem impl_ReadVar.calls (k : Nat) (a0 : ByteArray) (r1 : Int) (r2 : Int) (w : World) (h : impl_ReadVar.f k a0 = some (r1, r2)) :
  Calls Tryd.prog 13 #[.string a0] w fun e w' => e = .returned (.tuple #[.int .i64 r1, .int .i64 r2]) /\ Drawn0 w w' := by
 have H : (impl_ReadVar.l0 k a0 0 0) = some (r1, r2) := h
 clear h
 have H' := Aside0.mk H
 clear H
 go_enter Tryd.func13, Tryd.ntmps13
 go_wp2
 go_loopg [4, 5] k (fun kq v4 v5 w' => ∃ (x4_1 : Int) (x5_1 : Int), v4 = .int .i64 x4_1 /\ v5 = .int .i64 x5_1 /\ Aside0 (impl_ReadVar.l0 kq a0 x4_1 x5_1 = some (r1, r2)) /\ Aside0 (kq <= k) /\ Drawn0 w w')
 case atStart => exact ⟨(0), (0), ez, ez, H', ⟨Nat.le_refl _⟩, dz⟩
 case round =>
  clear H'
  try clear c1
  obtain ⟨x4_1, x5_1, rfl, rfl, HA, HK1, ⟨m1, rfl⟩⟩ := hrel
  cases gk with
  | zero => exact absurd HA.out (by simp [impl_ReadVar.l0])
  | succ k1 =>
   have H := HA.out
   clear HA
   simp only [impl_ReadVar.l0] at H
   have HC2 := Aside0.mk H
   clear H
   go_upto_region 3 with (fail)
   go_cut [14] (fun v14 wc => ∃ (kq : Nat) (x14_1 : Bool), v14 = .bool x14_1 /\ Aside0 (impl_ReadVar.j1 kq a0 x4_1 x5_1 x14_1 = some (r1, r2)) /\ Aside0 (kq <= k1) /\ Drawn0 w wc)
   case first =>
    have H := HC2.out
    clear HC2
    by_cases c3 : x5_1 < 7
    ·rw [if_pos c3] at H
     have c3b0 := decide_eq_true c3
     clear c3
     (first | rw [c3b0] | (simp only [i64_w, i32_w]; rw [c3b0]) | skip)
     have H' := Aside0.mk H
     clear H
     go_wp2
     go_meet
     case rel => exact ⟨_, (decide (x5_1 < (a0.size : Int))), ez, H', ⟨by have := HK1.out; first | omega | exact Nat.le_refl _⟩, dz⟩
    ·rw [if_neg c3] at H
     have c3b0 := decide_eq_false c3
     clear c3
     (first | rw [c3b0] | (simp only [i64_w, i32_w]; rw [c3b0]) | skip)
     have H' := Aside0.mk H
     clear H
     go_wp2
     go_meet
     case rel => exact ⟨_, (false), ez, H', ⟨by have := HK1.out; first | omega | exact Nat.le_refl _⟩, dz⟩
   case rest =>
    clear HC2
    try clear c1
    try clear p2
    try clear c3
    try clear c3b0
    obtain ⟨kq, x14_1, rfl, HA, HJ1, ⟨mc1, rfl⟩⟩ := hcut
    cases kq with
    | zero => exact absurd HA.out (by simp [impl_ReadVar.j1])
    | succ kj1 =>
     have H := HA.out
     clear HA
     simp only [impl_ReadVar.j1] at H
     by_cases c4 : x14_1 = true
     ·subst c4
      have H1 := hp H
      clear H
      have H := H1
      clear H1
      replace H := iz H
      obtain ⟨c5, H⟩ := H
      have c5b0 := decide_eq_true c5
      clear c5
      replace H := iz H
      obtain ⟨c6, H⟩ := H
      have c6b0 := decide_eq_true c6
      clear c6
      obtain ⟨ji8, hji8⟩ : ∃ j_ : Int, (wrap64 (7 * x5_1)) = j_ := ⟨_, rfl⟩
      replace H : (if 0 <= (ji8) then (if (wrap64 (bt a0 x5_1)) ≥ 128 then (impl_ReadVar.l0 kj1 a0 (wrap64 (x4_1 + (shl .i64 (Int.tmod (wrap64 (bt a0 x5_1)) 128) (ji8)))) (wrap64 (x5_1 + 1))) else (if (wrap64 (bt a0 x5_1)) = 0 then (if x5_1 > 0 then (some (0, 0)) else (some (wrap64 (x4_1 + (shl .i64 (Int.tmod (wrap64 (bt a0 x5_1)) 128) (ji8))), wrap64 (x5_1 + 1)))) else (some (wrap64 (x4_1 + (shl .i64 (Int.tmod (wrap64 (bt a0 x5_1)) 128) (ji8))), wrap64 (x5_1 + 1))))) else (none)) = some (r1, r2) := by first | (rw [hji8] at H; exact H) | (simp only [hji8] at H ⊢; exact H)
      have hji8w : (IntKind.i64.wrap (7 * x5_1)) = ji8 := (i64_w _).trans hji8
      replace H := iz H
      obtain ⟨c9, H⟩ := H
      have c9b0 := eq_true c9
      have c9b1 : decide (0 <= (ji8)) = true := decide_eq_true c9
      clear c9
      obtain ⟨ji10, hji10⟩ : ∃ j_ : Int, (shl .i64 (Int.tmod (wrap64 (bt a0 x5_1)) 128) (ji8)) = j_ := ⟨_, rfl⟩
      replace H : (if (wrap64 (bt a0 x5_1)) ≥ 128 then (impl_ReadVar.l0 kj1 a0 (wrap64 (x4_1 + (ji10))) (wrap64 (x5_1 + 1))) else (if (wrap64 (bt a0 x5_1)) = 0 then (if x5_1 > 0 then (some (0, 0)) else (some (wrap64 (x4_1 + (ji10)), wrap64 (x5_1 + 1)))) else (some (wrap64 (x4_1 + (ji10)), wrap64 (x5_1 + 1))))) = some (r1, r2) := by first | (rw [hji10] at H; exact H) | (simp only [hji10] at H ⊢; exact H)
      have hji10_ : (IntKind.i64.wrap ((Int.tmod (wrap64 (bt a0 x5_1)) 128) * 2 ^ min (ji8).toNat 64)) = ji10 := hji10
      have hji10z : (ji8) <= 64 -> (IntKind.i64.wrap ((Int.tmod (wrap64 (bt a0 x5_1)) 128) * 2 ^ (ji8).toNat)) = ji10 := shl_small hji10
      have hji10y : (wrap64 ((Int.tmod (wrap64 (bt a0 x5_1)) 128) * 2 ^ min (ji8).toNat 64)) = ji10 := (i64_w _).symm.trans hji10_
      have hji10x : (ji8) <= 64 -> (wrap64 ((Int.tmod (wrap64 (bt a0 x5_1)) 128) * 2 ^ (ji8).toNat)) = ji10 := fun h_ => (i64_w _).symm.trans (hji10z h_)
      by_cases c11 : (wrap64 (bt a0 x5_1)) ≥ 128
      ·rw [if_pos c11] at H
       have c11b0 : decide (128 <= (wrap64 (bt a0 x5_1))) = true := decide_eq_true c11
       clear c11
       have H' := Aside0.mk H
       clear H
       have p7 : 0 <= (x5_1 : Int) := oz
       have q7 : x5_1 < (a0.size : Int) := oz
       have hx7 := bt_at a0 x5_1
       replace p7 := eq_true p7
       replace q7 := eq_true q7
       go_wp2
       go_roundg kj1
       case measure => have := HK1.out; have := HJ1.out; omega
       case rel => exact ⟨(wrap64 (x4_1 + (ji10))), (wrap64 (x5_1 + 1)), (by first | rfl | (simp; done) | (simp only [<- hji10] <;> (first | rfl | simp)) | (simp [*]; done)), ez, H', ⟨by have := HK1.out; have := HJ1.out; omega⟩, dz⟩
      ·rw [if_neg c11] at H
       have c11b0 : decide (128 <= (wrap64 (bt a0 x5_1))) = false := decide_eq_false c11
       clear c11
       by_cases c12 : (wrap64 (bt a0 x5_1)) = 0
       ·rw [if_pos c12] at H
        have c12b0 : ((wrap64 (bt a0 x5_1)) == 0) = true := beq_iff_eq.mpr c12
        have c12b1 : ((wrap64 (bt a0 x5_1)) != 0) = false := bne_eq_false_iff_eq.mpr c12
        clear c12
        by_cases c13 : x5_1 > 0
        ·rw [if_pos c13] at H
         have c13b0 : decide (0 < x5_1) = true := decide_eq_true c13
         clear c13
         simp only [Option.some.injEq, Prod.mk.injEq] at H
         obtain ⟨rfl, rfl⟩ := H
         have p7 : 0 <= (x5_1 : Int) := oz
         have q7 : x5_1 < (a0.size : Int) := oz
         have hx7 := bt_at a0 x5_1
         replace p7 := eq_true p7
         replace q7 := eq_true q7
         go_wp2
         go_ret2
         exact ⟨by first | rfl | (simp; done) | (simp only [<- hji8, <- hji10] <;> (first | rfl | simp)) | (simp [*]; done), dz⟩
        ·rw [if_neg c13] at H
         have c13b0 : decide (0 < x5_1) = false := decide_eq_false c13
         clear c13
         simp only [Option.some.injEq, Prod.mk.injEq] at H
         obtain ⟨rfl, rfl⟩ := H
         have p7 : 0 <= (x5_1 : Int) := oz
         have q7 : x5_1 < (a0.size : Int) := oz
         have hx7 := bt_at a0 x5_1
         replace p7 := eq_true p7
         replace q7 := eq_true q7
         go_wp2
         go_ret2
         exact ⟨by first | rfl | (simp; done) | (simp only [<- hji8, <- hji10] <;> (first | rfl | simp)) | (simp [*]; done), dz⟩
       ·rw [if_neg c12] at H
        have c12b0 : ((wrap64 (bt a0 x5_1)) == 0) = false := beq_eq_false_iff_ne.mpr c12
        have c12b1 : ((wrap64 (bt a0 x5_1)) != 0) = true := bne_iff_ne.mpr c12
        simp only [Option.some.injEq, Prod.mk.injEq] at H
        obtain ⟨rfl, rfl⟩ := H
        have p7 : 0 <= (x5_1 : Int) := oz
        have q7 : x5_1 < (a0.size : Int) := oz
        have hx7 := bt_at a0 x5_1
        replace p7 := eq_true p7
        replace q7 := eq_true q7
        go_wp2
        go_ret2
        exact ⟨by first | rfl | (simp; done) | (simp only [<- hji8, <- hji10] <;> (first | rfl | simp)) | (simp [*]; done), dz⟩
     ·replace c4 := Bool.eq_false_iff.mpr c4
      subst c4
      have H1 := hq H
      clear H
      have H := H1
      clear H1
      simp only [Option.some.injEq, Prod.mk.injEq] at H
      obtain ⟨rfl, rfl⟩ := H
      go_wp2
      go_ret2
      exact ⟨e2z, dz⟩
mutual
def impl_Fixed.j0 : Nat -> Int -> Int -> Bool -> Option (ByteArray)
 | 0, _, _, _ => none
 | k + 1, x0, x1, x18 => if x18 = true then (some (⟨#[]⟩ : ByteArray)) else (impl_Fixed.l0 k x0 ([] : List Int) (wrap64 (x1 - 1)))
def impl_Fixed.l0 : Nat -> Int -> List Int -> Int -> Option (ByteArray)
 | 0, _, _, _ => none
 | k + 1, x0, x5, x6 => if x6 ≥ 0 then (if 0 <= (wrap64 (8 * x6)) then (if x5.length < 140737488355328 then (impl_Fixed.l0 k x0 (x5 ++ [(shr .i64 x0 (wrap64 (8 * x6))) % 256]) (wrap64 (x6 - 1))) else (none)) else (none)) else (some (strOfNums x5))
end
def impl_Fixed.f (k : Nat) (a0 : Int) (a1 : Int) : Option (ByteArray) := (impl_in.f a1 1 7).bind fun t191 => (if t191 = true then (if 0 <= (wrap64 (8 * a1)) then ((impl_in.f a0 0 (wrap64 ((shl .i64 1 (wrap64 (8 * a1))) - 1))).bind fun t192 => (impl_Fixed.j0 k a0 a1 (!t192))) else (none)) else (impl_Fixed.j0 k a0 a1 true))
theorem impl_Fixed.mono_l : ∀ k, (∀ y0 y1 y2, LeO (impl_Fixed.j0 k y0 y1 y2) (impl_Fixed.j0 (k + 1) y0 y1 y2)) /\ (∀ y0 y1 y2, LeO (impl_Fixed.l0 k y0 y1 y2) (impl_Fixed.l0 (k + 1) y0 y1 y2))
 | 0 => ⟨fun _ _ _ r h => by simp [impl_Fixed.j0] at h, fun _ _ _ r h => by simp [impl_Fixed.l0] at h⟩
 | k + 1 => by
  obtain ⟨ih0, ih1⟩ := impl_Fixed.mono_l k
  refine ⟨?_, ?_⟩
  ·intro y0 y1 y2
   unfold impl_Fixed.j0
   with_reducible repeat' first | exact ih0 _ _ _ | exact ih1 _ _ _ | exact lrz _ | exact lnz _ | refine liz ?_ ?_ | refine lbz ?_ fun _ => ?_
  ·intro y0 y1 y2
   unfold impl_Fixed.l0
   with_reducible repeat' first | exact ih0 _ _ _ | exact ih1 _ _ _ | exact lrz _ | exact lnz _ | refine liz ?_ ?_ | refine lbz ?_ fun _ => ?_
theorem impl_Fixed.mono : ∀ a0 a1 k, LeO (impl_Fixed.f k a0 a1) (impl_Fixed.f (k + 1) a0 a1) := by
 intro a0 a1 k
 obtain ⟨ih0, ih1⟩ := impl_Fixed.mono_l k
 unfold impl_Fixed.f
 with_reducible repeat' first | exact ih0 _ _ _ | exact ih1 _ _ _ | exact lrz _ | exact lnz _ | refine liz ?_ ?_ | refine lbz ?_ fun _ => ?_
set_option maxHeartbeats 8000000 in
set_option maxRecDepth 100000 in
theorem impl_Fixed.calls (k : Nat) (a0 : Int) (a1 : Int) (r : ByteArray) (w : World) (h : impl_Fixed.f k a0 a1 = some r) :
  Calls Tryd.prog 14 #[.int .i64 a0, .int .i64 a1] w fun e w' => e = .returned (.string r) /\ Below w.heap.size w w' := by
 have HB := Aside0.mk (Below.refl w.heap.size w)
 have H : ((impl_in.f a1 1 7).bind fun t191 => (if t191 = true then (if 0 <= (wrap64 (8 * a1)) then ((impl_in.f a0 0 (wrap64 ((shl .i64 1 (wrap64 (8 * a1))) - 1))).bind fun t192 => (impl_Fixed.j0 k a0 a1 (!t192))) else (none)) else (impl_Fixed.j0 k a0 a1 true))) = some r := h
 clear h
 have HC3 := Aside0.mk H
 clear H
 go_enter Tryd.func14, Tryd.ntmps14
 go_upto_region 1 with (fail)
 go_cut [18] (fun v18 wc => ∃ (kq : Nat) (x18_2 : Bool), v18 = .bool x18_2 /\ Aside0 (impl_Fixed.j0 kq a0 a1 x18_2 = some r) /\ Aside0 (kq <= k) /\ Aside0 (Below w.heap.size w wc))
 case first =>
  have H := HC3.out
  clear HC3
  replace H := bi H
  obtain ⟨t191, A40, H⟩ := H
  try dsimp only at H
  have A4 := Aside0.mk A40
  clear A40
  by_cases c5 : t191 = true
  ·subst c5
   have H1 := hp H
   clear H
   have H := H1
   clear H1
   obtain ⟨ji6, hji6⟩ : ∃ j_ : Int, (wrap64 (8 * a1)) = j_ := ⟨_, rfl⟩
   replace H : (if 0 <= (ji6) then ((impl_in.f a0 0 (wrap64 ((shl .i64 1 (ji6)) - 1))).bind fun t192 => (impl_Fixed.j0 k a0 a1 (!t192))) else (none)) = some r := by first | (rw [hji6] at H; exact H) | (simp only [hji6] at H ⊢; exact H)
   (try rw [hji6] at A4)
   have hji6w : (IntKind.i64.wrap (8 * a1)) = ji6 := (i64_w _).trans hji6
   replace H := iz H
   obtain ⟨c7, H⟩ := H
   have c7b0 := eq_true c7
   have c7b1 : decide (0 <= (ji6)) = true := decide_eq_true c7
   clear c7
   obtain ⟨ji8, hji8⟩ : ∃ j_ : Int, (shl .i64 1 (ji6)) = j_ := ⟨_, rfl⟩
   replace H : ((impl_in.f a0 0 (wrap64 ((ji8) - 1))).bind fun t192 => (impl_Fixed.j0 k a0 a1 (!t192))) = some r := by first | (rw [hji8] at H; exact H) | (simp only [hji8] at H ⊢; exact H)
   (try rw [hji8] at A4)
   have hji8_ : (IntKind.i64.wrap (1 * 2 ^ min (ji6).toNat 64)) = ji8 := hji8
   have hji8z : (ji6) <= 64 -> (IntKind.i64.wrap (1 * 2 ^ (ji6).toNat)) = ji8 := shl_small hji8
   have hji8u : (IntKind.i64.wrap (2 ^ min (ji6).toNat 64)) = ji8 := by have h_ := hji8_; rw [Int.one_mul] at h_; exact h_
   have hji8v : (ji6) <= 64 -> (IntKind.i64.wrap (2 ^ (ji6).toNat)) = ji8 := fun hle_ => by have h_ := hji8z hle_; rw [Int.one_mul] at h_; exact h_
   have hji8y : (wrap64 (1 * 2 ^ min (ji6).toNat 64)) = ji8 := (i64_w _).symm.trans hji8_
   have hji8x : (ji6) <= 64 -> (wrap64 (1 * 2 ^ (ji6).toNat)) = ji8 := fun h_ => (i64_w _).symm.trans (hji8z h_)
   replace H := bi H
   obtain ⟨t192, A90, H⟩ := H
   try dsimp only at H
   have A9 := Aside0.mk A90
   clear A90
   have H' := Aside0.mk H
   clear H
   go_wp2_with (first | ((with_reducible refine gate_callee (f := 30) rfl ?_); refine goesL_ (some 8) rfl rfl Tryd.func30 (by kernel_rfl) rfl #[.int .i64 a1, .int .i64 1, .int .i64 7] rfl lz ?_; (with_reducible refine (impl_in.calls a1 1 7 true _ A4.out).mono ?_); rintro e w' ⟨rfl, ⟨nd, rfl⟩⟩; refine ⟨_, rfl, ?_⟩) | (go_at_call 30; (with_reducible refine (impl_in.calls a0 0 (wrap64 ((ji8) - 1)) t192 _ A9.out).mono ?_); rintro e w' ⟨rfl, ⟨nd, rfl⟩⟩))
   go_meet
   case rel => exact ⟨_, (!t192), ez, H', ⟨by first | omega | exact Nat.le_refl _⟩, ⟨(bz0 HB.out)⟩⟩
  ·replace c5 := Bool.eq_false_iff.mpr c5
   subst c5
   have H1 := hq H
   clear H
   have H := H1
   clear H1
   have H' := Aside0.mk H
   clear H
   go_wp2_with (first | ((with_reducible refine gate_callee (f := 30) rfl ?_); refine goesL_ (some 8) rfl rfl Tryd.func30 (by kernel_rfl) rfl #[.int .i64 a1, .int .i64 1, .int .i64 7] rfl lz ?_; (with_reducible refine (impl_in.calls a1 1 7 false _ A4.out).mono ?_); rintro e w' ⟨rfl, ⟨nd, rfl⟩⟩; refine ⟨_, rfl, ?_⟩))
   go_meet
   case rel => exact ⟨_, (true), ez, H', ⟨by first | omega | exact Nat.le_refl _⟩, ⟨(bz0 HB.out)⟩⟩
 case rest =>
  clear HC3
  try clear c1
  try clear p2
  try clear c3
  try clear c5
  try clear p6
  try clear c7
  try clear c7b0
  try clear c7b1
  obtain ⟨kq, x18_2, rfl, HA, HJ2, HB⟩ := hcut
  cases kq with
  | zero => exact absurd HA.out (by simp [impl_Fixed.j0])
  | succ kj2 =>
   have H := HA.out
   clear HA
   simp only [impl_Fixed.j0] at H
   by_cases c10 : x18_2 = true
   ·subst c10
    have H1 := hp H
    clear H
    have H := H1
    clear H1
    obtain rfl := Option.some.inj H
    go_wp2
    go_ret
    exact ⟨gz, (bz0 HB.out)⟩
   ·replace c10 := Bool.eq_false_iff.mpr c10
    subst c10
    have H1 := hq H
    clear H
    have H := H1
    clear H1
    have H' := Aside0.mk H
    clear H
    go_wp2
    go_loopg [5, 6] kj2 (fun kq v5 v6 w' => ∃ (x5_2 : List Int) (x6_2 : Int), v6 = .int .i64 x6_2 /\ Aside0 (impl_Fixed.l0 kq a0 x5_2 x6_2 = some r) /\ Aside0 (kq <= kj2) /\ Aside0 (Kd.R (Kd.int .u8) 5 w' w.heap.size (fun _ => True) v5 x5_2) /\ Aside0 (Below w.heap.size w w'))
    case atStart => exact ⟨(([] : List Int)), (wrap64 (a1 - 1)), ez, H', ⟨Nat.le_refl _⟩, ⟨by first | exact Kd.R_nil _ _ _ _ _ | exact Kd.N_nil _ _ _ _ _ | exact Kd.V_nil _ _ _ _ _ | exact Kd.Q_nil _ _ _ _ _ | exact Kd.S_nil _ _ _ _ _⟩, ⟨(bz0 HB.out)⟩⟩
    case round =>
     clear H'
     try clear c1
     try clear p2
     try clear c3
     try clear c5
     try clear p6
     try clear c7
     try clear c7b0
     try clear c7b1
     try clear c10
     try clear p2
     try clear p6
     obtain ⟨x5_2, x6_2, rfl, HA, HK2, HO_5, HB⟩ := hrel
     cases gk with
     | zero => exact absurd HA.out (by simp [impl_Fixed.l0])
     | succ k2 =>
      have H := HA.out
      clear HA
      simp only [impl_Fixed.l0] at H
      by_cases c11 : x6_2 ≥ 0
      ·rw [if_pos c11] at H
       have c11b0 : decide (0 <= x6_2) = true := decide_eq_true c11
       clear c11
       obtain ⟨ji12, hji12⟩ : ∃ j_ : Int, (wrap64 (8 * x6_2)) = j_ := ⟨_, rfl⟩
       replace H : (if 0 <= (ji12) then (if x5_2.length < 140737488355328 then (impl_Fixed.l0 k2 a0 (x5_2 ++ [(shr .i64 a0 (ji12)) % 256]) (wrap64 (x6_2 - 1))) else (none)) else (none)) = some r := by first | (rw [hji12] at H; exact H) | (simp only [hji12] at H ⊢; exact H)
       have hji12w : (IntKind.i64.wrap (8 * x6_2)) = ji12 := (i64_w _).trans hji12
       replace H := iz H
       obtain ⟨c13, H⟩ := H
       have c13b0 := eq_true c13
       have c13b1 : decide (0 <= (ji12)) = true := decide_eq_true c13
       clear c13
       obtain ⟨ji14, hji14⟩ : ∃ j_ : Int, (shr .i64 a0 (ji12)) = j_ := ⟨_, rfl⟩
       replace H : (if x5_2.length < 140737488355328 then (impl_Fixed.l0 k2 a0 (x5_2 ++ [(ji14) % 256]) (wrap64 (x6_2 - 1))) else (none)) = some r := by first | (rw [hji14] at H; exact H) | (simp only [hji14] at H ⊢; exact H)
       have hji14_ : (a0 / 2 ^ min (ji12).toNat 64) = ji14 := hji14
       have hji14z : (ji12) <= 64 -> (a0 / 2 ^ (ji12).toNat) = ji14 := shr_small hji14
       replace H := iz H
       obtain ⟨c15, H⟩ := H
       have LMc15 := Aside0.mk c15
       clear c15
       obtain ⟨y193, hy193⟩ : ∃ y_ : List Int, y_ = (x5_2 ++ [(ji14) % 256]) := ⟨_, rfl⟩
       replace H : (impl_Fixed.l0 k2 a0 y193 (wrap64 (x6_2 - 1))) = some r := yz hy193 H
       have Ny193 := Aside0.mk hy193
       clear hy193
       have H' := Aside0.mk H
       clear H
       go_wp2_with (first | ((with_reducible refine gate_builtin (b := .append) (xs := #[.tmp 25, .tmp 31]) rfl ?_); at_builtin; refine Kd.R_append (Kd.int .u8) (w0 := w) w.heap.size rfl (.tmp 25) (.tmp 31) 25 5 (.int .u8 0) 1 rfl Tryd.underlying25 info5 rfl (by decide) (by omega) u5 x5_2 ((ji14) % 256) [.int .u8 ((ji14) % 256)] (fun _ => True) (fun _ => False) rfl rfl ?aP (fun _ hk => hk.elim) ?aF ?aO ?aB ?aS ?aL ?_; (case aP => exact rfl); (case aB => exact (bz0 HB.out)); (case aF => exact (fun _ _ => trivial)); (case aO => exact (rz HO_5.out)); (case aS => exact (below_size (bz0 HB.out))); (case aL => have := LMc15.out; omega); intro v194 w16 ho hb hg hat; rw [<- Ny193.out] at ho; have n0_ := Aside0.mk (hb); have n1_ := Aside0.mk (ho); clear HB; clear HO_5; have HB := n0_; have HO195 := n1_; clear n0_ n1_; clear ho hb hg hat))
       go_roundg k2
       case measure => have := HJ2.out; have := HK2.out; omega
       case rel => exact ⟨(y193), (wrap64 (x6_2 - 1)), ez, H', ⟨by have := HJ2.out; have := HK2.out; omega⟩, ⟨by refine rq ?_; exact HO195.out⟩, ⟨(bz0 HB.out)⟩⟩
      ·rw [if_neg c11] at H
       have c11b0 : decide (0 <= x6_2) = false := decide_eq_false c11
       clear c11
       obtain rfl := Option.some.inj H
       have hcv17 := own_string (P := Tryd.prog) Tryd.underlying25 Tryd.underlying5 Tryd.underlying9 (Kd.own_of_R HO_5.out)
       go_wp2
       go_ret
       exact ⟨gz, (bz0 HB.out)⟩
mutual
def impl_ReadFixed.j0 : Nat -> ByteArray -> Int -> Bool -> Option (Int × Bool)
 | 0, _, _, _ => none
 | k + 1, x0, x1, x16 => if x16 = true then (some (0, false)) else (impl_ReadFixed.l0 k x0 0 x1 0)
def impl_ReadFixed.l0 : Nat -> ByteArray -> Int -> Int -> Int -> Option (Int × Bool)
 | 0, _, _, _, _ => none
 | k + 1, x0, x6, x17, x18 => if x18 < x17 then (if 0 <= x18 then (if x18 < (x0.size : Int) then (impl_ReadFixed.l0 k x0 (Go.bits .or .i64 (wrap64 (x6 * 256)) (wrap64 (bt x0 x18))) x17 (wrap64 (x18 + 1))) else (none)) else (none)) else (some (x6, true))
end
def impl_ReadFixed.f (k : Nat) (a0 : ByteArray) (a1 : Int) : Option (Int × Bool) := (impl_in.f a1 1 7).bind fun t196 => (if t196 = true then (impl_ReadFixed.j0 k a0 a1 (decide ((a0.size : Int) < a1))) else (impl_ReadFixed.j0 k a0 a1 true))
theorem impl_ReadFixed.mono_l : ∀ k, (∀ y0 y1 y2, LeO (impl_ReadFixed.j0 k y0 y1 y2) (impl_ReadFixed.j0 (k + 1) y0 y1 y2)) /\ (∀ y0 y1 y2 y3, LeO (impl_ReadFixed.l0 k y0 y1 y2 y3) (impl_ReadFixed.l0 (k + 1) y0 y1 y2 y3))
 | 0 => ⟨fun _ _ _ r h => by simp [impl_ReadFixed.j0] at h, fun _ _ _ _ r h => by simp [impl_ReadFixed.l0] at h⟩
 | k + 1 => by
  obtain ⟨ih0, ih1⟩ := impl_ReadFixed.mono_l k
  refine ⟨?_, ?_⟩
  ·intro y0 y1 y2
   unfold impl_ReadFixed.j0
   with_reducible repeat' first | exact ih0 _ _ _ | exact ih1 _ _ _ _ | exact lrz _ | exact lnz _ | refine liz ?_ ?_ | refine lbz ?_ fun _ => ?_
  ·intro y0 y1 y2 y3
   unfold impl_ReadFixed.l0
   with_reducible repeat' first | exact ih0 _ _ _ | exact ih1 _ _ _ _ | exact lrz _ | exact lnz _ | refine liz ?_ ?_ | refine lbz ?_ fun _ => ?_
theorem impl_ReadFixed.mono : ∀ a0 a1 k, LeO (impl_ReadFixed.f k a0 a1) (impl_ReadFixed.f (k + 1) a0 a1) := by
 intro a0 a1 k
 obtain ⟨ih0, ih1⟩ := impl_ReadFixed.mono_l k
 unfold impl_ReadFixed.f
 with_reducible repeat' first | exact ih0 _ _ _ | exact ih1 _ _ _ _ | exact lrz _ | exact lnz _ | refine liz ?_ ?_ | refine lbz ?_ fun _ => ?_
set_option maxHeartbeats 8000000 in
set_option maxRecDepth 100000 in
theorem impl_ReadFixed.calls (k : Nat) (a0 : ByteArray) (a1 : Int) (r1 : Int) (r2 : Bool) (w : World) (h : impl_ReadFixed.f k a0 a1 = some (r1, r2)) :
  Calls Tryd.prog 15 #[.string a0, .int .i64 a1] w fun e w' => e = .returned (.tuple #[.int .i64 r1, .bool r2]) /\ Drawn0 w w' := by
 have H : ((impl_in.f a1 1 7).bind fun t196 => (if t196 = true then (impl_ReadFixed.j0 k a0 a1 (decide ((a0.size : Int) < a1))) else (impl_ReadFixed.j0 k a0 a1 true))) = some (r1, r2) := h
 clear h
 have HC3 := Aside0.mk H
 clear H
 go_enter Tryd.func15, Tryd.ntmps15
 go_upto_region 1 with (fail)
 go_cut [16] (fun v16 wc => ∃ (kq : Nat) (x16_2 : Bool), v16 = .bool x16_2 /\ Aside0 (impl_ReadFixed.j0 kq a0 a1 x16_2 = some (r1, r2)) /\ Aside0 (kq <= k) /\ Drawn0 w wc)
 case first =>
  have H := HC3.out
  clear HC3
  replace H := bi H
  obtain ⟨t196, A40, H⟩ := H
  try dsimp only at H
  have A4 := Aside0.mk A40
  clear A40
  by_cases c5 : t196 = true
  ·subst c5
   have H1 := hp H
   clear H
   have H := H1
   clear H1
   have H' := Aside0.mk H
   clear H
   go_wp2_with (first | ((with_reducible refine gate_callee (f := 30) rfl ?_); refine goesL_ (some 9) rfl rfl Tryd.func30 (by kernel_rfl) rfl #[.int .i64 a1, .int .i64 1, .int .i64 7] rfl lz ?_; (with_reducible refine (impl_in.calls a1 1 7 true _ A4.out).mono ?_); rintro e w' ⟨rfl, ⟨nd, rfl⟩⟩; refine ⟨_, rfl, ?_⟩))
   go_meet
   case rel => exact ⟨_, (decide ((a0.size : Int) < a1)), ez, H', ⟨by first | omega | exact Nat.le_refl _⟩, dz⟩
  ·replace c5 := Bool.eq_false_iff.mpr c5
   subst c5
   have H1 := hq H
   clear H
   have H := H1
   clear H1
   have H' := Aside0.mk H
   clear H
   go_wp2_with (first | ((with_reducible refine gate_callee (f := 30) rfl ?_); refine goesL_ (some 9) rfl rfl Tryd.func30 (by kernel_rfl) rfl #[.int .i64 a1, .int .i64 1, .int .i64 7] rfl lz ?_; (with_reducible refine (impl_in.calls a1 1 7 false _ A4.out).mono ?_); rintro e w' ⟨rfl, ⟨nd, rfl⟩⟩; refine ⟨_, rfl, ?_⟩))
   go_meet
   case rel => exact ⟨_, (true), ez, H', ⟨by first | omega | exact Nat.le_refl _⟩, dz⟩
 case rest =>
  clear HC3
  try clear c1
  try clear p2
  try clear c3
  try clear c5
  obtain ⟨kq, x16_2, rfl, HA, HJ2, ⟨mc2, rfl⟩⟩ := hcut
  cases kq with
  | zero => exact absurd HA.out (by simp [impl_ReadFixed.j0])
  | succ kj2 =>
   have H := HA.out
   clear HA
   simp only [impl_ReadFixed.j0] at H
   by_cases c6 : x16_2 = true
   ·subst c6
    have H1 := hp H
    clear H
    have H := H1
    clear H1
    simp only [Option.some.injEq, Prod.mk.injEq] at H
    obtain ⟨rfl, rfl⟩ := H
    go_wp2
    go_ret2
    exact ⟨e2z, dz⟩
   ·replace c6 := Bool.eq_false_iff.mpr c6
    subst c6
    have H1 := hq H
    clear H
    have H := H1
    clear H1
    have H' := Aside0.mk H
    clear H
    go_wp2
    go_loopg [6, 18] kj2 (fun kq v6 v18 w' => ∃ (x6_2 : Int) (x18_2 : Int), v6 = .int .i64 x6_2 /\ v18 = .int .i64 x18_2 /\ Aside0 (impl_ReadFixed.l0 kq a0 x6_2 a1 x18_2 = some (r1, r2)) /\ Aside0 (kq <= kj2) /\ Drawn0 w w')
    case atStart => exact ⟨(0), (0), ez, ez, H', ⟨Nat.le_refl _⟩, dz⟩
    case round =>
     clear H'
     try clear c1
     try clear c2
     try clear p2
     try clear c3
     try clear c5
     try clear c6
     try clear p2
     obtain ⟨x6_2, x18_2, rfl, rfl, HA, HK2, ⟨m2, rfl⟩⟩ := hrel
     cases gk with
     | zero => exact absurd HA.out (by simp [impl_ReadFixed.l0])
     | succ k2 =>
      have H := HA.out
      clear HA
      simp only [impl_ReadFixed.l0] at H
      by_cases c7 : x18_2 < a1
      ·rw [if_pos c7] at H
       have c7b0 := decide_eq_true c7
       clear c7
       replace H := iz H
       obtain ⟨c8, H⟩ := H
       have c8b0 := decide_eq_true c8
       clear c8
       replace H := iz H
       obtain ⟨c9, H⟩ := H
       have c9b0 := decide_eq_true c9
       clear c9
       have H' := Aside0.mk H
       clear H
       have p10 : 0 <= (x18_2 : Int) := oz
       have q10 : x18_2 < (a0.size : Int) := oz
       have hx10 := bt_at a0 x18_2
       replace p10 := eq_true p10
       replace q10 := eq_true q10
       go_wp2
       go_roundg k2
       case measure => have := HJ2.out; have := HK2.out; omega
       case rel => exact ⟨(Go.bits .or .i64 (wrap64 (x6_2 * 256)) (wrap64 (bt a0 x18_2))), (wrap64 (x18_2 + 1)), ez, ez, H', ⟨by have := HJ2.out; have := HK2.out; omega⟩, dz⟩
      ·rw [if_neg c7] at H
       have c7b0 := decide_eq_false c7
       clear c7
       simp only [Option.some.injEq, Prod.mk.injEq] at H
       obtain ⟨rfl, rfl⟩ := H
       go_wp2
       go_ret2
       exact ⟨e2z, dz⟩
def impl_digit.j0 : Nat -> Int -> Bool -> Option (Int)
 | 0, _, _ => none
 | k + 1, x0, x3 => if x3 = true then (some ((x0 - 48) % 256)) else (if x0 ≥ 97 then (if x0 <= 102 then (some (((x0 - 97) % 256) + 10)) else (some (-1))) else (some (-1)))
def impl_digit.f (k : Nat) (a0 : Int) : Option (Int) := if a0 ≥ 48 then (impl_digit.j0 k a0 (decide (a0 <= 57))) else (impl_digit.j0 k a0 false)
theorem impl_digit.mono_l : ∀ k, (∀ y0 y1, LeO (impl_digit.j0 k y0 y1) (impl_digit.j0 (k + 1) y0 y1))
 | 0 => fun _ _ r h => by simp [impl_digit.j0] at h
 | k + 1 => by
  have ih0 := impl_digit.mono_l k
  ·intro y0 y1
   unfold impl_digit.j0
   with_reducible repeat' first | exact ih0 _ _ | exact lrz _ | exact lnz _ | refine liz ?_ ?_ | refine lbz ?_ fun _ => ?_
theorem impl_digit.mono : ∀ a0 k, LeO (impl_digit.f k a0) (impl_digit.f (k + 1) a0) := by
 intro a0 k
 have ih0 := impl_digit.mono_l k
 unfold impl_digit.f
 with_reducible repeat' first | exact ih0 _ _ | exact lrz _ | exact lnz _ | refine liz ?_ ?_ | refine lbz ?_ fun _ => ?_
set_option maxHeartbeats 8000000 in
set_option maxRecDepth 100000 in
theorem impl_digit.calls (k : Nat) (a0 : Int) (r : Int) (w : World) (h : impl_digit.f k a0 = some r) :
  Calls Tryd.prog 35 #[.int .u8 a0] w fun e w' => e = .returned (.int .i64 r) /\ Drawn0 w w' := by
 have H : (if a0 ≥ 48 then (impl_digit.j0 k a0 (decide (a0 <= 57))) else (impl_digit.j0 k a0 false)) = some r := h
 clear h
 have HC2 := Aside0.mk H
 clear H
 go_enter Tryd.func35, Tryd.ntmps35
 go_upto_region 1 with (fail)
 go_cut [3] (fun v3 wc => ∃ (kq : Nat) (x3_1 : Bool), v3 = .bool x3_1 /\ Aside0 (impl_digit.j0 kq a0 x3_1 = some r) /\ Aside0 (kq <= k) /\ Drawn0 w wc)
 case first =>
  have H := HC2.out
  clear HC2
  by_cases c3 : a0 ≥ 48
  ·rw [if_pos c3] at H
   have c3b0 : decide (48 <= a0) = true := decide_eq_true c3
   clear c3
   (first | rw [c3b0] | (simp only [i64_w, i32_w]; rw [c3b0]) | skip)
   have H' := Aside0.mk H
   clear H
   go_wp2
   go_meet
   case rel => exact ⟨_, (decide (a0 <= 57)), ez, H', ⟨by first | omega | exact Nat.le_refl _⟩, dz⟩
  ·rw [if_neg c3] at H
   have c3b0 : decide (48 <= a0) = false := decide_eq_false c3
   clear c3
   (first | rw [c3b0] | (simp only [i64_w, i32_w]; rw [c3b0]) | skip)
   have H' := Aside0.mk H
   clear H
   go_wp2
   go_meet
   case rel => exact ⟨_, (false), ez, H', ⟨by first | omega | exact Nat.le_refl _⟩, dz⟩
 case rest =>
  clear HC2
  try clear p2
  try clear c3
  try clear c3b0
  obtain ⟨kq, x3_1, rfl, HA, HJ1, ⟨mc1, rfl⟩⟩ := hcut
  cases kq with
  | zero => exact absurd HA.out (by simp [impl_digit.j0])
  | succ kj1 =>
   have H := HA.out
   clear HA
   simp only [impl_digit.j0] at H
   by_cases c4 : x3_1 = true
   ·subst c4
    have H1 := hp H
    clear H
    have H := H1
    clear H1
    obtain rfl := Option.some.inj H
    go_wp2
    go_ret
    exact ⟨e2z, dz⟩
   ·replace c4 := Bool.eq_false_iff.mpr c4
    subst c4
    have H1 := hq H
    clear H
    have H := H1
    clear H1
    by_cases c5 : a0 ≥ 97
    ·rw [if_pos c5] at H
     have c5b0 : decide (97 <= a0) = true := decide_eq_true c5
     clear c5
     by_cases c6 : a0 <= 102
     ·rw [if_pos c6] at H
      have c6b0 := decide_eq_true c6
      clear c6
      obtain rfl := Option.some.inj H
      go_wp2
      go_ret
      exact ⟨e2z, dz⟩
     ·rw [if_neg c6] at H
      have c6b0 := decide_eq_false c6
      clear c6
      obtain rfl := Option.some.inj H
      go_wp2
      go_ret
      exact ⟨e2z, dz⟩
    ·rw [if_neg c5] at H
     have c5b0 : decide (97 <= a0) = false := decide_eq_false c5
     clear c5
     obtain rfl := Option.some.inj H
     go_wp2
     go_ret
     exact ⟨e2z, dz⟩
end Go.Proofs.YtdjamdnjkdllgaaDoor.PFnNumbers
