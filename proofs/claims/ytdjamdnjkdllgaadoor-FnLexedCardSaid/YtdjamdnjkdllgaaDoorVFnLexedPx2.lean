/- PFnLexedx2, of the words and walks that the law FnLexed needs; made by this session's program out of printed texts. -/

import Derived.Test.YtdjamdnjkdllgaaDoorVFnLexedPx0
import Derived.Test.YtdjamdnjkdllgaaDoorVFnLexedPx1
namespace Go.Proofs.YtdjamdnjkdllgaaDoor.PFnLexed
open Go.RowKit Go.Proofs.YtdjamdnjkdllgaaDoorW.PrintWords Go.Proofs.YtdjamdnjkdllgaaDoorW.PrintLast Go.Proofs.YtdjamdnjkdllgaaDoorW.PrintMore
attribute [local go_sem] max2_int min2_int max_two min_two max_three min_three max_four min_four
set_option linter.unusedVariables false
set_option linter.unusedSimpArgs false
def spec_IsWord.l0 : Nat -> ByteArray -> Int -> Option (Bool)
 | 0, _, _ => none
 | k + 1, x0, x3 => if x3 < (x0.size : Int) then (if 0 <= x3 then ((spec_l2Letter.f (bt x0 x3)).bind fun t112 => (if t112 = true then (spec_IsWord.l0 k x0 (wrap64 (x3 + 1))) else (some false))) else (none)) else ((spec_l1In.f (x0.size : Int) 1 8).bind fun t113 => (some t113))
def spec_IsWord.f (k : Nat) (a0 : ByteArray) : Option (Bool) := spec_IsWord.l0 k a0 0
theorem spec_IsWord.mono_l : ∀ k, (∀ y0 y1, LeO (spec_IsWord.l0 k y0 y1) (spec_IsWord.l0 (k + 1) y0 y1))
 | 0 => fun _ _ r h => by simp [spec_IsWord.l0] at h
 | k + 1 => by
  have ih0 := spec_IsWord.mono_l k
  ·intro y0 y1
   unfold spec_IsWord.l0
   with_reducible repeat' first | exact ih0 _ _ | exact lrz _ | exact lnz _ | refine liz ?_ ?_ | refine lbz ?_ fun _ => ?_
theorem spec_IsWord.mono : ∀ a0 k, LeO (spec_IsWord.f k a0) (spec_IsWord.f (k + 1) a0) := by
 intro a0 k
 have ih0 := spec_IsWord.mono_l k
 unfold spec_IsWord.f
 with_reducible repeat' first | exact ih0 _ _ | exact lrz _ | exact lnz _ | refine liz ?_ ?_ | refine lbz ?_ fun _ => ?_
set_option maxHeartbeats 8000000 in
set_option maxRecDepth 100000 in
theorem spec_IsWord.calls (k : Nat) (a0 : ByteArray) (r : Bool) (w : World) (h : spec_IsWord.f k a0 = some r) :
  Calls Tryd.prog 41 #[.string a0] w fun e w' => e = .returned (.bool r) /\ Drawn0 w w' := by
 have H : (spec_IsWord.l0 k a0 0) = some r := h
 clear h
 have H' := Aside0.mk H
 clear H
 go_enter Tryd.func41, Tryd.ntmps41
 go_wp2
 go_loopg [3] k (fun kq v3 w' => ∃ (x3_1 : Int), v3 = .int .i64 x3_1 /\ Aside0 (spec_IsWord.l0 kq a0 x3_1 = some r) /\ Aside0 (kq <= k) /\ Drawn0 w w')
 case atStart => exact ⟨(0), ez, H', ⟨Nat.le_refl _⟩, dz⟩
 case round =>
  clear H'
  obtain ⟨x3_1, rfl, HA, HK1, ⟨m1, rfl⟩⟩ := hrel
  cases gk with
  | zero => exact absurd HA.out (by simp [spec_IsWord.l0])
  | succ k1 =>
   have H := HA.out
   clear HA
   simp only [spec_IsWord.l0] at H
   by_cases c2 : x3_1 < (a0.size : Int)
   ·rw [if_pos c2] at H
    have c2b0 := decide_eq_true c2
    clear c2
    replace H := iz H
    obtain ⟨c3, H⟩ := H
    have c3b0 := decide_eq_true c3
    clear c3
    replace H := bi H
    obtain ⟨t112, A50, H⟩ := H
    try dsimp only at H
    have A5 := Aside0.mk A50
    clear A50
    by_cases c6 : t112 = true
    ·subst c6
     have H1 := hp H
     clear H
     have H := H1
     clear H1
     have H' := Aside0.mk H
     clear H
     have p4 : 0 <= (x3_1 : Int) := oz
     have q4 : x3_1 < (a0.size : Int) := oz
     have hx4 := bt_at a0 x3_1
     replace p4 := eq_true p4
     replace q4 := eq_true q4
     go_wp2_with (first | ((with_reducible refine gate_callee (f := 39) rfl ?_); refine goesL_ (some 13) rfl rfl Tryd.func39 (by kernel_rfl) rfl #[.int .u8 (bt a0 x3_1)] rfl lz ?_; (with_reducible refine (spec_l2Letter.calls (bt a0 x3_1) true _ A5.out).mono ?_); rintro e w' ⟨rfl, ⟨nd, rfl⟩⟩; refine ⟨_, rfl, ?_⟩))
     go_roundg k1
     case measure => have := HK1.out; omega
     case rel => exact ⟨(wrap64 (x3_1 + 1)), ez, H', ⟨by have := HK1.out; omega⟩, dz⟩
    ·replace c6 := Bool.eq_false_iff.mpr c6
     subst c6
     have H1 := hq H
     clear H
     have H := H1
     clear H1
     obtain rfl := Option.some.inj H
     have p4 : 0 <= (x3_1 : Int) := oz
     have q4 : x3_1 < (a0.size : Int) := oz
     have hx4 := bt_at a0 x3_1
     replace p4 := eq_true p4
     replace q4 := eq_true q4
     go_wp2_with (first | ((with_reducible refine gate_callee (f := 39) rfl ?_); refine goesL_ (some 13) rfl rfl Tryd.func39 (by kernel_rfl) rfl #[.int .u8 (bt a0 x3_1)] rfl lz ?_; (with_reducible refine (spec_l2Letter.calls (bt a0 x3_1) false _ A5.out).mono ?_); rintro e w' ⟨rfl, ⟨nd, rfl⟩⟩; refine ⟨_, rfl, ?_⟩))
     go_ret
     exact ⟨e2z, dz⟩
   ·rw [if_neg c2] at H
    have c2b0 := decide_eq_false c2
    clear c2
    replace H := bi H
    obtain ⟨t113, A70, H⟩ := H
    try dsimp only at H
    have A7 := Aside0.mk A70
    clear A70
    obtain rfl := Option.some.inj H
    go_wp2_with (first | ((with_reducible refine gate_callee (f := 55) rfl ?_); refine goesL_ (some 17) rfl rfl Tryd.func55 (by kernel_rfl) rfl #[.int .i64 (a0.size : Int), .int .i64 1, .int .i64 8] rfl lz ?_; (with_reducible refine (spec_l1In.calls (a0.size : Int) 1 8 t113 _ A7.out).mono ?_); rintro e w' ⟨rfl, ⟨nd, rfl⟩⟩; refine ⟨_, rfl, ?_⟩))
    go_ret
    exact ⟨e2z, dz⟩
mutual
def spec_Lex.l0 : Nat -> ByteArray -> List (S43) -> Int -> Option ((List (S43)) × Int)
 | 0, _, _, _ => none
 | k + 1, x0, x4, x5 => if x5 < (x0.size : Int) then (if 0 <= x5 then (if (bt x0 x5) = 32 then (spec_Lex.j1 k x0 x4 x5 (bt x0 x5) true) else (spec_Lex.j1 k x0 x4 x5 (bt x0 x5) ((bt x0 x5) == 10))) else (none)) else (some (x4, (-1)))
def spec_Lex.j1 : Nat -> ByteArray -> List (S43) -> Int -> Int -> Bool -> Option ((List (S43)) × Int)
 | 0, _, _, _, _, _ => none
 | k + 1, x0, x4, x5, x6, x25 => if x25 = true then (spec_Lex.l0 k x0 x4 (wrap64 (x5 + 1))) else (if x6 = 35 then (spec_Lex.l1 k x0 x4 x5) else (if x6 = 40 then (if x4.length < 3518437208883 then (spec_Lex.l0 k x0 (x4 ++ [(⟨1, (⟨#[40]⟩ : ByteArray), 0, x5⟩ : S43)]) (wrap64 (x5 + 1))) else (none)) else (if x6 = 41 then (if x4.length < 3518437208883 then (spec_Lex.l0 k x0 (x4 ++ [(⟨2, (⟨#[41]⟩ : ByteArray), 0, x5⟩ : S43)]) (wrap64 (x5 + 1))) else (none)) else ((spec_l2Letter.f x6).bind fun t123 => (if t123 = true then ((spec_l2Run.f k x0 x5 true).bind fun t124 => (if 0 <= x5 then (if x5 <= t124 then (if t124 <= (x0.size : Int) then ((spec_IsWord.f k (x0.extract (x5 : Int).toNat (t124 : Int).toNat)).bind fun t125 => (if t125 = true then (if x4.length < 3518437208883 then (spec_Lex.l0 k x0 (x4 ++ [(⟨3, x0.extract (x5 : Int).toNat (t124 : Int).toNat, 0, x5⟩ : S43)]) t124) else (none)) else (some ((([] : List (S43))), x5)))) else (none)) else (none)) else (none))) else ((spec_l2Digit.f x6).bind fun t132 => (if t132 = true then ((spec_l2Run.f k x0 x5 false).bind fun t133 => (if 0 <= x5 then (if x5 <= t133 then (if t133 <= (x0.size : Int) then ((spec_ReadDec.f k (x0.extract (x5 : Int).toNat (t133 : Int).toNat)).bind fun bt134 => (if bt134.2 = true then (if bt134.1 > 65535 then (some ((([] : List (S43))), x5)) else (if x4.length < 3518437208883 then (spec_Lex.l0 k x0 (x4 ++ [(⟨4, x0.extract (x5 : Int).toNat (t133 : Int).toNat, bt134.1, x5⟩ : S43)]) t133) else (none))) else (some ((([] : List (S43))), x5)))) else (none)) else (none)) else (none))) else (some ((([] : List (S43))), x5)))))))))
def spec_Lex.l1 : Nat -> ByteArray -> List (S43) -> Int -> Option ((List (S43)) × Int)
 | 0, _, _, _ => none
 | k + 1, x0, x4, x5 => if x5 < (x0.size : Int) then (if 0 <= x5 then (if (bt x0 x5) = 10 then (spec_Lex.l0 k x0 x4 x5) else (spec_Lex.l1 k x0 x4 (wrap64 (x5 + 1)))) else (none)) else (spec_Lex.l0 k x0 x4 x5)
end
def spec_Lex.f (k : Nat) (a0 : ByteArray) : Option ((List (S43)) × Int) := (some (([] : List (S43)) : List (S43))).bind fun y114 => (if (a0.size : Int) > 4000 then (some (y114, 4000)) else (spec_Lex.l0 k a0 y114 0))
theorem spec_Lex.mono_l : ∀ k, (∀ y0 y1 y2, LeO (spec_Lex.l0 k y0 y1 y2) (spec_Lex.l0 (k + 1) y0 y1 y2)) /\ (∀ y0 y1 y2 y3 y4, LeO (spec_Lex.j1 k y0 y1 y2 y3 y4) (spec_Lex.j1 (k + 1) y0 y1 y2 y3 y4)) /\ (∀ y0 y1 y2, LeO (spec_Lex.l1 k y0 y1 y2) (spec_Lex.l1 (k + 1) y0 y1 y2))
 | 0 => ⟨fun _ _ _ r h => by simp [spec_Lex.l0] at h, fun _ _ _ _ _ r h => by simp [spec_Lex.j1] at h, fun _ _ _ r h => by simp [spec_Lex.l1] at h⟩
 | k + 1 => by
  obtain ⟨ih0, ih1, ih2⟩ := spec_Lex.mono_l k
  refine ⟨?_, ?_, ?_⟩
  ·intro y0 y1 y2
   unfold spec_Lex.l0
   with_reducible repeat' first | exact ih0 _ _ _ | exact ih1 _ _ _ _ _ | exact ih2 _ _ _ | exact spec_IsWord.mono _ _ | exact spec_ReadDec.mono _ _ | exact spec_l2Run.mono _ _ _ _ | exact lrz _ | exact lnz _ | refine liz ?_ ?_ | refine lbz ?_ fun _ => ?_
  ·intro y0 y1 y2 y3 y4
   unfold spec_Lex.j1
   with_reducible repeat' first | exact ih0 _ _ _ | exact ih1 _ _ _ _ _ | exact ih2 _ _ _ | exact spec_IsWord.mono _ _ | exact spec_ReadDec.mono _ _ | exact spec_l2Run.mono _ _ _ _ | exact lrz _ | exact lnz _ | refine liz ?_ ?_ | refine lbz ?_ fun _ => ?_
  ·intro y0 y1 y2
   unfold spec_Lex.l1
   with_reducible repeat' first | exact ih0 _ _ _ | exact ih1 _ _ _ _ _ | exact ih2 _ _ _ | exact spec_IsWord.mono _ _ | exact spec_ReadDec.mono _ _ | exact spec_l2Run.mono _ _ _ _ | exact lrz _ | exact lnz _ | refine liz ?_ ?_ | refine lbz ?_ fun _ => ?_
theorem spec_Lex.mono : ∀ a0 k, LeO (spec_Lex.f k a0) (spec_Lex.f (k + 1) a0) := by
 intro a0 k
 obtain ⟨ih0, ih1, ih2⟩ := spec_Lex.mono_l k
 unfold spec_Lex.f
 with_reducible repeat' first | exact ih0 _ _ _ | exact ih1 _ _ _ _ _ | exact ih2 _ _ _ | exact spec_IsWord.mono _ _ | exact spec_ReadDec.mono _ _ | exact spec_l2Run.mono _ _ _ _ | exact lrz _ | exact lnz _ | refine liz ?_ ?_ | refine lbz ?_ fun _ => ?_
set_option maxHeartbeats 8000000 in
set_option maxRecDepth 100000 in
theorem spec_Lex.calls (k : Nat) (a0 : ByteArray) (r1 : List (S43)) (r2 : Int) (w : World) (h : spec_Lex.f k a0 = some (r1, r2)) :
  Calls Tryd.prog 20 #[.string a0] w fun e w' => ∃ v0_ : Value, e = .returned (.tuple #[v0_, .int .i64 r2]) /\ Kd.R k43 43 w' w.heap.size (fun _ => True) v0_ r1 /\ Below w.heap.size w w' := by
 have hu43 := Tryd.underlying43
 have HB := Aside0.mk (Below.refl w.heap.size w)
 have H : ((some (([] : List (S43)) : List (S43))).bind fun y114 => (if (a0.size : Int) > 4000 then (some (y114, 4000)) else (spec_Lex.l0 k a0 y114 0))) = some (r1, r2) := h
 clear h
 obtain ⟨y114, hy114⟩ : ∃ y_ : List (S43), y_ = (([] : List (S43))) := ⟨_, rfl⟩
 replace H : (if (a0.size : Int) > 4000 then (some (y114, 4000)) else (spec_Lex.l0 k a0 y114 0)) = some (r1, r2) := yz hy114 H
 have Ny114 := Aside0.mk hy114
 clear hy114
 by_cases c2 : (a0.size : Int) > 4000
 ·rw [if_pos c2] at H
  have c2b0 : decide (4000 < (a0.size : Int)) = true := decide_eq_true c2
  have c2b1 : decide (4000 < a0.size) = true := decide_eq_true (by omega)
  clear c2
  simp only [Option.some.injEq, Prod.mk.injEq] at H
  obtain ⟨rfl, rfl⟩ := H
  go_enter Tryd.func20, Tryd.ntmps20
  go_wp2_with (first | ((with_reducible refine gate_dst (N := 11) rfl ?_); refine Kd.R_lit k43 _ 43 ?hg (N := 11) ?hd (xs := ([] : List (S43))) (inner := []) (ok := fun _ => True) (okp := fun _ => True) ?hr ?hp (fun _ hk => hk) trivial (Below.refl _ _) (Nat.le_refl _) (by simp) ?_; (case hd => rfl); (case hg => rfl); (case hr => exact vz); (case hp => exact (Reps.none _ _)); intro v115 w3 ho4 hb hg_ hnew_; clear hg_ hnew_; (first | rw [<- Ny114.out] at ho4 | (simp only [Int.reduceToNat] at ho4; rw [<- Ny114.out] at ho4)); have HO116 := Aside0.mk (Kd.R_lower ho4 (below_size (bz0 HB.out))); replace HB := Aside0.mk (below_step (bz0 HB.out) hb); clear hb ho4))
  go_ret2
  exact ⟨_, gz, by refine rq ?_; exact HO116.out, (bz0 HB.out)⟩
 ·rw [if_neg c2] at H
  have c2b0 : decide (4000 < (a0.size : Int)) = false := decide_eq_false c2
  have c2b1 : decide (4000 < a0.size) = false := decide_eq_false (by omega)
  clear c2
  have H' := Aside0.mk H
  clear H
  go_enter Tryd.func20, Tryd.ntmps20
  go_wp2_with (first | ((with_reducible refine gate_dst (N := 11) rfl ?_); refine Kd.R_lit k43 _ 43 ?hg (N := 11) ?hd (xs := ([] : List (S43))) (inner := []) (ok := fun _ => True) (okp := fun _ => True) ?hr ?hp (fun _ hk => hk) trivial (Below.refl _ _) (Nat.le_refl _) (by simp) ?_; (case hd => rfl); (case hg => rfl); (case hr => exact vz); (case hp => exact (Reps.none _ _)); intro v115 w5 ho6 hb hg_ hnew_; clear hg_ hnew_; (first | rw [<- Ny114.out] at ho6 | (simp only [Int.reduceToNat] at ho6; rw [<- Ny114.out] at ho6)); have HO116 := Aside0.mk (Kd.R_lower ho6 (below_size (bz0 HB.out))); replace HB := Aside0.mk (below_step (bz0 HB.out) hb); clear hb ho6))
  (try simp only [Act.put, sz1, sz2, sz3])
  go_loopg [4, 5] k (fun kq v4 v5 w' => ∃ (x4_1 : List (S43)) (x5_1 : Int), v5 = .int .i64 x5_1 /\ Aside0 (spec_Lex.l0 kq a0 x4_1 x5_1 = some (r1, r2)) /\ Aside0 (kq <= k) /\ Aside0 (Kd.R k43 43 w' w.heap.size (fun _ => True) v4 x4_1) /\ Aside0 (Below w.heap.size w w'))
  case atStart => exact ⟨(y114), (0), ez, H', ⟨Nat.le_refl _⟩, ⟨by refine rq ?_; exact HO116.out⟩, ⟨(bz0 HB.out)⟩⟩
  case round =>
   clear H'
   try clear c2
   try clear c2b0
   try clear c2b1
   try clear p2
   obtain ⟨x4_1, x5_1, rfl, HA, HK1, HO_4, HB⟩ := hrel
   cases gk with
   | zero => exact absurd HA.out (by simp [spec_Lex.l0])
   | succ k1 =>
    have H := HA.out
    clear HA
    simp only [spec_Lex.l0] at H
    by_cases c7 : x5_1 < (a0.size : Int)
    ·rw [if_pos c7] at H
     have c7b0 := decide_eq_true c7
     clear c7
     replace H := iz H
     obtain ⟨c8, H⟩ := H
     have c8b0 := decide_eq_true c8
     clear c8
     have HC10 := Aside0.mk H
     clear H
     have p9 : 0 <= (x5_1 : Int) := oz
     have q9 : x5_1 < (a0.size : Int) := oz
     have hx9 := bt_at a0 x5_1
     replace p9 := eq_true p9
     replace q9 := eq_true q9
     go_upto_region 8 with (fail)
     go_cut [25] (fun v25 wc => ∃ (kq : Nat) (x25_9 : Bool), v25 = .bool x25_9 /\ Aside0 (spec_Lex.j1 kq a0 x4_1 x5_1 (bt a0 x5_1) x25_9 = some (r1, r2)) /\ Aside0 (kq <= k1) /\ Aside0 (Kd.R k43 43 wc w.heap.size (fun _ => True) u4 x4_1) /\ Aside0 (Below w.heap.size w wc))
     case first =>
      have H := HC10.out
      clear HC10
      by_cases c11 : (bt a0 x5_1) = 32
      ·rw [if_pos c11] at H
       have c11b0 : ((bt a0 x5_1) == 32) = true := beq_iff_eq.mpr c11
       have c11b1 : ((bt a0 x5_1) != 32) = false := bne_eq_false_iff_eq.mpr c11
       clear c11
       (first | rw [c11b0] | (simp only [i64_w, i32_w]; rw [c11b0]) | skip)
       have H' := Aside0.mk H
       clear H
       go_wp2
       go_meet
       case rel => exact ⟨_, (true), ez, H', ⟨by have := HK1.out; first | omega | exact Nat.le_refl _⟩, ⟨by refine rq ?_; exact HO_4.out⟩, ⟨(bz0 HB.out)⟩⟩
      ·rw [if_neg c11] at H
       have c11b0 : ((bt a0 x5_1) == 32) = false := beq_eq_false_iff_ne.mpr c11
       have c11b1 : ((bt a0 x5_1) != 32) = true := bne_iff_ne.mpr c11
       (first | rw [c11b0] | (simp only [i64_w, i32_w]; rw [c11b0]) | skip)
       have H' := Aside0.mk H
       clear H
       go_wp2
       go_meet
       case rel => exact ⟨_, (((bt a0 x5_1) == 10)), ez, H', ⟨by have := HK1.out; first | omega | exact Nat.le_refl _⟩, ⟨by refine rq ?_; exact HO_4.out⟩, ⟨(bz0 HB.out)⟩⟩
     case rest =>
      clear HC10
      try clear c1
      try clear c2
      try clear c2b0
      try clear c2b1
      try clear p2
      try clear c7
      try clear c7b0
      try clear c8
      try clear c8b0
      try clear p9
      try clear q9
      try clear hx9
      try clear c11
      try clear c11b0
      try clear c11b1
      try clear p2
      try clear p9
      try clear q9
      obtain ⟨kq, x25_9, rfl, HA, HJ9, HO_4, HB⟩ := hcut
      cases kq with
      | zero => exact absurd HA.out (by simp [spec_Lex.j1])
      | succ kj9 =>
       have H := HA.out
       clear HA
       simp only [spec_Lex.j1] at H
       by_cases c12 : x25_9 = true
       ·subst c12
        have H1 := hp H
        clear H
        have H := H1
        clear H1
        have H' := Aside0.mk H
        clear H
        go_wp2
        go_roundg kj9
        case measure => have := HK1.out; have := HJ9.out; omega
        case rel => exact ⟨(x4_1), (wrap64 (x5_1 + 1)), ez, H', ⟨by have := HK1.out; have := HJ9.out; omega⟩, ⟨by refine rq ?_; exact HO_4.out⟩, ⟨(bz0 HB.out)⟩⟩
       ·replace c12 := Bool.eq_false_iff.mpr c12
        subst c12
        have H1 := hq H
        clear H
        have H := H1
        clear H1
        by_cases c13 : (bt a0 x5_1) = 35
        ·rw [if_pos c13] at H
         have c13b0 : ((bt a0 x5_1) == 35) = true := beq_iff_eq.mpr c13
         have c13b1 : ((bt a0 x5_1) != 35) = false := bne_eq_false_iff_eq.mpr c13
         clear c13
         have H' := Aside0.mk H
         clear H
         go_wp2
         go_loopg [5] kj9 (fun kq v5 w' => ∃ (x5_3 : Int), v5 = .int .i64 x5_3 /\ Aside0 (spec_Lex.l1 kq a0 x4_1 x5_3 = some (r1, r2)) /\ Aside0 (kq <= kj9) /\ Aside0 (Kd.R k43 43 w' w.heap.size (fun _ => True) u4 x4_1) /\ Aside0 (Below w.heap.size w w'))
         case atStart => exact ⟨(x5_1), ez, H', ⟨Nat.le_refl _⟩, ⟨by refine rq ?_; exact HO_4.out⟩, ⟨(bz0 HB.out)⟩⟩
         case round =>
          clear H'
          try clear c1
          try clear c2
          try clear c2b0
          try clear c2b1
          try clear p2
          try clear p6
          try clear c7
          try clear c7b0
          try clear c8
          try clear c8b0
          try clear p9
          try clear q9
          try clear hx9
          try clear c11
          try clear c11b0
          try clear c11b1
          try clear c12
          try clear c13
          try clear c13b0
          try clear c13b1
          try clear p2
          try clear p9
          try clear q9
          obtain ⟨x5_3, rfl, HA, HK3, HO_4, HB⟩ := hrel
          cases gk with
          | zero => exact absurd HA.out (by simp [spec_Lex.l1])
          | succ k3 =>
           have H := HA.out
           clear HA
           simp only [spec_Lex.l1] at H
           by_cases c14 : x5_3 < (a0.size : Int)
           ·rw [if_pos c14] at H
            have c14b0 := decide_eq_true c14
            clear c14
            replace H := iz H
            obtain ⟨c15, H⟩ := H
            have c15b0 := decide_eq_true c15
            clear c15
            by_cases c17 : (bt a0 x5_3) = 10
            ·rw [if_pos c17] at H
             have c17b0 : ((bt a0 x5_3) == 10) = true := beq_iff_eq.mpr c17
             have c17b1 : ((bt a0 x5_3) != 10) = false := bne_eq_false_iff_eq.mpr c17
             clear c17
             have H' := Aside0.mk H
             clear H
             have p16 : 0 <= (x5_3 : Int) := oz
             have q16 : x5_3 < (a0.size : Int) := oz
             have hx16 := bt_at a0 x5_3
             replace p16 := eq_true p16
             replace q16 := eq_true q16
             go_wp2
             go_roundg k3
             case measure => have := HK1.out; have := HJ9.out; have := HK3.out; omega
             case rel => exact ⟨(x4_1), (x5_3), ez, H', ⟨by have := HK1.out; have := HJ9.out; have := HK3.out; omega⟩, ⟨by refine rq ?_; exact HO_4.out⟩, ⟨(bz0 HB.out)⟩⟩
            ·rw [if_neg c17] at H
             have c17b0 : ((bt a0 x5_3) == 10) = false := beq_eq_false_iff_ne.mpr c17
             have c17b1 : ((bt a0 x5_3) != 10) = true := bne_iff_ne.mpr c17
             have H' := Aside0.mk H
             clear H
             have p16 : 0 <= (x5_3 : Int) := oz
             have q16 : x5_3 < (a0.size : Int) := oz
             have hx16 := bt_at a0 x5_3
             replace p16 := eq_true p16
             replace q16 := eq_true q16
             go_wp2
             go_roundg k3
             case measure => have := HK1.out; have := HJ9.out; have := HK3.out; omega
             case rel => exact ⟨(wrap64 (x5_3 + 1)), ez, H', ⟨by have := HK1.out; have := HJ9.out; have := HK3.out; omega⟩, ⟨by refine rq ?_; exact HO_4.out⟩, ⟨(bz0 HB.out)⟩⟩
           ·rw [if_neg c14] at H
            have c14b0 := decide_eq_false c14
            clear c14
            have H' := Aside0.mk H
            clear H
            go_wp2
            go_roundg k3
            case measure => have := HK1.out; have := HJ9.out; have := HK3.out; omega
            case rel => exact ⟨(x4_1), (x5_3), ez, H', ⟨by have := HK1.out; have := HJ9.out; have := HK3.out; omega⟩, ⟨by refine rq ?_; exact HO_4.out⟩, ⟨(bz0 HB.out)⟩⟩
        ·rw [if_neg c13] at H
         have c13b0 : ((bt a0 x5_1) == 35) = false := beq_eq_false_iff_ne.mpr c13
         have c13b1 : ((bt a0 x5_1) != 35) = true := bne_iff_ne.mpr c13
         by_cases c18 : (bt a0 x5_1) = 40
         ·rw [if_pos c18] at H
          have c18b0 : ((bt a0 x5_1) == 40) = true := beq_iff_eq.mpr c18
          have c18b1 : ((bt a0 x5_1) != 40) = false := bne_eq_false_iff_eq.mpr c18
          clear c18
          replace H := iz H
          obtain ⟨c19, H⟩ := H
          have LMc19 := Aside0.mk c19
          clear c19
          obtain ⟨y117, hy117⟩ : ∃ y_ : List (S43), y_ = (x4_1 ++ [(⟨1, (⟨#[40]⟩ : ByteArray), 0, x5_1⟩ : S43)]) := ⟨_, rfl⟩
          replace H : (spec_Lex.l0 kj9 a0 y117 (wrap64 (x5_1 + 1))) = some (r1, r2) := yz hy117 H
          have Ny117 := Aside0.mk hy117
          clear hy117
          have H' := Aside0.mk H
          clear H
          go_wp2_with (first | ((with_reducible refine gate_builtin (b := .append) (xs := #[.tmp 52, .tmp 55]) rfl ?_); at_builtin; refine Kd.R_append k43 (w0 := w) w.heap.size rfl (.tmp 52) (.tmp 55) 37 43 (.agg #[(.int .i64 0), (.string ⟨#[]⟩), (.int .i64 0), (.int .i64 0)]) 40 rfl Tryd.underlying37 info43 rfl (by decide) (by omega) u4 x4_1 (⟨1, (⟨#[40]⟩ : ByteArray), 0, x5_1⟩ : S43) [.int .i64 1, .string (⟨#[40]⟩ : ByteArray), .int .i64 0, .int .i64 x5_1] (fun _ => True) (fun _ => False) rfl rfl ?aP (fun _ hk => hk.elim) ?aF ?aO ?aB ?aS ?aL ?_; (case aP => exact k43_mkM _ _ _ (⟨1, (⟨#[40]⟩ : ByteArray), 0, x5_1⟩ : S43)); (case aB => exact (bz0 HB.out)); (case aF => exact (fun _ _ => trivial)); (case aO => exact (rz HO_4.out)); (case aS => exact (below_size (bz0 HB.out))); (case aL => have := LMc19.out; omega); intro v118 w20 ho hb hg hat; rw [<- Ny117.out] at ho; have n0_ := Aside0.mk (hb); have n1_ := Aside0.mk (ho); clear HB; clear HO_4; have HB := n0_; have HO119 := n1_; clear n0_ n1_; clear ho hb hg hat))
          go_roundg kj9
          case measure => have := HK1.out; have := HJ9.out; omega
          case rel => exact ⟨(y117), (wrap64 (x5_1 + 1)), ez, H', ⟨by have := HK1.out; have := HJ9.out; omega⟩, ⟨by refine rq ?_; exact HO119.out⟩, ⟨(bz0 HB.out)⟩⟩
         ·rw [if_neg c18] at H
          have c18b0 : ((bt a0 x5_1) == 40) = false := beq_eq_false_iff_ne.mpr c18
          have c18b1 : ((bt a0 x5_1) != 40) = true := bne_iff_ne.mpr c18
          by_cases c21 : (bt a0 x5_1) = 41
          ·rw [if_pos c21] at H
           have c21b0 : ((bt a0 x5_1) == 41) = true := beq_iff_eq.mpr c21
           have c21b1 : ((bt a0 x5_1) != 41) = false := bne_eq_false_iff_eq.mpr c21
           clear c21
           replace H := iz H
           obtain ⟨c22, H⟩ := H
           have LMc22 := Aside0.mk c22
           clear c22
           obtain ⟨y120, hy120⟩ : ∃ y_ : List (S43), y_ = (x4_1 ++ [(⟨2, (⟨#[41]⟩ : ByteArray), 0, x5_1⟩ : S43)]) := ⟨_, rfl⟩
           replace H : (spec_Lex.l0 kj9 a0 y120 (wrap64 (x5_1 + 1))) = some (r1, r2) := yz hy120 H
           have Ny120 := Aside0.mk hy120
           clear hy120
           have H' := Aside0.mk H
           clear H
           go_wp2_with (first | ((with_reducible refine gate_builtin (b := .append) (xs := #[.tmp 62, .tmp 65]) rfl ?_); at_builtin; refine Kd.R_append k43 (w0 := w) w.heap.size rfl (.tmp 62) (.tmp 65) 37 43 (.agg #[(.int .i64 0), (.string ⟨#[]⟩), (.int .i64 0), (.int .i64 0)]) 40 rfl Tryd.underlying37 info43 rfl (by decide) (by omega) u4 x4_1 (⟨2, (⟨#[41]⟩ : ByteArray), 0, x5_1⟩ : S43) [.int .i64 2, .string (⟨#[41]⟩ : ByteArray), .int .i64 0, .int .i64 x5_1] (fun _ => True) (fun _ => False) rfl rfl ?aP (fun _ hk => hk.elim) ?aF ?aO ?aB ?aS ?aL ?_; (case aP => exact k43_mkM _ _ _ (⟨2, (⟨#[41]⟩ : ByteArray), 0, x5_1⟩ : S43)); (case aB => exact (bz0 HB.out)); (case aF => exact (fun _ _ => trivial)); (case aO => exact (rz HO_4.out)); (case aS => exact (below_size (bz0 HB.out))); (case aL => have := LMc22.out; omega); intro v121 w23 ho hb hg hat; rw [<- Ny120.out] at ho; have n0_ := Aside0.mk (hb); have n1_ := Aside0.mk (ho); clear HB; clear HO_4; have HB := n0_; have HO122 := n1_; clear n0_ n1_; clear ho hb hg hat))
           go_roundg kj9
           case measure => have := HK1.out; have := HJ9.out; omega
           case rel => exact ⟨(y120), (wrap64 (x5_1 + 1)), ez, H', ⟨by have := HK1.out; have := HJ9.out; omega⟩, ⟨by refine rq ?_; exact HO122.out⟩, ⟨(bz0 HB.out)⟩⟩
          ·rw [if_neg c21] at H
           have c21b0 : ((bt a0 x5_1) == 41) = false := beq_eq_false_iff_ne.mpr c21
           have c21b1 : ((bt a0 x5_1) != 41) = true := bne_iff_ne.mpr c21
           replace H := bi H
           obtain ⟨t123, A240, H⟩ := H
           try dsimp only at H
           have A24 := Aside0.mk A240
           clear A240
           by_cases c25 : t123 = true
           ·subst c25
            have H1 := hp H
            clear H
            have H := H1
            clear H1
            replace H := bi H
            obtain ⟨t124, A260, H⟩ := H
            try dsimp only at H
            have A26 := Aside0.mk A260
            clear A260
            replace H := iz H
            obtain ⟨c27, H⟩ := H
            have c27b0 := eq_true c27
            have c27b1 : decide (0 <= x5_1) = true := decide_eq_true c27
            clear c27
            replace H := iz H
            obtain ⟨c28, H⟩ := H
            have c28b0 := eq_true c28
            have c28b1 : decide (x5_1 <= t124) = true := decide_eq_true c28
            clear c28
            replace H := iz H
            obtain ⟨c29, H⟩ := H
            have c29b0 := eq_true c29
            have c29b1 : decide (t124 <= (a0.size : Int)) = true := decide_eq_true c29
            clear c29
            replace H := bi H
            obtain ⟨t125, A300, H⟩ := H
            try dsimp only at H
            have A30 := Aside0.mk A300
            clear A300
            by_cases c31 : t125 = true
            ·subst c31
             have H1 := hp H
             clear H
             have H := H1
             clear H1
             have c32b0 := eq_true (of_decide_eq_true az : 0 <= x5_1)
             have c33b0 := eq_true (of_decide_eq_true az : x5_1 <= t124)
             have c34b0 := eq_true (of_decide_eq_true az : t124 <= (a0.size : Int))
             replace H := iz H
             obtain ⟨c35, H⟩ := H
             have LMc35 := Aside0.mk c35
             clear c35
             obtain ⟨y126, hy126⟩ : ∃ y_ : List (S43), y_ = (x4_1 ++ [(⟨3, a0.extract (x5_1 : Int).toNat (t124 : Int).toNat, 0, x5_1⟩ : S43)]) := ⟨_, rfl⟩
             replace H : (spec_Lex.l0 kj9 a0 y126 t124) = some (r1, r2) := yz hy126 H
             have Ny126 := Aside0.mk hy126
             clear hy126
             have H' := Aside0.mk H
             clear H
             go_wp2_with (first | ((with_reducible refine gate_callee (f := 39) rfl ?_); refine goesL_ (some 71) rfl rfl Tryd.func39 (by kernel_rfl) rfl #[.int .u8 (bt a0 x5_1)] rfl lz ?_; (with_reducible refine (spec_l2Letter.calls (bt a0 x5_1) true _ A24.out).mono ?_); rintro e w' ⟨rfl, ⟨nd, rfl⟩⟩; refine ⟨_, rfl, ?_⟩) | ((with_reducible refine gate_callee (f := 40) rfl ?_); refine goesL_ (some 74) rfl rfl Tryd.func40 (by kernel_rfl) rfl #[.string a0, .int .i64 x5_1, .bool true] rfl lz ?_; (with_reducible refine (spec_l2Run.calls kj9 a0 x5_1 true t124 _ A26.out).mono ?_); rintro e w' ⟨rfl, ⟨nd, rfl⟩⟩; refine ⟨_, rfl, ?_⟩) | ((with_reducible refine gate_callee (f := 41) rfl ?_); refine goesL_ (some 79) rfl rfl Tryd.func41 (by kernel_rfl) rfl #[.string (a0.extract (x5_1 : Int).toNat (t124 : Int).toNat)] rfl lz ?_; (with_reducible refine (spec_IsWord.calls kj9 (a0.extract (x5_1 : Int).toNat (t124 : Int).toNat) true _ A30.out).mono ?_); rintro e w' ⟨rfl, ⟨nd, rfl⟩⟩; refine ⟨_, rfl, ?_⟩) | ((with_reducible refine gate_builtin (b := .append) (xs := #[.tmp 83, .tmp 90]) rfl ?_); at_builtin; refine Kd.R_append k43 (w0 := w) w.heap.size rfl (.tmp 83) (.tmp 90) 37 43 (.agg #[(.int .i64 0), (.string ⟨#[]⟩), (.int .i64 0), (.int .i64 0)]) 40 rfl Tryd.underlying37 info43 rfl (by decide) (by omega) u4 x4_1 (⟨3, a0.extract (x5_1 : Int).toNat (t124 : Int).toNat, 0, x5_1⟩ : S43) [.int .i64 3, .string (a0.extract (x5_1 : Int).toNat (t124 : Int).toNat), .int .i64 0, .int .i64 x5_1] (fun _ => True) (fun _ => False) rfl rfl ?aP (fun _ hk => hk.elim) ?aF ?aO ?aB ?aS ?aL ?_; (case aP => exact k43_mkM _ _ _ (⟨3, a0.extract (x5_1 : Int).toNat (t124 : Int).toNat, 0, x5_1⟩ : S43)); (case aB => exact (bz0 HB.out)); (case aF => exact (fun _ _ => trivial)); (case aO => exact (rz HO_4.out)); (case aS => exact (below_size (bz0 HB.out))); (case aL => have := LMc35.out; omega); intro v127 w36 ho hb hg hat; rw [<- Ny126.out] at ho; have n0_ := Aside0.mk (hb); have n1_ := Aside0.mk (ho); clear HB; clear HO_4; have HB := n0_; have HO128 := n1_; clear n0_ n1_; clear ho hb hg hat))
             go_roundg kj9
             case measure => have := HK1.out; have := HJ9.out; omega
             case rel => exact ⟨(y126), (t124), ez, H', ⟨by have := HK1.out; have := HJ9.out; omega⟩, ⟨by refine rq ?_; exact HO128.out⟩, ⟨(bz0 HB.out)⟩⟩
            ·replace c31 := Bool.eq_false_iff.mpr c31
             subst c31
             have H1 := hq H
             clear H
             have H := H1
             clear H1
             obtain ⟨y129, hy129⟩ : ∃ y_ : List (S43), y_ = (([] : List (S43))) := ⟨_, rfl⟩
             replace H : (some (y129, x5_1)) = some (r1, r2) := yz hy129 H
             have Ny129 := Aside0.mk hy129
             clear hy129
             simp only [Option.some.injEq, Prod.mk.injEq] at H
             obtain ⟨rfl, rfl⟩ := H
             go_wp2_with (first | ((with_reducible refine gate_callee (f := 39) rfl ?_); refine goesL_ (some 71) rfl rfl Tryd.func39 (by kernel_rfl) rfl #[.int .u8 (bt a0 x5_1)] rfl lz ?_; (with_reducible refine (spec_l2Letter.calls (bt a0 x5_1) true _ A24.out).mono ?_); rintro e w' ⟨rfl, ⟨nd, rfl⟩⟩; refine ⟨_, rfl, ?_⟩) | ((with_reducible refine gate_callee (f := 40) rfl ?_); refine goesL_ (some 74) rfl rfl Tryd.func40 (by kernel_rfl) rfl #[.string a0, .int .i64 x5_1, .bool true] rfl lz ?_; (with_reducible refine (spec_l2Run.calls kj9 a0 x5_1 true t124 _ A26.out).mono ?_); rintro e w' ⟨rfl, ⟨nd, rfl⟩⟩; refine ⟨_, rfl, ?_⟩) | ((with_reducible refine gate_callee (f := 41) rfl ?_); refine goesL_ (some 79) rfl rfl Tryd.func41 (by kernel_rfl) rfl #[.string (a0.extract (x5_1 : Int).toNat (t124 : Int).toNat)] rfl lz ?_; (with_reducible refine (spec_IsWord.calls kj9 (a0.extract (x5_1 : Int).toNat (t124 : Int).toNat) false _ A30.out).mono ?_); rintro e w' ⟨rfl, ⟨nd, rfl⟩⟩; refine ⟨_, rfl, ?_⟩) | ((with_reducible refine gate_dst (N := 81) rfl ?_); refine Kd.R_lit k43 _ 43 ?hg (N := 81) ?hd (xs := ([] : List (S43))) (inner := []) (ok := fun _ => True) (okp := fun _ => True) ?hr ?hp (fun _ hk => hk) trivial (Below.refl _ _) (Nat.le_refl _) (by simp) ?_; (case hd => rfl); (case hg => rfl); (case hr => exact vz); (case hp => exact (Reps.none _ _)); intro v130 w37 ho38 hb hg_ hnew_; clear hg_ hnew_; (first | rw [<- Ny129.out] at ho38 | (simp only [Int.reduceToNat] at ho38; rw [<- Ny129.out] at ho38)); have HO131 := Aside0.mk (Kd.R_lower (Kd.R_new' ho38 (Kd.R_lt (rz HO_4.out))) (below_size (bz0 HB.out))); replace HO_4 := Aside0.mk (Kd.R_elder' (rz HO_4.out) (Kd.R_base ho38) hb); replace HB := Aside0.mk (below_step (bz0 HB.out) hb); clear hb ho38))
             go_ret2
             exact ⟨_, gz, by refine rq ?_; exact Kd.R_mono HO131.out (fun _ hk => trivial), (bz0 HB.out)⟩
           ·replace c25 := Bool.eq_false_iff.mpr c25
            subst c25
            have H1 := hq H
            clear H
            have H := H1
            clear H1
            replace H := bi H
            obtain ⟨t132, A390, H⟩ := H
            try dsimp only at H
            have A39 := Aside0.mk A390
            clear A390
            by_cases c40 : t132 = true
            ·subst c40
             have H1 := hp H
             clear H
             have H := H1
             clear H1
             replace H := bi H
             obtain ⟨t133, A410, H⟩ := H
             try dsimp only at H
             have A41 := Aside0.mk A410
             clear A410
             replace H := iz H
             obtain ⟨c42, H⟩ := H
             have c42b0 := eq_true c42
             have c42b1 : decide (0 <= x5_1) = true := decide_eq_true c42
             clear c42
             replace H := iz H
             obtain ⟨c43, H⟩ := H
             have c43b0 := eq_true c43
             have c43b1 : decide (x5_1 <= t133) = true := decide_eq_true c43
             clear c43
             replace H := iz H
             obtain ⟨c44, H⟩ := H
             have c44b0 := eq_true c44
             have c44b1 : decide (t133 <= (a0.size : Int)) = true := decide_eq_true c44
             clear c44
             replace H := bi H
             obtain ⟨⟨t134, t135⟩, A450, H⟩ := H
             try dsimp only at H
             have A45 := Aside0.mk A450
             clear A450
             by_cases c46 : t135 = true
             ·subst c46
              have H1 := hp H
              clear H
              have H := H1
              clear H1
              by_cases c47 : t134 > 65535
              ·rw [if_pos c47] at H
               have c47b0 : decide (65535 < t134) = true := decide_eq_true c47
               clear c47
               obtain ⟨y136, hy136⟩ : ∃ y_ : List (S43), y_ = (([] : List (S43))) := ⟨_, rfl⟩
               replace H : (some (y136, x5_1)) = some (r1, r2) := yz hy136 H
               have Ny136 := Aside0.mk hy136
               clear hy136
               simp only [Option.some.injEq, Prod.mk.injEq] at H
               obtain ⟨rfl, rfl⟩ := H
               go_wp2_with (first | ((with_reducible refine gate_callee (f := 39) rfl ?_); refine goesL_ (some 71) rfl rfl Tryd.func39 (by kernel_rfl) rfl #[.int .u8 (bt a0 x5_1)] rfl lz ?_; (with_reducible refine (spec_l2Letter.calls (bt a0 x5_1) false _ A24.out).mono ?_); rintro e w' ⟨rfl, ⟨nd, rfl⟩⟩; refine ⟨_, rfl, ?_⟩) | ((with_reducible refine gate_callee (f := 42) rfl ?_); refine goesL_ (some 95) rfl rfl Tryd.func42 (by kernel_rfl) rfl #[.int .u8 (bt a0 x5_1)] rfl lz ?_; (with_reducible refine (spec_l2Digit.calls (bt a0 x5_1) true _ A39.out).mono ?_); rintro e w' ⟨rfl, ⟨nd, rfl⟩⟩; refine ⟨_, rfl, ?_⟩) | ((with_reducible refine gate_callee (f := 40) rfl ?_); refine goesL_ (some 98) rfl rfl Tryd.func40 (by kernel_rfl) rfl #[.string a0, .int .i64 x5_1, .bool false] rfl lz ?_; (with_reducible refine (spec_l2Run.calls kj9 a0 x5_1 false t133 _ A41.out).mono ?_); rintro e w' ⟨rfl, ⟨nd, rfl⟩⟩; refine ⟨_, rfl, ?_⟩) | ((with_reducible refine gate_callee (f := 7) rfl ?_); refine goesL_ (some 104) rfl rfl Tryd.func7 (by kernel_rfl) rfl #[.string (a0.extract (x5_1 : Int).toNat (t133 : Int).toNat)] rfl lz ?_; (with_reducible refine (spec_ReadDec.calls kj9 (a0.extract (x5_1 : Int).toNat (t133 : Int).toNat) t134 true _ A45.out).mono ?_); rintro e w48 ⟨rfl, hb⟩; refine ⟨_, rfl, ?_⟩; replace HO_4 := qz HO_4 hb; replace HB := Aside0.mk (below_step (bz0 HB.out) hb); (try clear hb); (try clear hk); (try clear hi)) | ((with_reducible refine gate_dst (N := 113) rfl ?_); refine Kd.R_lit k43 _ 43 ?hg (N := 113) ?hd (xs := ([] : List (S43))) (inner := []) (ok := fun _ => True) (okp := fun _ => True) ?hr ?hp (fun _ hk => hk) trivial (Below.refl _ _) (Nat.le_refl _) (by simp) ?_; (case hd => rfl); (case hg => rfl); (case hr => exact vz); (case hp => exact (Reps.none _ _)); intro v137 w49 ho50 hb hg_ hnew_; clear hg_ hnew_; (first | rw [<- Ny136.out] at ho50 | (simp only [Int.reduceToNat] at ho50; rw [<- Ny136.out] at ho50)); have HO138 := Aside0.mk (Kd.R_lower (Kd.R_new' ho50 (Kd.R_lt (rz HO_4.out))) (below_size (bz0 HB.out))); replace HO_4 := Aside0.mk (Kd.R_elder' (rz HO_4.out) (Kd.R_base ho50) hb); replace HB := Aside0.mk (below_step (bz0 HB.out) hb); clear hb ho50))
               go_ret2
               exact ⟨_, gz, by refine rq ?_; exact Kd.R_mono HO138.out (fun _ hk => trivial), (bz0 HB.out)⟩
              ·rw [if_neg c47] at H
               have c47b0 : decide (65535 < t134) = false := decide_eq_false c47
               clear c47
               have c51b0 := eq_true (of_decide_eq_true az : 0 <= x5_1)
               have c52b0 := eq_true (of_decide_eq_true az : x5_1 <= t133)
               have c53b0 := eq_true (of_decide_eq_true az : t133 <= (a0.size : Int))
               replace H := iz H
               obtain ⟨c54, H⟩ := H
               have LMc54 := Aside0.mk c54
               clear c54
               obtain ⟨y139, hy139⟩ : ∃ y_ : List (S43), y_ = (x4_1 ++ [(⟨4, a0.extract (x5_1 : Int).toNat (t133 : Int).toNat, t134, x5_1⟩ : S43)]) := ⟨_, rfl⟩
               replace H : (spec_Lex.l0 kj9 a0 y139 t133) = some (r1, r2) := yz hy139 H
               have Ny139 := Aside0.mk hy139
               clear hy139
               have H' := Aside0.mk H
               clear H
               go_wp2_with (first | ((with_reducible refine gate_callee (f := 39) rfl ?_); refine goesL_ (some 71) rfl rfl Tryd.func39 (by kernel_rfl) rfl #[.int .u8 (bt a0 x5_1)] rfl lz ?_; (with_reducible refine (spec_l2Letter.calls (bt a0 x5_1) false _ A24.out).mono ?_); rintro e w' ⟨rfl, ⟨nd, rfl⟩⟩; refine ⟨_, rfl, ?_⟩) | ((with_reducible refine gate_callee (f := 42) rfl ?_); refine goesL_ (some 95) rfl rfl Tryd.func42 (by kernel_rfl) rfl #[.int .u8 (bt a0 x5_1)] rfl lz ?_; (with_reducible refine (spec_l2Digit.calls (bt a0 x5_1) true _ A39.out).mono ?_); rintro e w' ⟨rfl, ⟨nd, rfl⟩⟩; refine ⟨_, rfl, ?_⟩) | ((with_reducible refine gate_callee (f := 40) rfl ?_); refine goesL_ (some 98) rfl rfl Tryd.func40 (by kernel_rfl) rfl #[.string a0, .int .i64 x5_1, .bool false] rfl lz ?_; (with_reducible refine (spec_l2Run.calls kj9 a0 x5_1 false t133 _ A41.out).mono ?_); rintro e w' ⟨rfl, ⟨nd, rfl⟩⟩; refine ⟨_, rfl, ?_⟩) | ((with_reducible refine gate_callee (f := 7) rfl ?_); refine goesL_ (some 104) rfl rfl Tryd.func7 (by kernel_rfl) rfl #[.string (a0.extract (x5_1 : Int).toNat (t133 : Int).toNat)] rfl lz ?_; (with_reducible refine (spec_ReadDec.calls kj9 (a0.extract (x5_1 : Int).toNat (t133 : Int).toNat) t134 true _ A45.out).mono ?_); rintro e w55 ⟨rfl, hb⟩; refine ⟨_, rfl, ?_⟩; replace HO_4 := qz HO_4 hb; replace HB := Aside0.mk (below_step (bz0 HB.out) hb); (try clear hb); (try clear hk); (try clear hi)) | ((with_reducible refine gate_builtin (b := .append) (xs := #[.tmp 115, .tmp 123]) rfl ?_); at_builtin; refine Kd.R_append k43 (w0 := w) w.heap.size rfl (.tmp 115) (.tmp 123) 37 43 (.agg #[(.int .i64 0), (.string ⟨#[]⟩), (.int .i64 0), (.int .i64 0)]) 40 rfl Tryd.underlying37 info43 rfl (by decide) (by omega) u4 x4_1 (⟨4, a0.extract (x5_1 : Int).toNat (t133 : Int).toNat, t134, x5_1⟩ : S43) [.int .i64 4, .string (a0.extract (x5_1 : Int).toNat (t133 : Int).toNat), .int .i64 t134, .int .i64 x5_1] (fun _ => True) (fun _ => False) rfl rfl ?aP (fun _ hk => hk.elim) ?aF ?aO ?aB ?aS ?aL ?_; (case aP => exact k43_mkM _ _ _ (⟨4, a0.extract (x5_1 : Int).toNat (t133 : Int).toNat, t134, x5_1⟩ : S43)); (case aB => exact (bz0 HB.out)); (case aF => exact (fun _ _ => trivial)); (case aO => exact (rz HO_4.out)); (case aS => exact (below_size (bz0 HB.out))); (case aL => have := LMc54.out; omega); intro v140 w56 ho hb hg hat; rw [<- Ny139.out] at ho; have n0_ := Aside0.mk (hb); have n1_ := Aside0.mk (ho); clear HB; clear HO_4; have HB := n0_; have HO141 := n1_; clear n0_ n1_; clear ho hb hg hat))
               go_roundg kj9
               case measure => have := HK1.out; have := HJ9.out; omega
               case rel => exact ⟨(y139), (t133), ez, H', ⟨by have := HK1.out; have := HJ9.out; omega⟩, ⟨by refine rq ?_; exact HO141.out⟩, ⟨(bz0 HB.out)⟩⟩
             ·replace c46 := Bool.eq_false_iff.mpr c46
              subst c46
              have H1 := hq H
              clear H
              have H := H1
              clear H1
              obtain ⟨y142, hy142⟩ : ∃ y_ : List (S43), y_ = (([] : List (S43))) := ⟨_, rfl⟩
              replace H : (some (y142, x5_1)) = some (r1, r2) := yz hy142 H
              have Ny142 := Aside0.mk hy142
              clear hy142
              simp only [Option.some.injEq, Prod.mk.injEq] at H
              obtain ⟨rfl, rfl⟩ := H
              go_wp2_with (first | ((with_reducible refine gate_callee (f := 39) rfl ?_); refine goesL_ (some 71) rfl rfl Tryd.func39 (by kernel_rfl) rfl #[.int .u8 (bt a0 x5_1)] rfl lz ?_; (with_reducible refine (spec_l2Letter.calls (bt a0 x5_1) false _ A24.out).mono ?_); rintro e w' ⟨rfl, ⟨nd, rfl⟩⟩; refine ⟨_, rfl, ?_⟩) | ((with_reducible refine gate_callee (f := 42) rfl ?_); refine goesL_ (some 95) rfl rfl Tryd.func42 (by kernel_rfl) rfl #[.int .u8 (bt a0 x5_1)] rfl lz ?_; (with_reducible refine (spec_l2Digit.calls (bt a0 x5_1) true _ A39.out).mono ?_); rintro e w' ⟨rfl, ⟨nd, rfl⟩⟩; refine ⟨_, rfl, ?_⟩) | ((with_reducible refine gate_callee (f := 40) rfl ?_); refine goesL_ (some 98) rfl rfl Tryd.func40 (by kernel_rfl) rfl #[.string a0, .int .i64 x5_1, .bool false] rfl lz ?_; (with_reducible refine (spec_l2Run.calls kj9 a0 x5_1 false t133 _ A41.out).mono ?_); rintro e w' ⟨rfl, ⟨nd, rfl⟩⟩; refine ⟨_, rfl, ?_⟩) | ((with_reducible refine gate_callee (f := 7) rfl ?_); refine goesL_ (some 104) rfl rfl Tryd.func7 (by kernel_rfl) rfl #[.string (a0.extract (x5_1 : Int).toNat (t133 : Int).toNat)] rfl lz ?_; (with_reducible refine (spec_ReadDec.calls kj9 (a0.extract (x5_1 : Int).toNat (t133 : Int).toNat) t134 false _ A45.out).mono ?_); rintro e w57 ⟨rfl, hb⟩; refine ⟨_, rfl, ?_⟩; replace HO_4 := qz HO_4 hb; replace HB := Aside0.mk (below_step (bz0 HB.out) hb); (try clear hb); (try clear hk); (try clear hi)) | ((with_reducible refine gate_dst (N := 113) rfl ?_); refine Kd.R_lit k43 _ 43 ?hg (N := 113) ?hd (xs := ([] : List (S43))) (inner := []) (ok := fun _ => True) (okp := fun _ => True) ?hr ?hp (fun _ hk => hk) trivial (Below.refl _ _) (Nat.le_refl _) (by simp) ?_; (case hd => rfl); (case hg => rfl); (case hr => exact vz); (case hp => exact (Reps.none _ _)); intro v143 w58 ho59 hb hg_ hnew_; clear hg_ hnew_; (first | rw [<- Ny142.out] at ho59 | (simp only [Int.reduceToNat] at ho59; rw [<- Ny142.out] at ho59)); have HO144 := Aside0.mk (Kd.R_lower (Kd.R_new' ho59 (Kd.R_lt (rz HO_4.out))) (below_size (bz0 HB.out))); replace HO_4 := Aside0.mk (Kd.R_elder' (rz HO_4.out) (Kd.R_base ho59) hb); replace HB := Aside0.mk (below_step (bz0 HB.out) hb); clear hb ho59))
              go_ret2
              exact ⟨_, gz, by refine rq ?_; exact Kd.R_mono HO144.out (fun _ hk => trivial), (bz0 HB.out)⟩
            ·replace c40 := Bool.eq_false_iff.mpr c40
             subst c40
             have H1 := hq H
             clear H
             have H := H1
             clear H1
             obtain ⟨y145, hy145⟩ : ∃ y_ : List (S43), y_ = (([] : List (S43))) := ⟨_, rfl⟩
             replace H : (some (y145, x5_1)) = some (r1, r2) := yz hy145 H
             have Ny145 := Aside0.mk hy145
             clear hy145
             simp only [Option.some.injEq, Prod.mk.injEq] at H
             obtain ⟨rfl, rfl⟩ := H
             go_wp2_with (first | ((with_reducible refine gate_callee (f := 39) rfl ?_); refine goesL_ (some 71) rfl rfl Tryd.func39 (by kernel_rfl) rfl #[.int .u8 (bt a0 x5_1)] rfl lz ?_; (with_reducible refine (spec_l2Letter.calls (bt a0 x5_1) false _ A24.out).mono ?_); rintro e w' ⟨rfl, ⟨nd, rfl⟩⟩; refine ⟨_, rfl, ?_⟩) | ((with_reducible refine gate_callee (f := 42) rfl ?_); refine goesL_ (some 95) rfl rfl Tryd.func42 (by kernel_rfl) rfl #[.int .u8 (bt a0 x5_1)] rfl lz ?_; (with_reducible refine (spec_l2Digit.calls (bt a0 x5_1) false _ A39.out).mono ?_); rintro e w' ⟨rfl, ⟨nd, rfl⟩⟩; refine ⟨_, rfl, ?_⟩) | ((with_reducible refine gate_dst (N := 23) rfl ?_); refine Kd.R_lit k43 _ 43 ?hg (N := 23) ?hd (xs := ([] : List (S43))) (inner := []) (ok := fun _ => True) (okp := fun _ => True) ?hr ?hp (fun _ hk => hk) trivial (Below.refl _ _) (Nat.le_refl _) (by simp) ?_; (case hd => rfl); (case hg => rfl); (case hr => exact vz); (case hp => exact (Reps.none _ _)); intro v146 w60 ho61 hb hg_ hnew_; clear hg_ hnew_; (first | rw [<- Ny145.out] at ho61 | (simp only [Int.reduceToNat] at ho61; rw [<- Ny145.out] at ho61)); have HO147 := Aside0.mk (Kd.R_lower (Kd.R_new' ho61 (Kd.R_lt (rz HO_4.out))) (below_size (bz0 HB.out))); replace HO_4 := Aside0.mk (Kd.R_elder' (rz HO_4.out) (Kd.R_base ho61) hb); replace HB := Aside0.mk (below_step (bz0 HB.out) hb); clear hb ho61))
             go_ret2
             exact ⟨_, gz, by refine rq ?_; exact Kd.R_mono HO147.out (fun _ hk => trivial), (bz0 HB.out)⟩
    ·rw [if_neg c7] at H
     have c7b0 := decide_eq_false c7
     clear c7
     simp only [Option.some.injEq, Prod.mk.injEq] at H
     obtain ⟨rfl, rfl⟩ := H
     go_wp2
     go_ret2
     exact ⟨_, gz, by refine rq ?_; exact HO_4.out, (bz0 HB.out)⟩
def impl_in.f (a0 : Int) (a1 : Int) (a2 : Int) : Option (Bool) := if a0 ≥ a1 then (some (decide (a0 <= a2))) else (some false)
set_option maxHeartbeats 8000000 in
set_option maxRecDepth 100000 in
theorem impl_in.calls (a0 : Int) (a1 : Int) (a2 : Int) (r : Bool) (w : World) (h : impl_in.f a0 a1 a2 = some r) :
  Calls Tryd.prog 30 #[.int .i64 a0, .int .i64 a1, .int .i64 a2] w fun e w' => e = .returned (.bool r) /\ Drawn0 w w' := by
 have H : (if a0 ≥ a1 then (some (decide (a0 <= a2))) else (some false)) = some r := h
 clear h
 by_cases c4 : a0 ≥ a1
 ·rw [if_pos c4] at H
  have c4b0 : decide (a1 <= a0) = true := decide_eq_true c4
  clear c4
  obtain rfl := Option.some.inj H
  go_enter Tryd.func30, Tryd.ntmps30
  go_wp2
  go_ret
  exact ⟨e2z, dz⟩
 ·rw [if_neg c4] at H
  have c4b0 : decide (a1 <= a0) = false := decide_eq_false c4
  clear c4
  obtain rfl := Option.some.inj H
  go_enter Tryd.func30, Tryd.ntmps30
  go_wp2
  go_ret
  exact ⟨e2z, dz⟩
def impl_ReadDec.f (a0 : ByteArray) : Option (Int × Bool) := if a0.size <= 281474976710656 then (match Lib.atoiAll a0.data.toList with | .ok v => (impl_Dec.f v).bind fun t => (if t.toList = a0.toList then ((impl_in.f v (-999999999) 999999999).bind fun b => (if b = true then (some (v, true)) else (some (0, false)))) else (some (0, false))) | .syntax => some (0, false) | .range => some (0, false)) else none
set_option maxHeartbeats 8000000 in
set_option maxRecDepth 100000 in
theorem impl_ReadDec.calls (a0 : ByteArray) (r1 : Int) (r2 : Bool) (w : World) (h : impl_ReadDec.f a0 = some (r1, r2)) (hT_ : PW w) :
  Calls Tryd.prog 8 #[.string a0] w fun e w' => e = .returned (.tuple #[.int .i64 r1, .bool r2]) /\ Below w.heap.size w w' := by
 unfold impl_ReadDec.f at h
 by_cases hlim : a0.size <= 281474976710656
 case neg => rw [if_neg hlim] at h; cases h
 rw [if_pos hlim] at h
 have H := h
 clear h
 cases hA : Lib.atoiAll a0.data.toList with
 | ok v =>
  rw [hA] at H
  try dsimp only at H
  replace H := bi H
  obtain ⟨t, A10, H⟩ := H
  have A1 := Aside0.mk A10
  clear A10
  by_cases c1 : t.toList = a0.toList
  ·rw [if_pos c1] at H
   replace H := bi H
   obtain ⟨b, A20, H⟩ := H
   have A2 := Aside0.mk A20
   clear A20
   have cb0 : (t.toList == a0.toList) = true := beq_iff_eq.mpr c1
   have cb1 : (t.toList != a0.toList) = false := bne_eq_false_iff_eq.mpr c1
   cases b
   ·rw [if_neg (by decide)] at H
    simp only [Option.some.injEq, Prod.mk.injEq] at H
    obtain ⟨rfl, rfl⟩ := H
    go_enter Tryd.func8, Tryd.ntmps8
    go_wp2_with (first | ((with_reducible refine gate_callee (f := 29) rfl ?_); refine goesL_ (some 8) rfl rfl Tryd.func29 (by kernel_rfl) rfl #[.string a0] rfl lz ?_; (refine (Tryd.strconv_Atoi_ok a0 (by omega) v hA _).mono ?_); rintro e w1 ⟨rfl, hw_⟩; have hb_ : Below w.heap.size w w1 := (by rcases hw_ with rfl | ⟨t_, rfl⟩; (· exact Below.refl _ _); exact Lib.bytesWorld_below _ _ _); have HB := Aside0.mk hb_; clear hb_ hw_; refine ⟨_, rfl, ?_⟩) | ((with_reducible refine gate_callee (f := 16) rfl ?_); (try (refine gate_guard (by rfl) ?_; dsimp only)); refine goesL_ (some 15) rfl rfl Tryd.func16 (by kernel_rfl) rfl #[.int .i64 v] rfl lz ?_; (refine (impl_Dec.calls v t _ A1.out (PW.below hT_ HB.out)).mono ?_); rintro e w' ⟨rfl, hb⟩; refine ⟨_, rfl, ?_⟩; have HB2 := Aside0.mk (below_step HB.out hb); clear hb) | ((with_reducible refine gate_callee (f := 30) rfl ?_); (try (refine gate_guard (by rfl) ?_; dsimp only)); refine goesL_ (some 21) rfl rfl Tryd.func30 (by kernel_rfl) rfl #[.int .i64 v, .int .i64 (-999999999), .int .i64 999999999] rfl lz ?_; (refine (impl_in.calls v (-999999999) 999999999 false _ A2.out).mono ?_); rintro e w' ⟨rfl, ⟨nd, rfl⟩⟩; refine ⟨_, rfl, ?_⟩))
    go_ret2
    exact ⟨rfl, by first | exact HB2.out | exact Below.drewN HB2.out _ | (repeat (first | exact HB2.out | apply pw_below_drewN))⟩
   ·rw [if_pos rfl] at H
    simp only [Option.some.injEq, Prod.mk.injEq] at H
    obtain ⟨rfl, rfl⟩ := H
    go_enter Tryd.func8, Tryd.ntmps8
    go_wp2_with (first | ((with_reducible refine gate_callee (f := 29) rfl ?_); refine goesL_ (some 8) rfl rfl Tryd.func29 (by kernel_rfl) rfl #[.string a0] rfl lz ?_; (refine (Tryd.strconv_Atoi_ok a0 (by omega) v hA _).mono ?_); rintro e w1 ⟨rfl, hw_⟩; have hb_ : Below w.heap.size w w1 := (by rcases hw_ with rfl | ⟨t_, rfl⟩; (· exact Below.refl _ _); exact Lib.bytesWorld_below _ _ _); have HB := Aside0.mk hb_; clear hb_ hw_; refine ⟨_, rfl, ?_⟩) | ((with_reducible refine gate_callee (f := 16) rfl ?_); (try (refine gate_guard (by rfl) ?_; dsimp only)); refine goesL_ (some 15) rfl rfl Tryd.func16 (by kernel_rfl) rfl #[.int .i64 v] rfl lz ?_; (refine (impl_Dec.calls v t _ A1.out (PW.below hT_ HB.out)).mono ?_); rintro e w' ⟨rfl, hb⟩; refine ⟨_, rfl, ?_⟩; have HB2 := Aside0.mk (below_step HB.out hb); clear hb) | ((with_reducible refine gate_callee (f := 30) rfl ?_); (try (refine gate_guard (by rfl) ?_; dsimp only)); refine goesL_ (some 21) rfl rfl Tryd.func30 (by kernel_rfl) rfl #[.int .i64 v, .int .i64 (-999999999), .int .i64 999999999] rfl lz ?_; (refine (impl_in.calls v (-999999999) 999999999 true _ A2.out).mono ?_); rintro e w' ⟨rfl, ⟨nd, rfl⟩⟩; refine ⟨_, rfl, ?_⟩))
    go_ret2
    exact ⟨rfl, by first | exact HB2.out | exact Below.drewN HB2.out _ | (repeat (first | exact HB2.out | apply pw_below_drewN))⟩
  ·rw [if_neg c1] at H
   simp only [Option.some.injEq, Prod.mk.injEq] at H
   obtain ⟨rfl, rfl⟩ := H
   have cb0 : (t.toList == a0.toList) = false := beq_eq_false_iff_ne.mpr c1
   have cb1 : (t.toList != a0.toList) = true := bne_iff_ne.mpr c1
   go_enter Tryd.func8, Tryd.ntmps8
   go_wp2_with (first | ((with_reducible refine gate_callee (f := 29) rfl ?_); refine goesL_ (some 8) rfl rfl Tryd.func29 (by kernel_rfl) rfl #[.string a0] rfl lz ?_; (refine (Tryd.strconv_Atoi_ok a0 (by omega) v hA _).mono ?_); rintro e w1 ⟨rfl, hw_⟩; have hb_ : Below w.heap.size w w1 := (by rcases hw_ with rfl | ⟨t_, rfl⟩; (· exact Below.refl _ _); exact Lib.bytesWorld_below _ _ _); have HB := Aside0.mk hb_; clear hb_ hw_; refine ⟨_, rfl, ?_⟩) | ((with_reducible refine gate_callee (f := 16) rfl ?_); (try (refine gate_guard (by rfl) ?_; dsimp only)); refine goesL_ (some 15) rfl rfl Tryd.func16 (by kernel_rfl) rfl #[.int .i64 v] rfl lz ?_; (refine (impl_Dec.calls v t _ A1.out (PW.below hT_ HB.out)).mono ?_); rintro e w' ⟨rfl, hb⟩; refine ⟨_, rfl, ?_⟩; have HB2 := Aside0.mk (below_step HB.out hb); clear hb) | ((with_reducible refine gate_callee (f := 30) rfl ?_); (try (refine gate_guard (by rfl) ?_; dsimp only)); refine goesL_ (some 21) rfl rfl Tryd.func30 (by kernel_rfl) rfl #[.int .i64 v, .int .i64 (-999999999), .int .i64 999999999] rfl lz ?_; (refine (impl_in.calls v (-999999999) 999999999 false _ A2.out).mono ?_); rintro e w' ⟨rfl, ⟨nd, rfl⟩⟩; refine ⟨_, rfl, ?_⟩))
   go_ret2
   exact ⟨rfl, HB2.out⟩
 | «syntax» =>
  rw [hA] at H
  try dsimp only at H
  simp only [Option.some.injEq, Prod.mk.injEq] at H
  obtain ⟨rfl, rfl⟩ := H
  obtain ⟨tp, pp, hv⟩ := hT_.2.1
  go_enter Tryd.func8, Tryd.ntmps8
  go_wp2_with (first | ((with_reducible refine gate_callee (f := 29) rfl ?_); refine goesL_ (some 8) rfl rfl Tryd.func29 (by kernel_rfl) rfl #[.string a0] rfl lz ?_; (refine (Tryd.strconv_Atoi_syntax_var a0 hlim hA tp pp _ hv).mono ?_); rintro e w1 ⟨N_, rfl, -, -, hb_⟩; have HB := Aside0.mk hb_; clear hb_; refine ⟨_, rfl, ?_⟩))
  go_ret2
  exact ⟨rfl, HB.out⟩
 | range =>
  rw [hA] at H
  try dsimp only at H
  simp only [Option.some.injEq, Prod.mk.injEq] at H
  obtain ⟨rfl, rfl⟩ := H
  obtain ⟨tp, pp, hv⟩ := hT_.2.2
  go_enter Tryd.func8, Tryd.ntmps8
  go_wp2_with (first | ((with_reducible refine gate_callee (f := 29) rfl ?_); refine goesL_ (some 8) rfl rfl Tryd.func29 (by kernel_rfl) rfl #[.string a0] rfl lz ?_; (refine (Tryd.strconv_Atoi_range_var a0 hlim hA tp pp _ hv).mono ?_); rintro e w1 ⟨N_, rfl, -, -, hb_⟩; have HB := Aside0.mk hb_; clear hb_; refine ⟨_, rfl, ?_⟩))
  go_ret2
  exact ⟨rfl, HB.out⟩
end Go.Proofs.YtdjamdnjkdllgaaDoor.PFnLexed
