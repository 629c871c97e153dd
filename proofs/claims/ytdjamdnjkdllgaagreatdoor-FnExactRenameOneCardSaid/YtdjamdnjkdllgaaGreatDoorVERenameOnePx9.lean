/- PFnExactRenameOnex9, of the words and walks that the law FnExactRenameOne needs; made by this session's program out of printed texts. -/

import Derived.Test.YtdjamdnjkdllgaaGreatDoorVERenameOnePx0
namespace Go.Proofs.YtdjamdnjkdllgaaGreatDoor.PFnExactRenameOne
open Go.RowKit Go.Proofs.YtdjamdnjkdllgaaGreatDoorW.PrintWords Go.Proofs.YtdjamdnjkdllgaaGreatDoorW.PrintLast Go.Proofs.YtdjamdnjkdllgaaGreatDoorW.PrintMore
attribute [local go_sem] max2_int min2_int max_two min_two max_three min_three max_four min_four
set_option linter.unusedVariables false
set_option linter.unusedSimpArgs false
def spec_l6Bound.j0 : Nat -> Int -> Int -> Bool -> Int -> Int -> Int -> Int -> Int -> ByteArray -> ByteArray -> Option (List ByteArray × List Int)
 | 0, _, _, _, _, _, _, _, _, _, _ => none
 | k + 1, x1, x7, x14, x198000, x198001, x198002, x198003, x198004, x198005, x198006 => if x14 = true then (if x1 = x198002 then (some ((([x198005] : List ByteArray)), (([0] : List Int)))) else (some ((([] : List ByteArray)), (([] : List Int))))) else (if x7 = 6 then (if x1 = x198001 then (some ((([x198006, x198005] : List ByteArray)), (([1, 0] : List Int)))) else (some ((([x198005] : List ByteArray)), (([0] : List Int))))) else (if x7 = 14 then (if x1 = x198003 then (some ((([x198006, x198005] : List ByteArray)), (([1, 0] : List Int)))) else (some ((([] : List ByteArray)), (([] : List Int))))) else (some ((([] : List ByteArray)), (([] : List Int))))))
def spec_l6Bound.f (k : Nat) (a0_0 : Int) (a0_1 : Int) (a0_2 : Int) (a0_3 : Int) (a0_4 : Int) (a0_5 : ByteArray) (a0_6 : ByteArray) (a1 : Int) : Option (List ByteArray × List Int) := if a0_0 = 3 then (some ((([a0_5] : List ByteArray)), (([0] : List Int)))) else (if a0_0 = 5 then (spec_l6Bound.j0 k a1 a0_0 (a0_0 == 5) a0_0 a0_1 a0_2 a0_3 a0_4 a0_5 a0_6) else (spec_l6Bound.j0 k a1 a0_0 (a0_0 == 19) a0_0 a0_1 a0_2 a0_3 a0_4 a0_5 a0_6))
theorem spec_l6Bound.mono_l : ∀ k, (∀ y0 y1 y2 y3 y4 y5 y6 y7 y8 y9, LeO (spec_l6Bound.j0 k y0 y1 y2 y3 y4 y5 y6 y7 y8 y9) (spec_l6Bound.j0 (k + 1) y0 y1 y2 y3 y4 y5 y6 y7 y8 y9))
 | 0 => fun _ _ _ _ _ _ _ _ _ _ r h => by simp [spec_l6Bound.j0] at h
 | k + 1 => by
  have ih0 := spec_l6Bound.mono_l k
  ·intro y0 y1 y2 y3 y4 y5 y6 y7 y8 y9
   unfold spec_l6Bound.j0
   with_reducible repeat' first | exact ih0 _ _ _ _ _ _ _ _ _ _ | exact lrz _ | exact lnz _ | refine liz ?_ ?_ | refine lbz ?_ fun _ => ?_
theorem spec_l6Bound.mono : ∀ a0 a1 a2 a3 a4 a5 a6 a7 k, LeO (spec_l6Bound.f k a0 a1 a2 a3 a4 a5 a6 a7) (spec_l6Bound.f (k + 1) a0 a1 a2 a3 a4 a5 a6 a7) := by
 intro a0 a1 a2 a3 a4 a5 a6 a7 k
 have ih0 := spec_l6Bound.mono_l k
 unfold spec_l6Bound.f
 with_reducible repeat' first | exact ih0 _ _ _ _ _ _ _ _ _ _ | exact lrz _ | exact lnz _ | refine liz ?_ ?_ | refine lbz ?_ fun _ => ?_
set_option maxHeartbeats 8000000 in
set_option maxRecDepth 100000 in
theorem spec_l6Bound.calls (k : Nat) (a0_0 : Int) (a0_1 : Int) (a0_2 : Int) (a0_3 : Int) (a0_4 : Int) (a0_5 : ByteArray) (a0_6 : ByteArray) (a1 : Int) (r1 : List ByteArray) (r2 : List Int) (w : World) (h : spec_l6Bound.f k a0_0 a0_1 a0_2 a0_3 a0_4 a0_5 a0_6 a1 = some (r1, r2)) :
  Calls Tryz.prog 72 #[.agg #[.int .i64 a0_0, .int .i64 a0_1, .int .i64 a0_2, .int .i64 a0_3, .int .i64 a0_4, .string a0_5, .string a0_6], .int .i64 a1] w fun e w' => ∃ v0_ v1_ : Value, e = .returned (.tuple #[v0_, v1_]) /\ Kd.R Kd.string 9 w' w.heap.size (fun _ => True) v0_ r1 /\ Kd.R (Kd.int .i64) 3 w' w.heap.size (fun _ => True) v1_ r2 /\ Below w.heap.size w w' := by
 have hu45 := Tryz.underlying45
 have HB := am (Below.refl w.heap.size w)
 have H : (if a0_0 = 3 then (some ((([a0_5] : List ByteArray)), (([0] : List Int)))) else (if a0_0 = 5 then (spec_l6Bound.j0 k a1 a0_0 (a0_0 == 5) a0_0 a0_1 a0_2 a0_3 a0_4 a0_5 a0_6) else (spec_l6Bound.j0 k a1 a0_0 (a0_0 == 19) a0_0 a0_1 a0_2 a0_3 a0_4 a0_5 a0_6))) = some (r1, r2) := h
 clear h
 by_cases c3 : a0_0 = 3
 ·rw [if_pos c3] at H
  have c3b0 : (a0_0 == 3) = true := beq_iff_eq.mpr c3
  have c3b1 : (a0_0 != 3) = false := bne_eq_false_iff_eq.mpr c3
  clear c3
  obtain ⟨y198, hy198⟩ : ∃ y_ : List ByteArray, y_ = (([a0_5] : List ByteArray)) := ⟨_, rfl⟩
  replace H : (some (y198, (([0] : List Int)))) = some (r1, r2) := yz hy198 H
  have Ny198 := am hy198
  clear hy198
  obtain ⟨y201, hy201⟩ : ∃ y_ : List Int, y_ = (([0] : List Int)) := ⟨_, rfl⟩
  replace H : (some (y198, y201)) = some (r1, r2) := yz hy201 H
  have Ny201 := am hy201
  clear hy201
  simp only [Option.some.injEq, Prod.mk.injEq] at H
  obtain ⟨rfl, rfl⟩ := H
  go_enter Tryz.func72, Tryz.ntmps72
  go_wp2_with (first | ((with_reducible refine gate_dst (N := 2) rfl ?_); refine box_event ?hg (N := 2) ?hd (cs := #[.int .i64 a0_0, .int .i64 a0_1, .int .i64 a0_2, .int .i64 a0_3, .int .i64 a0_4, .string a0_5, .string a0_6]) (t := 45) ?hr ?_; (case hd => rfl); (case hg => rfl); (case hr => exact vz); intro gb197 hg w4 hbox hb; have BK197 := am (hbox); have GW197 := am ((by rw [hg]; exact (below_size (bz0 HB.out)) : w.heap.size <= gb197)); have GE197 := GW197; replace HB := bs (bz0 HB.out) hb; clear hb hbox hg; obtain ⟨hcz5_0, hcz5_1, hcz5_2, hcz5_3, hcz5_4, hcz5_5, hcz5_6⟩ := cz7 BK197.out; obtain ⟨hfz5_0, hfz5_1, hfz5_2, hfz5_3, hfz5_4, hfz5_5, hfz5_6⟩ := fz7 BK197.out) | ((with_reducible refine gate_dst (N := 12) rfl ?_); refine Kd.R_lit Kd.string _ 9 ?hg (N := 12) ?hd (xs := ([a0_5] : List ByteArray)) (inner := [.string a0_5]) (ok := fun _ => True) (okp := fun _ => True) ?hr ?hp (fun _ hk => hk) trivial (Below.refl _ _) (Nat.le_refl _) (by simp) ?_; (case hd => rfl); (case hg => rfl); (case hr => exact vz); (case hp => exact (Reps.one (show Kd.M Kd.string _ _ _ a0_5 [.string a0_5] from rfl) (Reps.none _ _))); intro v199 w6 ho7 hb hg_ hnew_; clear hg_ hnew_; (first | rw [<- Ny198.out] at ho7 | (simp only [Int.reduceToNat] at ho7; rw [<- Ny198.out] at ho7)); have HO200 := am (Kd.R_lower ho7 (below_size (bz1 HB.out GE197.out))); replace BK197 := kb BK197 hb; replace HB := bs (bz1 HB.out GE197.out) hb; clear hb ho7) | ((with_reducible refine gate_dst (N := 13) rfl ?_); refine Kd.R_lit (Kd.int .i64) _ 3 ?hg (N := 13) ?hd (xs := ([0] : List Int)) (inner := [.int .i64 0]) (ok := fun _ => True) (okp := fun _ => True) ?hr ?hp (fun _ hk => hk) trivial (Below.refl _ _) (Nat.le_refl _) (by simp) ?_; (case hd => rfl); (case hg => rfl); (case hr => exact vz); (case hp => exact (Reps.one (show Kd.M (Kd.int .i64) _ _ _ 0 [.int .i64 0] from rfl) (Reps.none _ _))); intro v202 w8 ho9 hb hg_ hnew_; clear hg_ hnew_; (first | rw [<- Ny201.out] at ho9 | (simp only [Int.reduceToNat] at ho9; rw [<- Ny201.out] at ho9)); replace HO200 := qz HO200 hb; have HO203 := am (Kd.R_lower ho9 (below_size (bz1 HB.out GE197.out))); replace BK197 := kb BK197 hb; replace HB := bs (bz1 HB.out GE197.out) hb; clear hb ho9))
  go_ret2
  exact ⟨_, _, gz, by refine rq ?_; exact HO200.out, by refine rq ?_; exact HO203.out, (bz1 HB.out GE197.out)⟩
 ·rw [if_neg c3] at H
  have c3b0 : (a0_0 == 3) = false := beq_eq_false_iff_ne.mpr c3
  have c3b1 : (a0_0 != 3) = true := bne_iff_ne.mpr c3
  have HC10 := am H
  clear H
  go_enter Tryz.func72, Tryz.ntmps72
  go_upto_if 14 with (first | ((with_reducible refine gate_dst (N := 2) rfl ?_); refine box_event ?hg (N := 2) ?hd (cs := #[.int .i64 a0_0, .int .i64 a0_1, .int .i64 a0_2, .int .i64 a0_3, .int .i64 a0_4, .string a0_5, .string a0_6]) (t := 45) ?hr ?_; (case hd => rfl); (case hg => rfl); (case hr => exact vz); intro gb197 hg w11 hbox hb; have BK197 := am (hbox); have GW197 := am ((by rw [hg]; exact (below_size (bz0 HB.out)) : w.heap.size <= gb197)); have GE197 := GW197; replace HB := bs (bz0 HB.out) hb; clear hb hbox hg; obtain ⟨hcz12_0, hcz12_1, hcz12_2, hcz12_3, hcz12_4, hcz12_5, hcz12_6⟩ := cz7 BK197.out; obtain ⟨hfz12_0, hfz12_1, hfz12_2, hfz12_3, hfz12_4, hfz12_5, hfz12_6⟩ := fz7 BK197.out))
  (try simp only [Act.put, sz1, sz2, sz3])
  go_cut [14] (fun v14 wc => ∃ (kq : Nat) (x14_9 : Bool), v14 = .bool x14_9 /\ Aside0 (spec_l6Bound.j0 kq a1 a0_0 x14_9 a0_0 a0_1 a0_2 a0_3 a0_4 a0_5 a0_6 = some (r1, r2)) /\ Aside0 (kq <= k) /\ Aside0 (wc.heap[gb197]? = some (.cells #[.int .i64 a0_0, .int .i64 a0_1, .int .i64 a0_2, .int .i64 a0_3, .int .i64 a0_4, .string a0_5, .string a0_6] 45 (0, 0))) /\ Aside0 (Below w.heap.size w wc))
  case first =>
   have H := HC10.out
   clear HC10
   by_cases c13 : a0_0 = 5
   ·rw [if_pos c13] at H
    have c13b0 : (a0_0 == 5) = true := beq_iff_eq.mpr c13
    have c13b1 : (a0_0 != 5) = false := bne_eq_false_iff_eq.mpr c13
    clear c13
    (first | rw [c13b0] | (simp only [i64_w, i32_w]; rw [c13b0]) | skip)
    have H' := am H
    clear H
    go_wp2
    go_meet
    case rel => exact ⟨_, ((a0_0 == 5)), ez, H', ⟨by first | omega | exact Nat.le_refl _⟩, ⟨by refine kq ?_; exact BK197.out⟩, ⟨(bz1 HB.out GE197.out)⟩⟩
   ·rw [if_neg c13] at H
    have c13b0 : (a0_0 == 5) = false := beq_eq_false_iff_ne.mpr c13
    have c13b1 : (a0_0 != 5) = true := bne_iff_ne.mpr c13
    (first | rw [c13b0] | (simp only [i64_w, i32_w]; rw [c13b0]) | skip)
    have H' := am H
    clear H
    go_wp2
    go_meet
    case rel => exact ⟨_, ((a0_0 == 19)), ez, H', ⟨by first | omega | exact Nat.le_refl _⟩, ⟨by refine kq ?_; exact BK197.out⟩, ⟨(bz1 HB.out GE197.out)⟩⟩
  case rest =>
   clear HC10
   try clear c1
   try clear p2
   try clear c3
   try clear c3b0
   try clear c3b1
   try clear c7
   try clear c13
   try clear c13b0
   try clear c13b1
   try clear hcz12_0 hcz12_1 hcz12_2 hcz12_3 hcz12_4 hcz12_5 hcz12_6
   try clear hcz5_0 hcz5_1 hcz5_2 hcz5_3 hcz5_4 hcz5_5 hcz5_6
   try clear hfz12_0 hfz12_1 hfz12_2 hfz12_3 hfz12_4 hfz12_5 hfz12_6
   try clear hfz5_0 hfz5_1 hfz5_2 hfz5_3 hfz5_4 hfz5_5 hfz5_6
   obtain ⟨kq, x14_9, rfl, HA, HJ9, BK197, HB⟩ := hcut
   cases kq with
   | zero => exact absurd HA.out (by simp [spec_l6Bound.j0])
   | succ kj9 =>
    have H := HA.out
    clear HA
    simp only [spec_l6Bound.j0] at H
    by_cases c14 : x14_9 = true
    ·subst c14
     have H1 := hp H
     clear H
     have H := H1
     clear H1
     by_cases c15 : a1 = a0_2
     ·rw [if_pos c15] at H
      have c15b0 : (a1 == a0_2) = true := beq_iff_eq.mpr c15
      have c15b1 : (a1 != a0_2) = false := bne_eq_false_iff_eq.mpr c15
      clear c15
      obtain ⟨y204, hy204⟩ : ∃ y_ : List ByteArray, y_ = (([a0_5] : List ByteArray)) := ⟨_, rfl⟩
      replace H : (some (y204, (([0] : List Int)))) = some (r1, r2) := yz hy204 H
      have Ny204 := am hy204
      clear hy204
      obtain ⟨y207, hy207⟩ : ∃ y_ : List Int, y_ = (([0] : List Int)) := ⟨_, rfl⟩
      replace H : (some (y204, y207)) = some (r1, r2) := yz hy207 H
      have Ny207 := am hy207
      clear hy207
      simp only [Option.some.injEq, Prod.mk.injEq] at H
      obtain ⟨rfl, rfl⟩ := H
      obtain ⟨hcz16_0, hcz16_1, hcz16_2, hcz16_3, hcz16_4, hcz16_5, hcz16_6⟩ := cz7 BK197.out
      obtain ⟨hfz16_0, hfz16_1, hfz16_2, hfz16_3, hfz16_4, hfz16_5, hfz16_6⟩ := fz7 BK197.out
      go_wp2_with (first | ((with_reducible refine gate_dst (N := 23) rfl ?_); refine Kd.R_lit Kd.string _ 9 ?hg (N := 23) ?hd (xs := ([a0_5] : List ByteArray)) (inner := [.string a0_5]) (ok := fun _ => True) (okp := fun _ => True) ?hr ?hp (fun _ hk => hk) trivial (Below.refl _ _) (Nat.le_refl _) (by simp) ?_; (case hd => rfl); (case hg => rfl); (case hr => exact vz); (case hp => exact (Reps.one (show Kd.M Kd.string _ _ _ a0_5 [.string a0_5] from rfl) (Reps.none _ _))); intro v205 w17 ho18 hb hg_ hnew_; clear hg_ hnew_; (first | rw [<- Ny204.out] at ho18 | (simp only [Int.reduceToNat] at ho18; rw [<- Ny204.out] at ho18)); have HO206 := am (Kd.R_lower ho18 (below_size (bz1 HB.out GE197.out))); replace BK197 := kb BK197 hb; replace HB := bs (bz1 HB.out GE197.out) hb; clear hb ho18) | ((with_reducible refine gate_dst (N := 24) rfl ?_); refine Kd.R_lit (Kd.int .i64) _ 3 ?hg (N := 24) ?hd (xs := ([0] : List Int)) (inner := [.int .i64 0]) (ok := fun _ => True) (okp := fun _ => True) ?hr ?hp (fun _ hk => hk) trivial (Below.refl _ _) (Nat.le_refl _) (by simp) ?_; (case hd => rfl); (case hg => rfl); (case hr => exact vz); (case hp => exact (Reps.one (show Kd.M (Kd.int .i64) _ _ _ 0 [.int .i64 0] from rfl) (Reps.none _ _))); intro v208 w19 ho20 hb hg_ hnew_; clear hg_ hnew_; (first | rw [<- Ny207.out] at ho20 | (simp only [Int.reduceToNat] at ho20; rw [<- Ny207.out] at ho20)); replace HO206 := qz HO206 hb; have HO209 := am (Kd.R_lower ho20 (below_size (bz1 HB.out GE197.out))); replace BK197 := kb BK197 hb; replace HB := bs (bz1 HB.out GE197.out) hb; clear hb ho20))
      go_ret2
      exact ⟨_, _, gz, by refine rq ?_; exact HO206.out, by refine rq ?_; exact HO209.out, (bz1 HB.out GE197.out)⟩
     ·rw [if_neg c15] at H
      have c15b0 : (a1 == a0_2) = false := beq_eq_false_iff_ne.mpr c15
      have c15b1 : (a1 != a0_2) = true := bne_iff_ne.mpr c15
      obtain ⟨y210, hy210⟩ : ∃ y_ : List ByteArray, y_ = (([] : List ByteArray)) := ⟨_, rfl⟩
      replace H : (some (y210, (([] : List Int)))) = some (r1, r2) := yz hy210 H
      have Ny210 := am hy210
      clear hy210
      obtain ⟨y213, hy213⟩ : ∃ y_ : List Int, y_ = (([] : List Int)) := ⟨_, rfl⟩
      replace H : (some (y210, y213)) = some (r1, r2) := yz hy213 H
      have Ny213 := am hy213
      clear hy213
      simp only [Option.some.injEq, Prod.mk.injEq] at H
      obtain ⟨rfl, rfl⟩ := H
      obtain ⟨hcz21_0, hcz21_1, hcz21_2, hcz21_3, hcz21_4, hcz21_5, hcz21_6⟩ := cz7 BK197.out
      obtain ⟨hfz21_0, hfz21_1, hfz21_2, hfz21_3, hfz21_4, hfz21_5, hfz21_6⟩ := fz7 BK197.out
      go_wp2_with (first | ((with_reducible refine gate_dst (N := 53) rfl ?_); refine Kd.R_lit Kd.string _ 9 ?hg (N := 53) ?hd (xs := ([] : List ByteArray)) (inner := []) (ok := fun _ => True) (okp := fun _ => True) ?hr ?hp (fun _ hk => hk) trivial (Below.refl _ _) (Nat.le_refl _) (by simp) ?_; (case hd => rfl); (case hg => rfl); (case hr => exact vz); (case hp => exact (Reps.none _ _)); intro v211 w22 ho23 hb hg_ hnew_; clear hg_ hnew_; (first | rw [<- Ny210.out] at ho23 | (simp only [Int.reduceToNat] at ho23; rw [<- Ny210.out] at ho23)); have HO212 := am (Kd.R_lower ho23 (below_size (bz1 HB.out GE197.out))); replace BK197 := kb BK197 hb; replace HB := bs (bz1 HB.out GE197.out) hb; clear hb ho23) | ((with_reducible refine gate_dst (N := 54) rfl ?_); refine Kd.R_lit (Kd.int .i64) _ 3 ?hg (N := 54) ?hd (xs := ([] : List Int)) (inner := []) (ok := fun _ => True) (okp := fun _ => True) ?hr ?hp (fun _ hk => hk) trivial (Below.refl _ _) (Nat.le_refl _) (by simp) ?_; (case hd => rfl); (case hg => rfl); (case hr => exact vz); (case hp => exact (Reps.none _ _)); intro v214 w24 ho25 hb hg_ hnew_; clear hg_ hnew_; (first | rw [<- Ny213.out] at ho25 | (simp only [Int.reduceToNat] at ho25; rw [<- Ny213.out] at ho25)); replace HO212 := qz HO212 hb; have HO215 := am (Kd.R_lower ho25 (below_size (bz1 HB.out GE197.out))); replace BK197 := kb BK197 hb; replace HB := bs (bz1 HB.out GE197.out) hb; clear hb ho25))
      go_ret2
      exact ⟨_, _, gz, by refine rq ?_; exact HO212.out, by refine rq ?_; exact HO215.out, (bz1 HB.out GE197.out)⟩
    ·replace c14 := Bool.eq_false_iff.mpr c14
     subst c14
     have H1 := hq H
     clear H
     have H := H1
     clear H1
     by_cases c26 : a0_0 = 6
     ·rw [if_pos c26] at H
      have c26b0 : (a0_0 == 6) = true := beq_iff_eq.mpr c26
      have c26b1 : (a0_0 != 6) = false := bne_eq_false_iff_eq.mpr c26
      clear c26
      by_cases c27 : a1 = a0_1
      ·rw [if_pos c27] at H
       have c27b0 : (a1 == a0_1) = true := beq_iff_eq.mpr c27
       have c27b1 : (a1 != a0_1) = false := bne_eq_false_iff_eq.mpr c27
       clear c27
       obtain ⟨y216, hy216⟩ : ∃ y_ : List ByteArray, y_ = (([a0_6, a0_5] : List ByteArray)) := ⟨_, rfl⟩
       replace H : (some (y216, (([1, 0] : List Int)))) = some (r1, r2) := yz hy216 H
       have Ny216 := am hy216
       clear hy216
       obtain ⟨y219, hy219⟩ : ∃ y_ : List Int, y_ = (([1, 0] : List Int)) := ⟨_, rfl⟩
       replace H : (some (y216, y219)) = some (r1, r2) := yz hy219 H
       have Ny219 := am hy219
       clear hy219
       simp only [Option.some.injEq, Prod.mk.injEq] at H
       obtain ⟨rfl, rfl⟩ := H
       obtain ⟨hcz28_0, hcz28_1, hcz28_2, hcz28_3, hcz28_4, hcz28_5, hcz28_6⟩ := cz7 BK197.out
       obtain ⟨hfz28_0, hfz28_1, hfz28_2, hfz28_3, hfz28_4, hfz28_5, hfz28_6⟩ := fz7 BK197.out
       go_wp2_with (first | ((with_reducible refine gate_dst (N := 35) rfl ?_); refine Kd.R_lit Kd.string _ 9 ?hg (N := 35) ?hd (xs := ([a0_6, a0_5] : List ByteArray)) (inner := [.string a0_6, .string a0_5]) (ok := fun _ => True) (okp := fun _ => True) ?hr ?hp (fun _ hk => hk) trivial (Below.refl _ _) (Nat.le_refl _) (by simp) ?_; (case hd => rfl); (case hg => rfl); (case hr => exact vz); (case hp => exact (Reps.one (show Kd.M Kd.string _ _ _ a0_6 [.string a0_6] from rfl) (Reps.one (show Kd.M Kd.string _ _ _ a0_5 [.string a0_5] from rfl) (Reps.none _ _)))); intro v217 w29 ho30 hb hg_ hnew_; clear hg_ hnew_; (first | rw [<- Ny216.out] at ho30 | (simp only [Int.reduceToNat] at ho30; rw [<- Ny216.out] at ho30)); have HO218 := am (Kd.R_lower ho30 (below_size (bz1 HB.out GE197.out))); replace BK197 := kb BK197 hb; replace HB := bs (bz1 HB.out GE197.out) hb; clear hb ho30) | ((with_reducible refine gate_dst (N := 36) rfl ?_); refine Kd.R_lit (Kd.int .i64) _ 3 ?hg (N := 36) ?hd (xs := ([1, 0] : List Int)) (inner := [.int .i64 1, .int .i64 0]) (ok := fun _ => True) (okp := fun _ => True) ?hr ?hp (fun _ hk => hk) trivial (Below.refl _ _) (Nat.le_refl _) (by simp) ?_; (case hd => rfl); (case hg => rfl); (case hr => exact vz); (case hp => exact (Reps.one (show Kd.M (Kd.int .i64) _ _ _ 1 [.int .i64 1] from rfl) (Reps.one (show Kd.M (Kd.int .i64) _ _ _ 0 [.int .i64 0] from rfl) (Reps.none _ _)))); intro v220 w31 ho32 hb hg_ hnew_; clear hg_ hnew_; (first | rw [<- Ny219.out] at ho32 | (simp only [Int.reduceToNat] at ho32; rw [<- Ny219.out] at ho32)); replace HO218 := qz HO218 hb; have HO221 := am (Kd.R_lower ho32 (below_size (bz1 HB.out GE197.out))); replace BK197 := kb BK197 hb; replace HB := bs (bz1 HB.out GE197.out) hb; clear hb ho32))
       go_ret2
       exact ⟨_, _, gz, by refine rq ?_; exact HO218.out, by refine rq ?_; exact HO221.out, (bz1 HB.out GE197.out)⟩
      ·rw [if_neg c27] at H
       have c27b0 : (a1 == a0_1) = false := beq_eq_false_iff_ne.mpr c27
       have c27b1 : (a1 != a0_1) = true := bne_iff_ne.mpr c27
       obtain ⟨y222, hy222⟩ : ∃ y_ : List ByteArray, y_ = (([a0_5] : List ByteArray)) := ⟨_, rfl⟩
       replace H : (some (y222, (([0] : List Int)))) = some (r1, r2) := yz hy222 H
       have Ny222 := am hy222
       clear hy222
       obtain ⟨y225, hy225⟩ : ∃ y_ : List Int, y_ = (([0] : List Int)) := ⟨_, rfl⟩
       replace H : (some (y222, y225)) = some (r1, r2) := yz hy225 H
       have Ny225 := am hy225
       clear hy225
       simp only [Option.some.injEq, Prod.mk.injEq] at H
       obtain ⟨rfl, rfl⟩ := H
       obtain ⟨hcz33_0, hcz33_1, hcz33_2, hcz33_3, hcz33_4, hcz33_5, hcz33_6⟩ := cz7 BK197.out
       obtain ⟨hfz33_0, hfz33_1, hfz33_2, hfz33_3, hfz33_4, hfz33_5, hfz33_6⟩ := fz7 BK197.out
       go_wp2_with (first | ((with_reducible refine gate_dst (N := 39) rfl ?_); refine Kd.R_lit Kd.string _ 9 ?hg (N := 39) ?hd (xs := ([a0_5] : List ByteArray)) (inner := [.string a0_5]) (ok := fun _ => True) (okp := fun _ => True) ?hr ?hp (fun _ hk => hk) trivial (Below.refl _ _) (Nat.le_refl _) (by simp) ?_; (case hd => rfl); (case hg => rfl); (case hr => exact vz); (case hp => exact (Reps.one (show Kd.M Kd.string _ _ _ a0_5 [.string a0_5] from rfl) (Reps.none _ _))); intro v223 w34 ho35 hb hg_ hnew_; clear hg_ hnew_; (first | rw [<- Ny222.out] at ho35 | (simp only [Int.reduceToNat] at ho35; rw [<- Ny222.out] at ho35)); have HO224 := am (Kd.R_lower ho35 (below_size (bz1 HB.out GE197.out))); replace BK197 := kb BK197 hb; replace HB := bs (bz1 HB.out GE197.out) hb; clear hb ho35) | ((with_reducible refine gate_dst (N := 40) rfl ?_); refine Kd.R_lit (Kd.int .i64) _ 3 ?hg (N := 40) ?hd (xs := ([0] : List Int)) (inner := [.int .i64 0]) (ok := fun _ => True) (okp := fun _ => True) ?hr ?hp (fun _ hk => hk) trivial (Below.refl _ _) (Nat.le_refl _) (by simp) ?_; (case hd => rfl); (case hg => rfl); (case hr => exact vz); (case hp => exact (Reps.one (show Kd.M (Kd.int .i64) _ _ _ 0 [.int .i64 0] from rfl) (Reps.none _ _))); intro v226 w36 ho37 hb hg_ hnew_; clear hg_ hnew_; (first | rw [<- Ny225.out] at ho37 | (simp only [Int.reduceToNat] at ho37; rw [<- Ny225.out] at ho37)); replace HO224 := qz HO224 hb; have HO227 := am (Kd.R_lower ho37 (below_size (bz1 HB.out GE197.out))); replace BK197 := kb BK197 hb; replace HB := bs (bz1 HB.out GE197.out) hb; clear hb ho37))
       go_ret2
       exact ⟨_, _, gz, by refine rq ?_; exact HO224.out, by refine rq ?_; exact HO227.out, (bz1 HB.out GE197.out)⟩
     ·rw [if_neg c26] at H
      have c26b0 : (a0_0 == 6) = false := beq_eq_false_iff_ne.mpr c26
      have c26b1 : (a0_0 != 6) = true := bne_iff_ne.mpr c26
      by_cases c38 : a0_0 = 14
      ·rw [if_pos c38] at H
       have c38b0 : (a0_0 == 14) = true := beq_iff_eq.mpr c38
       have c38b1 : (a0_0 != 14) = false := bne_eq_false_iff_eq.mpr c38
       clear c38
       by_cases c39 : a1 = a0_3
       ·rw [if_pos c39] at H
        have c39b0 : (a1 == a0_3) = true := beq_iff_eq.mpr c39
        have c39b1 : (a1 != a0_3) = false := bne_eq_false_iff_eq.mpr c39
        clear c39
        obtain ⟨y228, hy228⟩ : ∃ y_ : List ByteArray, y_ = (([a0_6, a0_5] : List ByteArray)) := ⟨_, rfl⟩
        replace H : (some (y228, (([1, 0] : List Int)))) = some (r1, r2) := yz hy228 H
        have Ny228 := am hy228
        clear hy228
        obtain ⟨y231, hy231⟩ : ∃ y_ : List Int, y_ = (([1, 0] : List Int)) := ⟨_, rfl⟩
        replace H : (some (y228, y231)) = some (r1, r2) := yz hy231 H
        have Ny231 := am hy231
        clear hy231
        simp only [Option.some.injEq, Prod.mk.injEq] at H
        obtain ⟨rfl, rfl⟩ := H
        obtain ⟨hcz40_0, hcz40_1, hcz40_2, hcz40_3, hcz40_4, hcz40_5, hcz40_6⟩ := cz7 BK197.out
        obtain ⟨hfz40_0, hfz40_1, hfz40_2, hfz40_3, hfz40_4, hfz40_5, hfz40_6⟩ := fz7 BK197.out
        go_wp2_with (first | ((with_reducible refine gate_dst (N := 51) rfl ?_); refine Kd.R_lit Kd.string _ 9 ?hg (N := 51) ?hd (xs := ([a0_6, a0_5] : List ByteArray)) (inner := [.string a0_6, .string a0_5]) (ok := fun _ => True) (okp := fun _ => True) ?hr ?hp (fun _ hk => hk) trivial (Below.refl _ _) (Nat.le_refl _) (by simp) ?_; (case hd => rfl); (case hg => rfl); (case hr => exact vz); (case hp => exact (Reps.one (show Kd.M Kd.string _ _ _ a0_6 [.string a0_6] from rfl) (Reps.one (show Kd.M Kd.string _ _ _ a0_5 [.string a0_5] from rfl) (Reps.none _ _)))); intro v229 w41 ho42 hb hg_ hnew_; clear hg_ hnew_; (first | rw [<- Ny228.out] at ho42 | (simp only [Int.reduceToNat] at ho42; rw [<- Ny228.out] at ho42)); have HO230 := am (Kd.R_lower ho42 (below_size (bz1 HB.out GE197.out))); replace BK197 := kb BK197 hb; replace HB := bs (bz1 HB.out GE197.out) hb; clear hb ho42) | ((with_reducible refine gate_dst (N := 52) rfl ?_); refine Kd.R_lit (Kd.int .i64) _ 3 ?hg (N := 52) ?hd (xs := ([1, 0] : List Int)) (inner := [.int .i64 1, .int .i64 0]) (ok := fun _ => True) (okp := fun _ => True) ?hr ?hp (fun _ hk => hk) trivial (Below.refl _ _) (Nat.le_refl _) (by simp) ?_; (case hd => rfl); (case hg => rfl); (case hr => exact vz); (case hp => exact (Reps.one (show Kd.M (Kd.int .i64) _ _ _ 1 [.int .i64 1] from rfl) (Reps.one (show Kd.M (Kd.int .i64) _ _ _ 0 [.int .i64 0] from rfl) (Reps.none _ _)))); intro v232 w43 ho44 hb hg_ hnew_; clear hg_ hnew_; (first | rw [<- Ny231.out] at ho44 | (simp only [Int.reduceToNat] at ho44; rw [<- Ny231.out] at ho44)); replace HO230 := qz HO230 hb; have HO233 := am (Kd.R_lower ho44 (below_size (bz1 HB.out GE197.out))); replace BK197 := kb BK197 hb; replace HB := bs (bz1 HB.out GE197.out) hb; clear hb ho44))
        go_ret2
        exact ⟨_, _, gz, by refine rq ?_; exact HO230.out, by refine rq ?_; exact HO233.out, (bz1 HB.out GE197.out)⟩
       ·rw [if_neg c39] at H
        have c39b0 : (a1 == a0_3) = false := beq_eq_false_iff_ne.mpr c39
        have c39b1 : (a1 != a0_3) = true := bne_iff_ne.mpr c39
        obtain ⟨y234, hy234⟩ : ∃ y_ : List ByteArray, y_ = (([] : List ByteArray)) := ⟨_, rfl⟩
        replace H : (some (y234, (([] : List Int)))) = some (r1, r2) := yz hy234 H
        have Ny234 := am hy234
        clear hy234
        obtain ⟨y237, hy237⟩ : ∃ y_ : List Int, y_ = (([] : List Int)) := ⟨_, rfl⟩
        replace H : (some (y234, y237)) = some (r1, r2) := yz hy237 H
        have Ny237 := am hy237
        clear hy237
        simp only [Option.some.injEq, Prod.mk.injEq] at H
        obtain ⟨rfl, rfl⟩ := H
        obtain ⟨hcz45_0, hcz45_1, hcz45_2, hcz45_3, hcz45_4, hcz45_5, hcz45_6⟩ := cz7 BK197.out
        obtain ⟨hfz45_0, hfz45_1, hfz45_2, hfz45_3, hfz45_4, hfz45_5, hfz45_6⟩ := fz7 BK197.out
        go_wp2_with (first | ((with_reducible refine gate_dst (N := 53) rfl ?_); refine Kd.R_lit Kd.string _ 9 ?hg (N := 53) ?hd (xs := ([] : List ByteArray)) (inner := []) (ok := fun _ => True) (okp := fun _ => True) ?hr ?hp (fun _ hk => hk) trivial (Below.refl _ _) (Nat.le_refl _) (by simp) ?_; (case hd => rfl); (case hg => rfl); (case hr => exact vz); (case hp => exact (Reps.none _ _)); intro v235 w46 ho47 hb hg_ hnew_; clear hg_ hnew_; (first | rw [<- Ny234.out] at ho47 | (simp only [Int.reduceToNat] at ho47; rw [<- Ny234.out] at ho47)); have HO236 := am (Kd.R_lower ho47 (below_size (bz1 HB.out GE197.out))); replace BK197 := kb BK197 hb; replace HB := bs (bz1 HB.out GE197.out) hb; clear hb ho47) | ((with_reducible refine gate_dst (N := 54) rfl ?_); refine Kd.R_lit (Kd.int .i64) _ 3 ?hg (N := 54) ?hd (xs := ([] : List Int)) (inner := []) (ok := fun _ => True) (okp := fun _ => True) ?hr ?hp (fun _ hk => hk) trivial (Below.refl _ _) (Nat.le_refl _) (by simp) ?_; (case hd => rfl); (case hg => rfl); (case hr => exact vz); (case hp => exact (Reps.none _ _)); intro v238 w48 ho49 hb hg_ hnew_; clear hg_ hnew_; (first | rw [<- Ny237.out] at ho49 | (simp only [Int.reduceToNat] at ho49; rw [<- Ny237.out] at ho49)); replace HO236 := qz HO236 hb; have HO239 := am (Kd.R_lower ho49 (below_size (bz1 HB.out GE197.out))); replace BK197 := kb BK197 hb; replace HB := bs (bz1 HB.out GE197.out) hb; clear hb ho49))
        go_ret2
        exact ⟨_, _, gz, by refine rq ?_; exact HO236.out, by refine rq ?_; exact HO239.out, (bz1 HB.out GE197.out)⟩
      ·rw [if_neg c38] at H
       have c38b0 : (a0_0 == 14) = false := beq_eq_false_iff_ne.mpr c38
       have c38b1 : (a0_0 != 14) = true := bne_iff_ne.mpr c38
       obtain ⟨y240, hy240⟩ : ∃ y_ : List ByteArray, y_ = (([] : List ByteArray)) := ⟨_, rfl⟩
       replace H : (some (y240, (([] : List Int)))) = some (r1, r2) := yz hy240 H
       have Ny240 := am hy240
       clear hy240
       obtain ⟨y243, hy243⟩ : ∃ y_ : List Int, y_ = (([] : List Int)) := ⟨_, rfl⟩
       replace H : (some (y240, y243)) = some (r1, r2) := yz hy243 H
       have Ny243 := am hy243
       clear hy243
       simp only [Option.some.injEq, Prod.mk.injEq] at H
       obtain ⟨rfl, rfl⟩ := H
       go_wp2_with (first | ((with_reducible refine gate_dst (N := 53) rfl ?_); refine Kd.R_lit Kd.string _ 9 ?hg (N := 53) ?hd (xs := ([] : List ByteArray)) (inner := []) (ok := fun _ => True) (okp := fun _ => True) ?hr ?hp (fun _ hk => hk) trivial (Below.refl _ _) (Nat.le_refl _) (by simp) ?_; (case hd => rfl); (case hg => rfl); (case hr => exact vz); (case hp => exact (Reps.none _ _)); intro v241 w50 ho51 hb hg_ hnew_; clear hg_ hnew_; (first | rw [<- Ny240.out] at ho51 | (simp only [Int.reduceToNat] at ho51; rw [<- Ny240.out] at ho51)); have HO242 := am (Kd.R_lower ho51 (below_size (bz1 HB.out GE197.out))); replace BK197 := kb BK197 hb; replace HB := bs (bz1 HB.out GE197.out) hb; clear hb ho51) | ((with_reducible refine gate_dst (N := 54) rfl ?_); refine Kd.R_lit (Kd.int .i64) _ 3 ?hg (N := 54) ?hd (xs := ([] : List Int)) (inner := []) (ok := fun _ => True) (okp := fun _ => True) ?hr ?hp (fun _ hk => hk) trivial (Below.refl _ _) (Nat.le_refl _) (by simp) ?_; (case hd => rfl); (case hg => rfl); (case hr => exact vz); (case hp => exact (Reps.none _ _)); intro v244 w52 ho53 hb hg_ hnew_; clear hg_ hnew_; (first | rw [<- Ny243.out] at ho53 | (simp only [Int.reduceToNat] at ho53; rw [<- Ny243.out] at ho53)); replace HO242 := qz HO242 hb; have HO245 := am (Kd.R_lower ho53 (below_size (bz1 HB.out GE197.out))); replace BK197 := kb BK197 hb; replace HB := bs (bz1 HB.out GE197.out) hb; clear hb ho53))
       go_ret2
       exact ⟨_, _, gz, by refine rq ?_; exact HO242.out, by refine rq ?_; exact HO245.out, (bz1 HB.out GE197.out)⟩
end Go.Proofs.YtdjamdnjkdllgaaGreatDoor.PFnExactRenameOne
