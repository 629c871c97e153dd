/- PFnExactUnifiedx7, of the words and walks that the law FnExactUnified needs; made by this session's program out of printed texts. -/

import Derived.Test.YtlhofeikcaejpaaDoorVEUnifiedPx0
namespace Go.Proofs.YtlhofeikcaejpaaDoor.PFnExactUnified
open Go.RowKit Go.Proofs.YtlhofeikcaejpaaDoorW.PrintWords Go.Proofs.YtlhofeikcaejpaaDoorW.PrintLast Go.Proofs.YtlhofeikcaejpaaDoorW.PrintMore
attribute [local go_sem] max2_int min2_int max_two min_two max_three min_three max_four min_four
set_option linter.unusedVariables false
set_option linter.unusedSimpArgs false
def spec_l1In.f (a0 : Int) (a1 : Int) (a2 : Int) : Option (Bool) := if a0 ≥ a1 then (some (decide (a0 <= a2))) else (some false)
set_option maxHeartbeats 8000000 in
set_option maxRecDepth 100000 in
theorem spec_l1In.calls (a0 : Int) (a1 : Int) (a2 : Int) (r : Bool) (w : World) (h : spec_l1In.f a0 a1 a2 = some r) :
  Calls Tryd.prog 44 #[.int .i64 a0, .int .i64 a1, .int .i64 a2] w fun e w' => e = .returned (.bool r) /\ Drawn0 w w' := by
 have H : (if a0 ≥ a1 then (some (decide (a0 <= a2))) else (some false)) = some r := h
 clear h
 by_cases c4 : a0 ≥ a1
 ·rw [if_pos c4] at H
  have c4b0 : decide (a1 <= a0) = true := decide_eq_true c4
  clear c4
  obtain rfl := Option.some.inj H
  go_enter Tryd.func44, Tryd.ntmps44
  go_wp2
  go_ret
  exact ⟨e2z, dz⟩
 ·rw [if_neg c4] at H
  have c4b0 : decide (a1 <= a0) = false := decide_eq_false c4
  clear c4
  obtain rfl := Option.some.inj H
  go_enter Tryd.func44, Tryd.ntmps44
  go_wp2
  go_ret
  exact ⟨e2z, dz⟩
def spec_l8Kids.j0 : Nat -> Int -> Bool -> Int -> Int -> Int -> Option (List Int)
 | 0, _, _, _, _, _ => none
 | k + 1, x4, x13, x165000, x165001, x165002 => if x13 = true then (some (([x165001, x165002] : List Int))) else (if x4 = 4 then (some (([x165001] : List Int))) else (if x4 = 5 then (some (([x165001] : List Int))) else (some (([] : List Int)))))
def spec_l8Kids.f (k : Nat) (a0_0 : Int) (a0_1 : Int) (a0_2 : Int) : Option (List Int) := if a0_0 = 0 then (if a0_1 ≥ 0 then (some (([a0_1] : List Int))) else (some (([] : List Int)))) else (if a0_0 = 2 then (spec_l8Kids.j0 k a0_0 (a0_0 == 2) a0_0 a0_1 a0_2) else (spec_l8Kids.j0 k a0_0 (a0_0 == 3) a0_0 a0_1 a0_2))
theorem spec_l8Kids.mono_l : ∀ k, (∀ y0 y1 y2 y3 y4, LeO (spec_l8Kids.j0 k y0 y1 y2 y3 y4) (spec_l8Kids.j0 (k + 1) y0 y1 y2 y3 y4))
 | 0 => fun _ _ _ _ _ r h => by simp [spec_l8Kids.j0] at h
 | k + 1 => by
  have ih0 := spec_l8Kids.mono_l k
  ·intro y0 y1 y2 y3 y4
   unfold spec_l8Kids.j0
   with_reducible repeat' first | exact ih0 _ _ _ _ _ | exact lrz _ | exact lnz _ | refine liz ?_ ?_ | refine lbz ?_ fun _ => ?_
theorem spec_l8Kids.mono : ∀ a0 a1 a2 k, LeO (spec_l8Kids.f k a0 a1 a2) (spec_l8Kids.f (k + 1) a0 a1 a2) := by
 intro a0 a1 a2 k
 have ih0 := spec_l8Kids.mono_l k
 unfold spec_l8Kids.f
 with_reducible repeat' first | exact ih0 _ _ _ _ _ | exact lrz _ | exact lnz _ | refine liz ?_ ?_ | refine lbz ?_ fun _ => ?_
set_option maxHeartbeats 8000000 in
set_option maxRecDepth 100000 in
theorem spec_l8Kids.calls (k : Nat) (a0_0 : Int) (a0_1 : Int) (a0_2 : Int) (r : List Int) (w : World) (h : spec_l8Kids.f k a0_0 a0_1 a0_2 = some r) :
  Calls Tryd.prog 56 #[.agg #[.int .i64 a0_0, .int .i64 a0_1, .int .i64 a0_2]] w fun e w' => ∃ v0_ : Value, e = .returned (v0_) /\ Kd.R (Kd.int .i64) 3 w' w.heap.size (fun _ => True) v0_ r /\ Below w.heap.size w w' := by
 have hu55 := Tryd.underlying55
 have HB := Aside0.mk (Below.refl w.heap.size w)
 have H : (if a0_0 = 0 then (if a0_1 ≥ 0 then (some (([a0_1] : List Int))) else (some (([] : List Int)))) else (if a0_0 = 2 then (spec_l8Kids.j0 k a0_0 (a0_0 == 2) a0_0 a0_1 a0_2) else (spec_l8Kids.j0 k a0_0 (a0_0 == 3) a0_0 a0_1 a0_2))) = some r := h
 clear h
 by_cases c2 : a0_0 = 0
 ·rw [if_pos c2] at H
  have c2b0 : (a0_0 == 0) = true := beq_iff_eq.mpr c2
  have c2b1 : (a0_0 != 0) = false := bne_eq_false_iff_eq.mpr c2
  clear c2
  by_cases c3 : a0_1 ≥ 0
  ·rw [if_pos c3] at H
   have c3b0 : decide (0 <= a0_1) = true := decide_eq_true c3
   clear c3
   obtain ⟨y165, hy165⟩ : ∃ y_ : List Int, y_ = (([a0_1] : List Int)) := ⟨_, rfl⟩
   replace H : (some y165) = some r := yz hy165 H
   have Ny165 := Aside0.mk hy165
   clear hy165
   obtain rfl := Option.some.inj H
   go_enter Tryd.func56, Tryd.ntmps56
   go_wp2_with (first | ((with_reducible refine gate_dst (N := 1) rfl ?_); refine box_event ?hg (N := 1) ?hd (cs := #[.int .i64 a0_0, .int .i64 a0_1, .int .i64 a0_2]) (t := 55) ?hr ?_; (case hd => rfl); (case hg => rfl); (case hr => exact vz); intro gb164 hg w4 hbox hb; have BK164 := Aside0.mk (hbox); have GW164 := Aside0.mk ((by rw [hg]; exact (below_size (bz0 HB.out)) : w.heap.size <= gb164)); have GE164 := GW164; replace HB := Aside0.mk (below_step (bz0 HB.out) hb); clear hb hbox hg; obtain ⟨hcz5_0, hcz5_1, hcz5_2⟩ := cz3 BK164.out; obtain ⟨hfz5_0, hfz5_1, hfz5_2⟩ := fz3 BK164.out) | ((with_reducible refine gate_dst (N := 12) rfl ?_); refine Kd.R_lit (Kd.int .i64) _ 3 ?hg (N := 12) ?hd (xs := ([a0_1] : List Int)) (inner := [.int .i64 a0_1]) (ok := fun _ => True) (okp := fun _ => True) ?hr ?hp (fun _ hk => hk) trivial (Below.refl _ _) (Nat.le_refl _) (by simp) ?_; (case hd => rfl); (case hg => rfl); (case hr => exact vz); (case hp => exact (Reps.one (show Kd.M (Kd.int .i64) _ _ _ a0_1 [.int .i64 a0_1] from rfl) (Reps.none _ _))); intro v166 w6 ho7 hb hg_ hnew_; clear hg_ hnew_; (first | rw [<- Ny165.out] at ho7 | (simp only [Int.reduceToNat] at ho7; rw [<- Ny165.out] at ho7)); have HO167 := Aside0.mk (Kd.R_lower ho7 (below_size (bz1 HB.out GE164.out))); replace BK164 := Aside0.mk (blk_below (kz BK164.out) hb); replace HB := Aside0.mk (below_step (bz1 HB.out GE164.out) hb); clear hb ho7))
   go_ret
   exact ⟨_, gz, by refine rq ?_; exact HO167.out, (bz1 HB.out GE164.out)⟩
  ·rw [if_neg c3] at H
   have c3b0 : decide (0 <= a0_1) = false := decide_eq_false c3
   clear c3
   obtain ⟨y168, hy168⟩ : ∃ y_ : List Int, y_ = (([] : List Int)) := ⟨_, rfl⟩
   replace H : (some y168) = some r := yz hy168 H
   have Ny168 := Aside0.mk hy168
   clear hy168
   obtain rfl := Option.some.inj H
   go_enter Tryd.func56, Tryd.ntmps56
   go_wp2_with (first | ((with_reducible refine gate_dst (N := 1) rfl ?_); refine box_event ?hg (N := 1) ?hd (cs := #[.int .i64 a0_0, .int .i64 a0_1, .int .i64 a0_2]) (t := 55) ?hr ?_; (case hd => rfl); (case hg => rfl); (case hr => exact vz); intro gb164 hg w8 hbox hb; have BK164 := Aside0.mk (hbox); have GW164 := Aside0.mk ((by rw [hg]; exact (below_size (bz0 HB.out)) : w.heap.size <= gb164)); have GE164 := GW164; replace HB := Aside0.mk (below_step (bz0 HB.out) hb); clear hb hbox hg; obtain ⟨hcz9_0, hcz9_1, hcz9_2⟩ := cz3 BK164.out; obtain ⟨hfz9_0, hfz9_1, hfz9_2⟩ := fz3 BK164.out) | ((with_reducible refine gate_dst (N := 27) rfl ?_); refine Kd.R_lit (Kd.int .i64) _ 3 ?hg (N := 27) ?hd (xs := ([] : List Int)) (inner := []) (ok := fun _ => True) (okp := fun _ => True) ?hr ?hp (fun _ hk => hk) trivial (Below.refl _ _) (Nat.le_refl _) (by simp) ?_; (case hd => rfl); (case hg => rfl); (case hr => exact vz); (case hp => exact (Reps.none _ _)); intro v169 w10 ho11 hb hg_ hnew_; clear hg_ hnew_; (first | rw [<- Ny168.out] at ho11 | (simp only [Int.reduceToNat] at ho11; rw [<- Ny168.out] at ho11)); have HO170 := Aside0.mk (Kd.R_lower ho11 (below_size (bz1 HB.out GE164.out))); replace BK164 := Aside0.mk (blk_below (kz BK164.out) hb); replace HB := Aside0.mk (below_step (bz1 HB.out GE164.out) hb); clear hb ho11))
   go_ret
   exact ⟨_, gz, by refine rq ?_; exact HO170.out, (bz1 HB.out GE164.out)⟩
 ·rw [if_neg c2] at H
  have c2b0 : (a0_0 == 0) = false := beq_eq_false_iff_ne.mpr c2
  have c2b1 : (a0_0 != 0) = true := bne_iff_ne.mpr c2
  have HC12 := Aside0.mk H
  clear H
  go_enter Tryd.func56, Tryd.ntmps56
  go_upto_if 13 with (first | ((with_reducible refine gate_dst (N := 1) rfl ?_); refine box_event ?hg (N := 1) ?hd (cs := #[.int .i64 a0_0, .int .i64 a0_1, .int .i64 a0_2]) (t := 55) ?hr ?_; (case hd => rfl); (case hg => rfl); (case hr => exact vz); intro gb164 hg w13 hbox hb; have BK164 := Aside0.mk (hbox); have GW164 := Aside0.mk ((by rw [hg]; exact (below_size (bz0 HB.out)) : w.heap.size <= gb164)); have GE164 := GW164; replace HB := Aside0.mk (below_step (bz0 HB.out) hb); clear hb hbox hg; obtain ⟨hcz14_0, hcz14_1, hcz14_2⟩ := cz3 BK164.out; obtain ⟨hfz14_0, hfz14_1, hfz14_2⟩ := fz3 BK164.out))
  (try simp only [Act.put, sz1, sz2, sz3])
  go_cut [13] (fun v13 wc => ∃ (kq : Nat) (x13_11 : Bool), v13 = .bool x13_11 /\ Aside0 (spec_l8Kids.j0 kq a0_0 x13_11 a0_0 a0_1 a0_2 = some r) /\ Aside0 (kq <= k) /\ Aside0 (wc.heap[gb164]? = some (.cells #[.int .i64 a0_0, .int .i64 a0_1, .int .i64 a0_2] 55 (0, 0))) /\ Aside0 (Below w.heap.size w wc))
  case first =>
   have H := HC12.out
   clear HC12
   by_cases c15 : a0_0 = 2
   ·rw [if_pos c15] at H
    have c15b0 : (a0_0 == 2) = true := beq_iff_eq.mpr c15
    have c15b1 : (a0_0 != 2) = false := bne_eq_false_iff_eq.mpr c15
    clear c15
    (first | rw [c15b0] | (simp only [i64_w, i32_w]; rw [c15b0]) | skip)
    have H' := Aside0.mk H
    clear H
    go_wp2
    go_meet
    case rel => exact ⟨_, ((a0_0 == 2)), ez, H', ⟨by first | omega | exact Nat.le_refl _⟩, ⟨by refine kq ?_; exact BK164.out⟩, ⟨(bz1 HB.out GE164.out)⟩⟩
   ·rw [if_neg c15] at H
    have c15b0 : (a0_0 == 2) = false := beq_eq_false_iff_ne.mpr c15
    have c15b1 : (a0_0 != 2) = true := bne_iff_ne.mpr c15
    (first | rw [c15b0] | (simp only [i64_w, i32_w]; rw [c15b0]) | skip)
    have H' := Aside0.mk H
    clear H
    go_wp2
    go_meet
    case rel => exact ⟨_, ((a0_0 == 3)), ez, H', ⟨by first | omega | exact Nat.le_refl _⟩, ⟨by refine kq ?_; exact BK164.out⟩, ⟨(bz1 HB.out GE164.out)⟩⟩
  case rest =>
   clear HC12
   try clear c1
   try clear c2
   try clear c2b0
   try clear c2b1
   try clear p2
   try clear c3
   try clear c3b0
   try clear c5
   try clear c15
   try clear c15b0
   try clear c15b1
   try clear hcz14_0 hcz14_1 hcz14_2
   try clear hcz5_0 hcz5_1 hcz5_2
   try clear hcz9_0 hcz9_1 hcz9_2
   try clear hfz14_0 hfz14_1 hfz14_2
   try clear hfz5_0 hfz5_1 hfz5_2
   try clear hfz9_0 hfz9_1 hfz9_2
   obtain ⟨kq, x13_11, rfl, HA, HJ11, BK164, HB⟩ := hcut
   cases kq with
   | zero => exact absurd HA.out (by simp [spec_l8Kids.j0])
   | succ kj11 =>
    have H := HA.out
    clear HA
    simp only [spec_l8Kids.j0] at H
    by_cases c16 : x13_11 = true
    ·subst c16
     have H1 := hp H
     clear H
     have H := H1
     clear H1
     obtain ⟨y171, hy171⟩ : ∃ y_ : List Int, y_ = (([a0_1, a0_2] : List Int)) := ⟨_, rfl⟩
     replace H : (some y171) = some r := yz hy171 H
     have Ny171 := Aside0.mk hy171
     clear hy171
     obtain rfl := Option.some.inj H
     obtain ⟨hcz17_0, hcz17_1, hcz17_2⟩ := cz3 BK164.out
     obtain ⟨hfz17_0, hfz17_1, hfz17_2⟩ := fz3 BK164.out
     go_wp2_with (first | ((with_reducible refine gate_dst (N := 20) rfl ?_); refine Kd.R_lit (Kd.int .i64) _ 3 ?hg (N := 20) ?hd (xs := ([a0_1, a0_2] : List Int)) (inner := [.int .i64 a0_1, .int .i64 a0_2]) (ok := fun _ => True) (okp := fun _ => True) ?hr ?hp (fun _ hk => hk) trivial (Below.refl _ _) (Nat.le_refl _) (by simp) ?_; (case hd => rfl); (case hg => rfl); (case hr => exact vz); (case hp => exact (Reps.one (show Kd.M (Kd.int .i64) _ _ _ a0_1 [.int .i64 a0_1] from rfl) (Reps.one (show Kd.M (Kd.int .i64) _ _ _ a0_2 [.int .i64 a0_2] from rfl) (Reps.none _ _)))); intro v172 w18 ho19 hb hg_ hnew_; clear hg_ hnew_; (first | rw [<- Ny171.out] at ho19 | (simp only [Int.reduceToNat] at ho19; rw [<- Ny171.out] at ho19)); have HO173 := Aside0.mk (Kd.R_lower ho19 (below_size (bz1 HB.out GE164.out))); replace BK164 := Aside0.mk (blk_below (kz BK164.out) hb); replace HB := Aside0.mk (below_step (bz1 HB.out GE164.out) hb); clear hb ho19))
     go_ret
     exact ⟨_, gz, by refine rq ?_; exact HO173.out, (bz1 HB.out GE164.out)⟩
    ·replace c16 := Bool.eq_false_iff.mpr c16
     subst c16
     have H1 := hq H
     clear H
     have H := H1
     clear H1
     by_cases c20 : a0_0 = 4
     ·rw [if_pos c20] at H
      have c20b0 : (a0_0 == 4) = true := beq_iff_eq.mpr c20
      have c20b1 : (a0_0 != 4) = false := bne_eq_false_iff_eq.mpr c20
      clear c20
      obtain ⟨y174, hy174⟩ : ∃ y_ : List Int, y_ = (([a0_1] : List Int)) := ⟨_, rfl⟩
      replace H : (some y174) = some r := yz hy174 H
      have Ny174 := Aside0.mk hy174
      clear hy174
      obtain rfl := Option.some.inj H
      obtain ⟨hcz21_0, hcz21_1, hcz21_2⟩ := cz3 BK164.out
      obtain ⟨hfz21_0, hfz21_1, hfz21_2⟩ := fz3 BK164.out
      go_wp2_with (first | ((with_reducible refine gate_dst (N := 26) rfl ?_); refine Kd.R_lit (Kd.int .i64) _ 3 ?hg (N := 26) ?hd (xs := ([a0_1] : List Int)) (inner := [.int .i64 a0_1]) (ok := fun _ => True) (okp := fun _ => True) ?hr ?hp (fun _ hk => hk) trivial (Below.refl _ _) (Nat.le_refl _) (by simp) ?_; (case hd => rfl); (case hg => rfl); (case hr => exact vz); (case hp => exact (Reps.one (show Kd.M (Kd.int .i64) _ _ _ a0_1 [.int .i64 a0_1] from rfl) (Reps.none _ _))); intro v175 w22 ho23 hb hg_ hnew_; clear hg_ hnew_; (first | rw [<- Ny174.out] at ho23 | (simp only [Int.reduceToNat] at ho23; rw [<- Ny174.out] at ho23)); have HO176 := Aside0.mk (Kd.R_lower ho23 (below_size (bz1 HB.out GE164.out))); replace BK164 := Aside0.mk (blk_below (kz BK164.out) hb); replace HB := Aside0.mk (below_step (bz1 HB.out GE164.out) hb); clear hb ho23))
      go_ret
      exact ⟨_, gz, by refine rq ?_; exact HO176.out, (bz1 HB.out GE164.out)⟩
     ·rw [if_neg c20] at H
      have c20b0 : (a0_0 == 4) = false := beq_eq_false_iff_ne.mpr c20
      have c20b1 : (a0_0 != 4) = true := bne_iff_ne.mpr c20
      by_cases c24 : a0_0 = 5
      ·rw [if_pos c24] at H
       have c24b0 : (a0_0 == 5) = true := beq_iff_eq.mpr c24
       have c24b1 : (a0_0 != 5) = false := bne_eq_false_iff_eq.mpr c24
       clear c24
       obtain ⟨y177, hy177⟩ : ∃ y_ : List Int, y_ = (([a0_1] : List Int)) := ⟨_, rfl⟩
       replace H : (some y177) = some r := yz hy177 H
       have Ny177 := Aside0.mk hy177
       clear hy177
       obtain rfl := Option.some.inj H
       obtain ⟨hcz25_0, hcz25_1, hcz25_2⟩ := cz3 BK164.out
       obtain ⟨hfz25_0, hfz25_1, hfz25_2⟩ := fz3 BK164.out
       go_wp2_with (first | ((with_reducible refine gate_dst (N := 26) rfl ?_); refine Kd.R_lit (Kd.int .i64) _ 3 ?hg (N := 26) ?hd (xs := ([a0_1] : List Int)) (inner := [.int .i64 a0_1]) (ok := fun _ => True) (okp := fun _ => True) ?hr ?hp (fun _ hk => hk) trivial (Below.refl _ _) (Nat.le_refl _) (by simp) ?_; (case hd => rfl); (case hg => rfl); (case hr => exact vz); (case hp => exact (Reps.one (show Kd.M (Kd.int .i64) _ _ _ a0_1 [.int .i64 a0_1] from rfl) (Reps.none _ _))); intro v178 w26 ho27 hb hg_ hnew_; clear hg_ hnew_; (first | rw [<- Ny177.out] at ho27 | (simp only [Int.reduceToNat] at ho27; rw [<- Ny177.out] at ho27)); have HO179 := Aside0.mk (Kd.R_lower ho27 (below_size (bz1 HB.out GE164.out))); replace BK164 := Aside0.mk (blk_below (kz BK164.out) hb); replace HB := Aside0.mk (below_step (bz1 HB.out GE164.out) hb); clear hb ho27))
       go_ret
       exact ⟨_, gz, by refine rq ?_; exact HO179.out, (bz1 HB.out GE164.out)⟩
      ·rw [if_neg c24] at H
       have c24b0 : (a0_0 == 5) = false := beq_eq_false_iff_ne.mpr c24
       have c24b1 : (a0_0 != 5) = true := bne_iff_ne.mpr c24
       obtain ⟨y180, hy180⟩ : ∃ y_ : List Int, y_ = (([] : List Int)) := ⟨_, rfl⟩
       replace H : (some y180) = some r := yz hy180 H
       have Ny180 := Aside0.mk hy180
       clear hy180
       obtain rfl := Option.some.inj H
       go_wp2_with (first | ((with_reducible refine gate_dst (N := 27) rfl ?_); refine Kd.R_lit (Kd.int .i64) _ 3 ?hg (N := 27) ?hd (xs := ([] : List Int)) (inner := []) (ok := fun _ => True) (okp := fun _ => True) ?hr ?hp (fun _ hk => hk) trivial (Below.refl _ _) (Nat.le_refl _) (by simp) ?_; (case hd => rfl); (case hg => rfl); (case hr => exact vz); (case hp => exact (Reps.none _ _)); intro v181 w28 ho29 hb hg_ hnew_; clear hg_ hnew_; (first | rw [<- Ny180.out] at ho29 | (simp only [Int.reduceToNat] at ho29; rw [<- Ny180.out] at ho29)); have HO182 := Aside0.mk (Kd.R_lower ho29 (below_size (bz1 HB.out GE164.out))); replace BK164 := Aside0.mk (blk_below (kz BK164.out) hb); replace HB := Aside0.mk (below_step (bz1 HB.out GE164.out) hb); clear hb ho29))
       go_ret
       exact ⟨_, gz, by refine rq ?_; exact HO182.out, (bz1 HB.out GE164.out)⟩
end Go.Proofs.YtlhofeikcaejpaaDoor.PFnExactUnified
