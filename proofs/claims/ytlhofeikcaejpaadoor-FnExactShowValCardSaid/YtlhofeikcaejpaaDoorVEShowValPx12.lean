/- PFnExactShowValx12, of the words and walks that the law FnExactShowVal needs; made by this session's program out of printed texts. -/

import Derived.Test.YtlhofeikcaejpaaDoorVEShowValPx0
import Derived.Test.YtlhofeikcaejpaaDoorVEShowValPx3
import Derived.Test.YtlhofeikcaejpaaDoorVEShowValPx4
import Derived.Test.YtlhofeikcaejpaaDoorVEShowValPx8
import Derived.Test.YtlhofeikcaejpaaDoorVEShowValPx11
namespace Go.Proofs.YtlhofeikcaejpaaDoor.PFnExactShowVal
open Go.RowKit Go.Proofs.YtlhofeikcaejpaaDoorW.PrintWords Go.Proofs.YtlhofeikcaejpaaDoorW.PrintLast Go.Proofs.YtlhofeikcaejpaaDoorW.PrintMore
attribute [local go_sem] max2_int min2_int max_two min_two max_three min_three max_four min_four
set_option linter.unusedVariables false
set_option linter.unusedSimpArgs false
def laws_FnExactShowVal.f (k : Nat) (l0_0 : List (S130)) (l0_1 : List (S132)) (l0_2 : List (S135)) (l0_3 : List (S71)) (a1_0 : Int) (a1_1 : Int) (a2 : Int) : Option (Bool) := (laws_szHeap.f l0_0 l0_1 l0_2 l0_3 1048576).bind fun t276 => (if t276 < 0 then (some true) else ((laws_toHeap.f k l0_0 l0_1 l0_2 l0_3).bind fun bt277 => ((laws_toVal.f a1_0 a1_1).bind fun bt289 => ((spec_ShowVal.f k bt277.1 bt277.2.1 bt277.2.2.1 bt277.2.2.2 bt289.1 bt289.2 a2).bind fun t291 => ((laws_toHeap.f k l0_0 l0_1 l0_2 l0_3).bind fun bt292 => ((laws_toVal.f a1_0 a1_1).bind fun bt305 => ((impl_ShowVal.f k bt292.1 bt292.2.1 bt292.2.2.1 bt292.2.2.2 bt305.1 bt305.2 a2).bind fun t307 => (if t307.toList = t291.toList then ((laws_toHeap.f k l0_0 l0_1 l0_2 l0_3).bind fun bt308 => ((laws_eqHeap.f k bt292.1 bt292.2.1 bt292.2.2.1 bt292.2.2.2 bt308.1 bt308.2.1 bt308.2.2.1 bt308.2.2.2).bind fun t320 => (if t320 = true then (some true) else (some false)))) else (some false)))))))))
theorem laws_FnExactShowVal.mono : ∀ a0 a1 a2 a3 a4 a5 a6 k, LeO (laws_FnExactShowVal.f k a0 a1 a2 a3 a4 a5 a6) (laws_FnExactShowVal.f (k + 1) a0 a1 a2 a3 a4 a5 a6) := by
 intro a0 a1 a2 a3 a4 a5 a6 k
 unfold laws_FnExactShowVal.f
 with_reducible repeat' first | exact impl_ShowVal.mono _ _ _ _ _ _ _ _ | exact laws_eqHeap.mono _ _ _ _ _ _ _ _ _ | exact laws_toHeap.mono _ _ _ _ _ | exact spec_ShowVal.mono _ _ _ _ _ _ _ _ | exact lrz _ | exact lnz _ | refine liz ?_ ?_ | refine lbz ?_ fun _ => ?_
set_option maxHeartbeats 8000000 in
set_option maxRecDepth 100000 in
theorem laws_FnExactShowVal.calls (k : Nat) (A0_0 : Option Addr) (c0_0 : Nat) (l0_0 : List (S130)) (A0_1 : Option Addr) (c0_1 : Nat) (l0_1 : List (S132)) (A0_2 : Option Addr) (c0_2 : Nat) (l0_2 : List (S135)) (A0_3 : Option Addr) (c0_3 : Nat) (l0_3 : List (S71)) (a1_0 : Int) (a1_1 : Int) (a2 : Int) (r : Bool) (w : World) (hr0_0 : Kd.C k130 w A0_0 l0_0.length l0_0) (hc0_0 : l0_0.length <= c0_0) (hr0_1 : Kd.C k132 w A0_1 l0_1.length l0_1) (hc0_1 : l0_1.length <= c0_1) (hr0_2 : Kd.C k135 w A0_2 l0_2.length l0_2) (hc0_2 : l0_2.length <= c0_2) (hr0_3 : Kd.C k71 w A0_3 l0_3.length l0_3) (hc0_3 : l0_3.length <= c0_3) (h : laws_FnExactShowVal.f k l0_0 l0_1 l0_2 l0_3 a1_0 a1_1 a2 = some r) (hT_ : PW w) :
  Calls Tryd.prog 7 #[.agg #[.slice A0_0 l0_0.length c0_0, .slice A0_1 l0_1.length c0_1, .slice A0_2 l0_2.length c0_2, .slice A0_3 l0_3.length c0_3], .agg #[.int .i64 a1_0, .int .i64 a1_1], .int .i64 a2] w fun e w' => e = .returned (.bool r) /\ Below w.heap.size w w' := by
 have hu70 := Tryd.underlying70
 have hu71 := Tryd.underlying71
 have hu29 := Tryd.underlying29
 have HR0_0 := Aside0.mk hr0_0
 have HC0_0 := Aside0.mk hc0_0
 clear hr0_0 hc0_0
 have HR0_1 := Aside0.mk hr0_1
 have HC0_1 := Aside0.mk hc0_1
 clear hr0_1 hc0_1
 have HR0_2 := Aside0.mk hr0_2
 have HC0_2 := Aside0.mk hc0_2
 clear hr0_2 hc0_2
 have HR0_3 := Aside0.mk hr0_3
 have HC0_3 := Aside0.mk hc0_3
 clear hr0_3 hc0_3
 have HB := Aside0.mk (Below.refl w.heap.size w)
 have H : ((laws_szHeap.f l0_0 l0_1 l0_2 l0_3 1048576).bind fun t276 => (if t276 < 0 then (some true) else ((laws_toHeap.f k l0_0 l0_1 l0_2 l0_3).bind fun bt277 => ((laws_toVal.f a1_0 a1_1).bind fun bt289 => ((spec_ShowVal.f k bt277.1 bt277.2.1 bt277.2.2.1 bt277.2.2.2 bt289.1 bt289.2 a2).bind fun t291 => ((laws_toHeap.f k l0_0 l0_1 l0_2 l0_3).bind fun bt292 => ((laws_toVal.f a1_0 a1_1).bind fun bt305 => ((impl_ShowVal.f k bt292.1 bt292.2.1 bt292.2.2.1 bt292.2.2.2 bt305.1 bt305.2 a2).bind fun t307 => (if t307.toList = t291.toList then ((laws_toHeap.f k l0_0 l0_1 l0_2 l0_3).bind fun bt308 => ((laws_eqHeap.f k bt292.1 bt292.2.1 bt292.2.2.1 bt292.2.2.2 bt308.1 bt308.2.1 bt308.2.2.1 bt308.2.2.2).bind fun t320 => (if t320 = true then (some true) else (some false)))) else (some false)))))))))) = some r := h
 clear h
 replace H := bi H
 obtain ⟨t276, A40, H⟩ := H
 try dsimp only at H
 have A4 := Aside0.mk A40
 clear A40
 by_cases c5 : t276 < 0
 ·rw [if_pos c5] at H
  have c5b0 := decide_eq_true c5
  clear c5
  obtain rfl := Option.some.inj H
  go_enter Tryd.func7, Tryd.ntmps7
  go_wp2_with (first | ((with_reducible refine gate_dst (N := 3) rfl ?_); refine box_event ?hg (N := 3) ?hd (cs := #[.slice A0_0 l0_0.length c0_0, .slice A0_1 l0_1.length c0_1, .slice A0_2 l0_2.length c0_2, .slice A0_3 l0_3.length c0_3]) (t := 70) ?hr ?_; (case hd => rfl); (case hg => rfl); (case hr => exact vz); intro gb274 hg w6 hbox hb; have BK274 := Aside0.mk (hbox); have GW274 := Aside0.mk ((by rw [hg]; exact (below_size (bz0 HB.out)) : w.heap.size <= gb274)); have GE274 := Aside0.mk ((by rw [hg]; exact (below_size (bz0 HB.out)) : w.heap.size <= gb274)); replace HB := Aside0.mk (below_step (bz0 HB.out) hb); clear hb hbox hg) | ((with_reducible refine gate_dst (N := 4) rfl ?_); refine box_event ?hg (N := 4) ?hd (cs := #[.int .i64 a1_0, .int .i64 a1_1]) (t := 71) ?hr ?_; (case hd => rfl); (case hg => rfl); (case hr => exact vz); intro gb275 hg w7 hbox hb; have BK275 := Aside0.mk (hbox); have GW275 := Aside0.mk ((by rw [hg]; exact (below_size (bz1 HB.out GE274.out)) : w.heap.size <= gb275)); have GE275 := Aside0.mk ((by rw [hg]; exact (below_size (bz1 HB.out GE274.out)) : w.heap.size <= gb275)); replace HB := Aside0.mk (below_step (bz1 HB.out GE274.out) hb); have NB274_275 := Aside0.mk ((by rw [hg]; exact Nat.ne_of_lt (blk_lt (g := gb274) (o := .cells #[.slice A0_0 l0_0.length c0_0, .slice A0_1 l0_1.length c0_1, .slice A0_2 l0_2.length c0_2, .slice A0_3 l0_3.length c0_3] 70 (0, 0)) (kz BK274.out)) : gb274 ≠ gb275)); have NB275_274 := Aside0.mk ((by rw [hg]; exact Nat.ne_of_gt (blk_lt (g := gb274) (o := .cells #[.slice A0_0 l0_0.length c0_0, .slice A0_1 l0_1.length c0_1, .slice A0_2 l0_2.length c0_2, .slice A0_3 l0_3.length c0_3] 70 (0, 0)) (kz BK274.out)) : gb275 ≠ gb274)); replace BK274 := Aside0.mk (blk_below (kz BK274.out) hb); clear hb hbox hg; have hnb8 := NB274_275.out; have hnc8 := NB275_274.out; obtain ⟨hcz9_0, hcz9_1, hcz9_2, hcz9_3⟩ := cz4 BK274.out; obtain ⟨hfz9_0, hfz9_1, hfz9_2, hfz9_3⟩ := fz4 BK274.out) | ((with_reducible refine gate_callee (f := 31) rfl ?_); refine goesL_ (some 13) rfl rfl Tryd.func31 (by kernel_rfl) rfl #[.agg #[.slice A0_0 l0_0.length c0_0, .slice A0_1 l0_1.length c0_1, .slice A0_2 l0_2.length c0_2, .slice A0_3 l0_3.length c0_3], .int .i64 1048576] rfl lz ?_; (with_reducible refine (laws_szHeap.calls _ _ l0_0 _ _ l0_1 _ _ l0_2 _ _ l0_3 1048576 t276 _ ?side1 ?side2 ?side3 ?side4 ?side5 ?side6 ?side7 ?side8 A4.out).mono ?_); (case side1 => exact cz (Kd.C_below HR0_0.out HB.out)); (case side2 => exact HC0_0.out); (case side3 => exact cz (Kd.C_below HR0_1.out HB.out)); (case side4 => exact HC0_1.out); (case side5 => exact cz (Kd.C_below HR0_2.out HB.out)); (case side6 => exact HC0_2.out); (case side7 => exact cz (Kd.C_below HR0_3.out HB.out)); (case side8 => exact HC0_3.out); rintro e w10 ⟨rfl, hb⟩; refine ⟨_, rfl, ?_⟩; replace BK274 := Aside0.mk (blk_below (kz BK274.out) hb); replace BK275 := Aside0.mk (blk_below (kz BK275.out) hb); replace HB := Aside0.mk (below_step (bz2 HB.out GE274.out GE275.out) hb); (try clear hb); (try clear hi)))
  go_ret
  exact ⟨gz, (bz2 HB.out GE274.out GE275.out)⟩
 ·rw [if_neg c5] at H
  have c5b0 := decide_eq_false c5
  clear c5
  replace H := bi H
  obtain ⟨⟨t277, t280, t283, t286⟩, A110, H⟩ := H
  try dsimp only at H
  have A11 := Aside0.mk A110
  clear A110
  replace H := bi H
  obtain ⟨⟨t289, t290⟩, A120, H⟩ := H
  try dsimp only at H
  have A12 := Aside0.mk A120
  clear A120
  replace H := bi H
  obtain ⟨t291, A130, H⟩ := H
  try dsimp only at H
  have A13 := Aside0.mk A130
  clear A130
  replace H := bi H
  obtain ⟨⟨t292, t295, t298, t301⟩, A140, H⟩ := H
  try dsimp only at H
  have A14 := Aside0.mk A140
  clear A140
  replace H := bi H
  obtain ⟨⟨t305, t306⟩, A150, H⟩ := H
  try dsimp only at H
  have A15 := Aside0.mk A150
  clear A150
  replace H := bi H
  obtain ⟨t307, A160, H⟩ := H
  try dsimp only at H
  have A16 := Aside0.mk A160
  clear A160
  by_cases c17 : t307.toList = t291.toList
  ·rw [if_pos c17] at H
   have c17b0 : (t307.toList == t291.toList) = true := beq_iff_eq.mpr c17
   have c17b1 : (t307.toList != t291.toList) = false := bne_eq_false_iff_eq.mpr c17
   clear c17
   replace H := bi H
   obtain ⟨⟨t308, t311, t314, t317⟩, A180, H⟩ := H
   try dsimp only at H
   have A18 := Aside0.mk A180
   clear A180
   replace H := bi H
   obtain ⟨t320, A190, H⟩ := H
   try dsimp only at H
   have A19 := Aside0.mk A190
   clear A190
   by_cases c20 : t320 = true
   ·subst c20
    have H1 := hp H
    clear H
    have H := H1
    clear H1
    obtain rfl := Option.some.inj H
    go_enter Tryd.func7, Tryd.ntmps7
    try go_wp2_with (first | ((with_reducible refine gate_dst (N := 3) rfl ?_); refine box_event ?hg (N := 3) ?hd (cs := #[.slice A0_0 l0_0.length c0_0, .slice A0_1 l0_1.length c0_1, .slice A0_2 l0_2.length c0_2, .slice A0_3 l0_3.length c0_3]) (t := 70) ?hr ?_; (case hd => rfl); (case hg => rfl); (case hr => exact vz); intro gb274 hg w21 hbox hb; have BK274 := Aside0.mk (hbox); have GW274 := Aside0.mk ((by rw [hg]; exact (below_size (bz0 HB.out)) : w.heap.size <= gb274)); have GE274 := Aside0.mk ((by rw [hg]; exact (below_size (bz0 HB.out)) : w.heap.size <= gb274)); replace HB := Aside0.mk (below_step (bz0 HB.out) hb); clear hb hbox hg) | ((with_reducible refine gate_dst (N := 4) rfl ?_); refine box_event ?hg (N := 4) ?hd (cs := #[.int .i64 a1_0, .int .i64 a1_1]) (t := 71) ?hr ?_; (case hd => rfl); (case hg => rfl); (case hr => exact vz); intro gb275 hg w22 hbox hb; have BK275 := Aside0.mk (hbox); have GW275 := Aside0.mk ((by rw [hg]; exact (below_size (bz1 HB.out GE274.out)) : w.heap.size <= gb275)); have GE275 := Aside0.mk ((by rw [hg]; exact (below_size (bz1 HB.out GE274.out)) : w.heap.size <= gb275)); replace HB := Aside0.mk (below_step (bz1 HB.out GE274.out) hb); have NB274_275 := Aside0.mk ((by rw [hg]; exact Nat.ne_of_lt (blk_lt (g := gb274) (o := .cells #[.slice A0_0 l0_0.length c0_0, .slice A0_1 l0_1.length c0_1, .slice A0_2 l0_2.length c0_2, .slice A0_3 l0_3.length c0_3] 70 (0, 0)) (kz BK274.out)) : gb274 ≠ gb275)); have NB275_274 := Aside0.mk ((by rw [hg]; exact Nat.ne_of_gt (blk_lt (g := gb274) (o := .cells #[.slice A0_0 l0_0.length c0_0, .slice A0_1 l0_1.length c0_1, .slice A0_2 l0_2.length c0_2, .slice A0_3 l0_3.length c0_3] 70 (0, 0)) (kz BK274.out)) : gb275 ≠ gb274)); replace BK274 := Aside0.mk (blk_below (kz BK274.out) hb); clear hb hbox hg; have hnb23 := NB274_275.out; have hnc23 := NB275_274.out; obtain ⟨hcz24_0, hcz24_1, hcz24_2, hcz24_3⟩ := cz4 BK274.out; obtain ⟨hfz24_0, hfz24_1, hfz24_2, hfz24_3⟩ := fz4 BK274.out) | ((with_reducible refine gate_callee (f := 31) rfl ?_); refine goesL_ (some 13) rfl rfl Tryd.func31 (by kernel_rfl) rfl #[.agg #[.slice A0_0 l0_0.length c0_0, .slice A0_1 l0_1.length c0_1, .slice A0_2 l0_2.length c0_2, .slice A0_3 l0_3.length c0_3], .int .i64 1048576] rfl lz ?_; (with_reducible refine (laws_szHeap.calls _ _ l0_0 _ _ l0_1 _ _ l0_2 _ _ l0_3 1048576 t276 _ ?side1 ?side2 ?side3 ?side4 ?side5 ?side6 ?side7 ?side8 A4.out).mono ?_); (case side1 => exact cz (Kd.C_below HR0_0.out HB.out)); (case side2 => exact HC0_0.out); (case side3 => exact cz (Kd.C_below HR0_1.out HB.out)); (case side4 => exact HC0_1.out); (case side5 => exact cz (Kd.C_below HR0_2.out HB.out)); (case side6 => exact HC0_2.out); (case side7 => exact cz (Kd.C_below HR0_3.out HB.out)); (case side8 => exact HC0_3.out); rintro e w25 ⟨rfl, hb⟩; refine ⟨_, rfl, ?_⟩; replace BK274 := Aside0.mk (blk_below (kz BK274.out) hb); replace BK275 := Aside0.mk (blk_below (kz BK275.out) hb); replace HB := Aside0.mk (below_step (bz2 HB.out GE274.out GE275.out) hb); (try clear hb); (try clear hi)))
    have n0_ := Aside0.mk (blk_drew BK274.out)
    have n1_ := Aside0.mk (blk_drew BK275.out)
    have n2_ := Aside0.mk (below_drew1 HB.out)
    clear BK274
    clear BK275
    clear HB
    have BK274 := n0_
    have BK275 := n1_
    have HB := n2_
    clear n0_ n1_ n2_
    refine start_ (n := 7) (S := fun w' => w'.cell? ⟨gb274, 0, none⟩ = some (.slice A0_0 l0_0.length c0_0) /\ w'.cell? ⟨gb274, 1, none⟩ = some (.slice A0_1 l0_1.length c0_1) /\ w'.cell? ⟨gb274, 2, none⟩ = some (.slice A0_2 l0_2.length c0_2) /\ w'.cell? ⟨gb274, 3, none⟩ = some (.slice A0_3 l0_3.length c0_3) /\ w'.cell? ⟨gb275, 0, none⟩ = some (.int .i64 a1_0) /\ w'.cell? ⟨gb275, 1, none⟩ = some (.int .i64 a1_1)) (ds := []) #[ff, ff, ff, ff, ff, ff, ff] (by kernel_rfl) rfl rfl ⟨(blk_cell BK274.out 0).trans rfl, (blk_cell BK274.out 1).trans rfl, (blk_cell BK274.out 2).trans rfl, (blk_cell BK274.out 3).trans rfl, (blk_cell BK275.out 0).trans rfl, (blk_cell BK275.out 1).trans rfl⟩ (fun hHeld => ?_)
    generalize w25.drew = w26 at BK274 BK275 HB hHeld ⊢
    refine pure_ (i := 4) (N := some 20) (v := ?_) (a' := ?_) #[ff, ff, ff, ff, tt, ff, ff] rfl rfl (by kernel_rfl) (fun _ _ _ h => h) (Or.inl ⟨by rfl, ?_⟩) ?_ ?_
    rotate_left
    ·intro w'
     go_simp
     with_reducible rfl
    rotate_left
    ·simp only [Act.put, sz1, sz2, sz3, i64_w, i32_w]
     rfl
    refine take_ (i := 0) (N := some 16) (v := ?_) (a' := ?_) #[tt, ff, ff, ff, tt, ff, ff] rfl rfl (by kernel_rfl) (fun _ _ _ h => h) (Or.inl ⟨by rfl, ?_⟩) hHeld ?_ ?_
    rotate_left
    ·rintro w' ⟨s0, s1, s2, s3, s4, s5⟩
     go_simp
     with_reducible rfl
    rotate_left
    ·simp only [Act.put, sz1, sz2, sz3, i64_w, i32_w]
     rfl
    refine take_ (i := 2) (N := some 18) (v := ?_) (a' := ?_) #[tt, ff, tt, ff, tt, ff, ff] rfl rfl (by kernel_rfl) (fun _ _ _ h => h) (Or.inl ⟨by rfl, ?_⟩) hHeld ?_ ?_
    rotate_left
    ·rintro w' ⟨s0, s1, s2, s3, s4, s5⟩
     go_simp
     with_reducible rfl
    rotate_left
    ·simp only [Act.put, sz1, sz2, sz3, i64_w, i32_w]
     rfl
    refine one_ (i := 1) (N := some 17) #[tt, tt, tt, ff, tt, ff, ff] rfl rfl (by kernel_rfl) (by decide) (fun K hK => ?_)
    refine goes_ Tryd.func33 (by kernel_rfl) rfl #[.agg #[.slice A0_0 l0_0.length c0_0, .slice A0_1 l0_1.length c0_1, .slice A0_2 l0_2.length c0_2, .slice A0_3 l0_3.length c0_3]] (by rfl) rfl rfl lz ?_
    with_reducible refine (laws_toHeap.calls k _ _ l0_0 _ _ l0_1 _ _ l0_2 _ _ l0_3 t277 t280 t283 t286 _ ?side1 ?side2 ?side3 ?side4 ?side5 ?side6 ?side7 ?side8 A11.out).mono ?_
    (case side1 => exact cz (Kd.C_below HR0_0.out HB.out))
    (case side2 => exact HC0_0.out)
    (case side3 => exact cz (Kd.C_below HR0_1.out HB.out))
    (case side4 => exact HC0_1.out)
    (case side5 => exact cz (Kd.C_below HR0_2.out HB.out))
    (case side6 => exact HC0_2.out)
    (case side7 => exact cz (Kd.C_below HR0_3.out HB.out))
    (case side8 => exact HC0_3.out)
    rintro e w27 ⟨v278, v281, v284, v287, rfl, ho0, ho1, ho2, ho3, hb⟩
    refine ⟨_, rfl, ?_⟩
    have n0_ := Aside0.mk (Kd.R_lower ho0 (below_size (bz2 HB.out GE274.out GE275.out)))
    have n1_ := Aside0.mk (Kd.R_lower ho1 (below_size (bz2 HB.out GE274.out GE275.out)))
    have n2_ := Aside0.mk (Kd.R_lower ho2 (below_size (bz2 HB.out GE274.out GE275.out)))
    have n3_ := Aside0.mk (Kd.R_lower ho3 (below_size (bz2 HB.out GE274.out GE275.out)))
    have n4_ := Aside0.mk (blk_below (kz BK274.out) hb)
    have n5_ := Aside0.mk (blk_below (kz BK275.out) hb)
    have n6_ := Aside0.mk (below_step (bz2 HB.out GE274.out GE275.out) hb)
    clear BK274
    clear BK275
    clear HB
    have HO279 := n0_
    have HO282 := n1_
    have HO285 := n2_
    have HO288 := n3_
    have BK274 := n4_
    have BK275 := n5_
    have HB := n6_
    clear n0_ n1_ n2_ n3_ n4_ n5_ n6_
    (try clear hb)
    (try clear hb2)
    (try clear hk)
    (try clear hi)
    (try clear ho0)
    (try clear ho1)
    (try clear ho2)
    (try clear ho3)
    refine hK.out _ _ ⟨(blk_cell BK274.out 0).trans rfl, (blk_cell BK274.out 1).trans rfl, (blk_cell BK274.out 2).trans rfl, (blk_cell BK274.out 3).trans rfl, (blk_cell BK275.out 0).trans rfl, (blk_cell BK275.out 1).trans rfl⟩ (fun hHeld => ?_)
    clear hK K
    refine norm_ (a' := ?_) ?_ ?_
    rotate_left
    ·show Act.put _ (some 17) _ = _
     simp only [Act.put, sz1, sz2, sz3, i64_w, i32_w]
     rfl
    refine one_ (i := 3) (N := some 19) #[tt, tt, tt, tt, tt, ff, ff] rfl rfl (by kernel_rfl) (by decide) (fun K hK => ?_)
    refine goes_ Tryd.func34 (by kernel_rfl) rfl #[.agg #[.int .i64 a1_0, .int .i64 a1_1]] (by rfl) rfl rfl lz ?_
    with_reducible refine (laws_toVal.calls a1_0 a1_1 t289 t290 _ A12.out).mono ?_
    rintro e w28 ⟨rfl, hb⟩
    refine ⟨_, rfl, ?_⟩
    have n0_ := qz HO279 hb
    have n1_ := qz HO282 hb
    have n2_ := qz HO285 hb
    have n3_ := qz HO288 hb
    have n4_ := Aside0.mk (blk_below (kz BK274.out) hb)
    have n5_ := Aside0.mk (blk_below (kz BK275.out) hb)
    have n6_ := Aside0.mk (below_step (bz2 HB.out GE274.out GE275.out) hb)
    clear HO279
    clear HO282
    clear HO285
    clear HO288
    clear BK274
    clear BK275
    clear HB
    have HO279 := n0_
    have HO282 := n1_
    have HO285 := n2_
    have HO288 := n3_
    have BK274 := n4_
    have BK275 := n5_
    have HB := n6_
    clear n0_ n1_ n2_ n3_ n4_ n5_ n6_
    (try clear hb)
    (try clear hb2)
    (try clear hk)
    (try clear hi)
    obtain ⟨Ao29, co29, eo29⟩ := Kd.R_slice HO279.out
    (first | subst eo29 | (injection eo29 with f1_ f2_ f3_; have f4_ := f1_.symm; have f5_ := f3_.symm; clear f1_ f2_ f3_; subst f4_; subst f5_))
    obtain ⟨Ao30, co30, eo30⟩ := Kd.R_slice HO282.out
    (first | subst eo30 | (injection eo30 with f1_ f2_ f3_; have f4_ := f1_.symm; have f5_ := f3_.symm; clear f1_ f2_ f3_; subst f4_; subst f5_))
    obtain ⟨Ao31, co31, eo31⟩ := Kd.R_slice HO285.out
    (first | subst eo31 | (injection eo31 with f1_ f2_ f3_; have f4_ := f1_.symm; have f5_ := f3_.symm; clear f1_ f2_ f3_; subst f4_; subst f5_))
    obtain ⟨Ao32, co32, eo32⟩ := Kd.R_slice HO288.out
    (first | subst eo32 | (injection eo32 with f1_ f2_ f3_; have f4_ := f1_.symm; have f5_ := f3_.symm; clear f1_ f2_ f3_; subst f4_; subst f5_))
    refine hK.out _ _ ⟨(blk_cell BK274.out 0).trans rfl, (blk_cell BK274.out 1).trans rfl, (blk_cell BK274.out 2).trans rfl, (blk_cell BK274.out 3).trans rfl, (blk_cell BK275.out 0).trans rfl, (blk_cell BK275.out 1).trans rfl⟩ (fun hHeld => ?_)
    clear hK K
    refine norm_ (a' := ?_) ?_ ?_
    rotate_left
    ·show Act.put _ (some 19) _ = _
     simp only [Act.put, sz1, sz2, sz3, i64_w, i32_w]
     rfl
    refine one_ (i := 5) (N := some 21) #[tt, tt, tt, tt, tt, tt, ff] rfl rfl (by kernel_rfl) (by decide) (fun K hK => ?_)
    refine goes_ Tryd.func32 (by kernel_rfl) rfl #[.agg #[.slice Ao29 t277.length co29, .slice Ao30 t280.length co30, .slice Ao31 t283.length co31, .slice Ao32 t286.length co32], .agg #[.int .i64 t289, .int .i64 t290], .int .i64 a2] (by rfl) rfl rfl lz ?_
    with_reducible refine (spec_ShowVal.calls k _ _ t277 _ _ t280 _ _ t283 _ _ t286 t289 t290 a2 t291 _ ?side1 ?side2 ?side3 ?side4 ?side5 ?side6 ?side7 ?side8 A13.out).mono ?_
    (case side1 => exact cz (Kd.R_reads' HO279.out).2.2)
    (case side2 => exact (Kd.R_reads' HO279.out).2.1)
    (case side3 => exact cz (Kd.R_reads' HO282.out).2.2)
    (case side4 => exact (Kd.R_reads' HO282.out).2.1)
    (case side5 => exact cz (Kd.R_reads' HO285.out).2.2)
    (case side6 => exact (Kd.R_reads' HO285.out).2.1)
    (case side7 => exact cz (Kd.R_reads' HO288.out).2.2)
    (case side8 => exact (Kd.R_reads' HO288.out).2.1)
    rintro e w33 ⟨rfl, hb⟩
    refine ⟨_, rfl, ?_⟩
    have n0_ := qz HO279 hb
    have n1_ := qz HO282 hb
    have n2_ := qz HO285 hb
    have n3_ := qz HO288 hb
    have n4_ := Aside0.mk (blk_below (kz BK274.out) hb)
    have n5_ := Aside0.mk (blk_below (kz BK275.out) hb)
    have n6_ := Aside0.mk (below_step (bz2 HB.out GE274.out GE275.out) hb)
    clear HO279
    clear HO282
    clear HO285
    clear HO288
    clear BK274
    clear BK275
    clear HB
    have HO279 := n0_
    have HO282 := n1_
    have HO285 := n2_
    have HO288 := n3_
    have BK274 := n4_
    have BK275 := n5_
    have HB := n6_
    clear n0_ n1_ n2_ n3_ n4_ n5_ n6_
    (try clear hb)
    (try clear hb2)
    (try clear hk)
    (try clear hi)
    refine hK.out _ _ ⟨(blk_cell BK274.out 0).trans rfl, (blk_cell BK274.out 1).trans rfl, (blk_cell BK274.out 2).trans rfl, (blk_cell BK274.out 3).trans rfl, (blk_cell BK275.out 0).trans rfl, (blk_cell BK275.out 1).trans rfl⟩ (fun hHeld => ?_)
    clear hK K
    refine norm_ (a' := ?_) ?_ ?_
    rotate_left
    ·show Act.put _ (some 21) _ = _
     simp only [Act.put, sz1, sz2, sz3, i64_w, i32_w]
     rfl
    refine pure_ (i := 6) (N := some 8) (v := ?_) (a' := ?_) #[tt, tt, tt, tt, tt, tt, tt] rfl rfl (by kernel_rfl) (fun _ _ _ h => h) (Or.inl ⟨by rfl, ?_⟩) ?_ ?_
    rotate_left
    ·intro w'
     go_simp
     with_reducible rfl
    rotate_left
    ·simp only [Act.put, sz1, sz2, sz3, i64_w, i32_w]
     rfl
    refine done_ (by kernel_rfl) ?_
    obtain ⟨hcz34_0, hcz34_1, hcz34_2, hcz34_3⟩ := cz4 BK274.out
    obtain ⟨hfz34_0, hfz34_1, hfz34_2, hfz34_3⟩ := fz4 BK274.out
    try go_wp2_with (first | ((with_reducible refine gate_callee (f := 33) rfl ?_); refine goesL_ (some 23) rfl rfl Tryd.func33 (by kernel_rfl) rfl #[.agg #[.slice A0_0 l0_0.length c0_0, .slice A0_1 l0_1.length c0_1, .slice A0_2 l0_2.length c0_2, .slice A0_3 l0_3.length c0_3]] rfl lz ?_; (with_reducible refine (laws_toHeap.calls k _ _ l0_0 _ _ l0_1 _ _ l0_2 _ _ l0_3 t292 t295 t298 t301 _ ?side1 ?side2 ?side3 ?side4 ?side5 ?side6 ?side7 ?side8 A14.out).mono ?_); (case side1 => exact cz (Kd.C_below HR0_0.out HB.out)); (case side2 => exact HC0_0.out); (case side3 => exact cz (Kd.C_below HR0_1.out HB.out)); (case side4 => exact HC0_1.out); (case side5 => exact cz (Kd.C_below HR0_2.out HB.out)); (case side6 => exact HC0_2.out); (case side7 => exact cz (Kd.C_below HR0_3.out HB.out)); (case side8 => exact HC0_3.out); rintro e w35 ⟨v293, v296, v299, v302, rfl, ho0, ho1, ho2, ho3, hb⟩; refine ⟨_, rfl, ?_⟩; have HO294 := Aside0.mk (Kd.R_lower (Kd.R_new' ho0 (Kd.R_lt (rz HO279.out))) (below_size (bz2 HB.out GE274.out GE275.out))); replace HO279 := Aside0.mk (Kd.R_elder' (rz HO279.out) (Kd.R_base ho0) hb); have HO297 := Aside0.mk (Kd.R_lower (Kd.R_new' ho1 (Kd.R_lt (rz HO282.out))) (below_size (bz2 HB.out GE274.out GE275.out))); replace HO282 := Aside0.mk (Kd.R_elder' (rz HO282.out) (Kd.R_base ho1) hb); have HO300 := Aside0.mk (Kd.R_lower (Kd.R_new' ho2 (Kd.R_lt (rz HO285.out))) (below_size (bz2 HB.out GE274.out GE275.out))); replace HO285 := Aside0.mk (Kd.R_elder' (rz HO285.out) (Kd.R_base ho2) hb); have HO303 := Aside0.mk (Kd.R_lower (Kd.R_new' ho3 (Kd.R_lt (rz HO288.out))) (below_size (bz2 HB.out GE274.out GE275.out))); replace HO288 := Aside0.mk (Kd.R_elder' (rz HO288.out) (Kd.R_base ho3) hb); replace BK274 := Aside0.mk (blk_below (kz BK274.out) hb); replace BK275 := Aside0.mk (blk_below (kz BK275.out) hb); replace HB := Aside0.mk (below_step (bz2 HB.out GE274.out GE275.out) hb); (try clear hb); (try clear ho0); (try clear ho1); (try clear ho2); (try clear ho3)) | ((with_reducible refine gate_dst (N := 9) rfl ?_); refine box_event ?hg (N := 9) ?hd (cs := #[.slice none 0 0, .slice none 0 0, .slice none 0 0, .slice none 0 0]) (t := 29) ?hr ?_; (case hd => rfl); (case hg => rfl); (case hr => exact vz); intro gb304 hg w36 hbox hb; replace HO279 := qz HO279 hb; replace HO282 := qz HO282 hb; replace HO285 := qz HO285 hb; replace HO288 := qz HO288 hb; replace HO294 := qz HO294 hb; replace HO297 := qz HO297 hb; replace HO300 := qz HO300 hb; replace HO303 := qz HO303 hb; have BK304 := Aside0.mk (hbox); have GW304 := Aside0.mk ((by rw [hg]; exact (below_size (bz2 HB.out GE274.out GE275.out)) : w.heap.size <= gb304)); have GE304 := Aside0.mk ((by rw [hg]; exact (below_size (bz2 HB.out GE274.out GE275.out)) : w.heap.size <= gb304)); replace HB := Aside0.mk (below_step (bz2 HB.out GE274.out GE275.out) hb); have NB274_304 := Aside0.mk ((by rw [hg]; exact Nat.ne_of_lt (blk_lt (g := gb274) (o := .cells #[.slice A0_0 l0_0.length c0_0, .slice A0_1 l0_1.length c0_1, .slice A0_2 l0_2.length c0_2, .slice A0_3 l0_3.length c0_3] 70 (0, 0)) (kz BK274.out)) : gb274 ≠ gb304)); have NB304_274 := Aside0.mk ((by rw [hg]; exact Nat.ne_of_gt (blk_lt (g := gb274) (o := .cells #[.slice A0_0 l0_0.length c0_0, .slice A0_1 l0_1.length c0_1, .slice A0_2 l0_2.length c0_2, .slice A0_3 l0_3.length c0_3] 70 (0, 0)) (kz BK274.out)) : gb304 ≠ gb274)); replace BK274 := Aside0.mk (blk_below (kz BK274.out) hb); have NB275_304 := Aside0.mk ((by rw [hg]; exact Nat.ne_of_lt (blk_lt (g := gb275) (o := .cells #[.int .i64 a1_0, .int .i64 a1_1] 71 (0, 0)) (kz BK275.out)) : gb275 ≠ gb304)); have NB304_275 := Aside0.mk ((by rw [hg]; exact Nat.ne_of_gt (blk_lt (g := gb275) (o := .cells #[.int .i64 a1_0, .int .i64 a1_1] 71 (0, 0)) (kz BK275.out)) : gb304 ≠ gb275)); replace BK275 := Aside0.mk (blk_below (kz BK275.out) hb); clear hb hbox hg; obtain ⟨Ao37, co37, eo37⟩ := Kd.R_slice HO294.out; subst eo37; have hnb38 := NB304_274.out; have hnc38 := NB274_304.out; have hnb39 := NB304_275.out; have hnc39 := NB275_304.out; obtain ⟨hcz40_0, hcz40_1, hcz40_2, hcz40_3⟩ := cz4 BK304.out; obtain ⟨hfz40_0, hfz40_1, hfz40_2, hfz40_3⟩ := fz4 BK304.out; obtain ⟨Ao41, co41, eo41⟩ := Kd.R_slice HO297.out; subst eo41; obtain ⟨Ao42, co42, eo42⟩ := Kd.R_slice HO300.out; subst eo42; obtain ⟨Ao43, co43, eo43⟩ := Kd.R_slice HO303.out; subst eo43))
    have n0_ : Aside0 (Kd.R k41 41 ((((w36.setCell ⟨gb304, 0, none⟩ (.slice Ao37 t292.length co37)).setCell ⟨gb304, 1, none⟩ (.slice Ao41 t295.length co41)).setCell ⟨gb304, 2, none⟩ (.slice Ao42 t298.length co42)).setCell ⟨gb304, 3, none⟩ (.slice Ao43 t301.length co43)) w.heap.size (fun k_ => some k_ ≠ (.slice Ao37 t292.length co37 : Value).ownBlock) (.slice Ao29 t277.length co29) t277) := ⟨by refine rq ?_; first | (with_reducible exact Kd.R_mono (Kd.R_far (p := ⟨gb304, 3, none⟩) (Kd.R_far (p := ⟨gb304, 2, none⟩) (Kd.R_far (p := ⟨gb304, 1, none⟩) (Kd.R_far (p := ⟨gb304, 0, none⟩) (Kd.R_types HO279.out BK304.out (by decide)) (fun _ hk => hk.2) (.slice Ao37 t292.length co37)) (fun _ hk => hk.2) (.slice Ao41 t295.length co41)) (fun _ hk => hk.2) (.slice Ao42 t298.length co42)) (fun _ hk => hk.2) (.slice Ao43 t301.length co43)) (fun _ hk => hk.1.2)) | (with_reducible exact Kd.R_mono (Kd.R_far (p := ⟨gb304, 3, none⟩) (Kd.R_drewN (Kd.R_far (p := ⟨gb304, 2, none⟩) (Kd.R_far (p := ⟨gb304, 1, none⟩) (Kd.R_far (p := ⟨gb304, 0, none⟩) (Kd.R_types HO279.out BK304.out (by decide)) (fun _ hk => hk.2) (.slice Ao37 t292.length co37)) (fun _ hk => hk.2) (.slice Ao41 t295.length co41)) (fun _ hk => hk.2) (.slice Ao42 t298.length co42)) _) (fun _ hk => hk.2) (.slice Ao43 t301.length co43)) (fun _ hk => hk.1.2)) | exact Kd.R_mono (Kd.R_far (p := ⟨gb304, 3, none⟩) (Kd.R_drewN (Kd.R_far (p := ⟨gb304, 2, none⟩) (Kd.R_far (p := ⟨gb304, 1, none⟩) (Kd.R_far (p := ⟨gb304, 0, none⟩) (Kd.R_types HO279.out BK304.out (by decide)) (fun _ hk => hk.2) (.slice Ao37 t292.length co37)) (fun _ hk => hk.2) (.slice Ao41 t295.length co41)) (fun _ hk => hk.2) (.slice Ao42 t298.length co42)) _) (fun _ hk => hk.2) (.slice Ao43 t301.length co43)) (fun _ hk => hk.1.2)⟩
    have n1_ : Aside0 (Kd.R k86 86 ((((w36.setCell ⟨gb304, 0, none⟩ (.slice Ao37 t292.length co37)).setCell ⟨gb304, 1, none⟩ (.slice Ao41 t295.length co41)).setCell ⟨gb304, 2, none⟩ (.slice Ao42 t298.length co42)).setCell ⟨gb304, 3, none⟩ (.slice Ao43 t301.length co43)) w.heap.size (fun k_ => some k_ ≠ (.slice Ao41 t295.length co41 : Value).ownBlock) (.slice Ao30 t280.length co30) t280) := ⟨by refine rq ?_; first | (with_reducible exact Kd.R_mono (Kd.R_far (p := ⟨gb304, 3, none⟩) (Kd.R_far (p := ⟨gb304, 2, none⟩) (Kd.R_far (p := ⟨gb304, 1, none⟩) (Kd.R_far (p := ⟨gb304, 0, none⟩) (Kd.R_types HO282.out BK304.out (by decide)) (fun _ hk => hk.2) (.slice Ao37 t292.length co37)) (fun _ hk => hk.2) (.slice Ao41 t295.length co41)) (fun _ hk => hk.2) (.slice Ao42 t298.length co42)) (fun _ hk => hk.2) (.slice Ao43 t301.length co43)) (fun _ hk => hk.1.2)) | (with_reducible exact Kd.R_mono (Kd.R_far (p := ⟨gb304, 3, none⟩) (Kd.R_drewN (Kd.R_far (p := ⟨gb304, 2, none⟩) (Kd.R_far (p := ⟨gb304, 1, none⟩) (Kd.R_far (p := ⟨gb304, 0, none⟩) (Kd.R_types HO282.out BK304.out (by decide)) (fun _ hk => hk.2) (.slice Ao37 t292.length co37)) (fun _ hk => hk.2) (.slice Ao41 t295.length co41)) (fun _ hk => hk.2) (.slice Ao42 t298.length co42)) _) (fun _ hk => hk.2) (.slice Ao43 t301.length co43)) (fun _ hk => hk.1.2)) | exact Kd.R_mono (Kd.R_far (p := ⟨gb304, 3, none⟩) (Kd.R_drewN (Kd.R_far (p := ⟨gb304, 2, none⟩) (Kd.R_far (p := ⟨gb304, 1, none⟩) (Kd.R_far (p := ⟨gb304, 0, none⟩) (Kd.R_types HO282.out BK304.out (by decide)) (fun _ hk => hk.2) (.slice Ao37 t292.length co37)) (fun _ hk => hk.2) (.slice Ao41 t295.length co41)) (fun _ hk => hk.2) (.slice Ao42 t298.length co42)) _) (fun _ hk => hk.2) (.slice Ao43 t301.length co43)) (fun _ hk => hk.1.2)⟩
    have n2_ : Aside0 (Kd.R k47 47 ((((w36.setCell ⟨gb304, 0, none⟩ (.slice Ao37 t292.length co37)).setCell ⟨gb304, 1, none⟩ (.slice Ao41 t295.length co41)).setCell ⟨gb304, 2, none⟩ (.slice Ao42 t298.length co42)).setCell ⟨gb304, 3, none⟩ (.slice Ao43 t301.length co43)) w.heap.size (fun k_ => some k_ ≠ (.slice Ao42 t298.length co42 : Value).ownBlock) (.slice Ao31 t283.length co31) t283) := ⟨by refine rq ?_; first | (with_reducible exact Kd.R_mono (Kd.R_far (p := ⟨gb304, 3, none⟩) (Kd.R_far (p := ⟨gb304, 2, none⟩) (Kd.R_far (p := ⟨gb304, 1, none⟩) (Kd.R_far (p := ⟨gb304, 0, none⟩) (Kd.R_types HO285.out BK304.out (by decide)) (fun _ hk => hk.2) (.slice Ao37 t292.length co37)) (fun _ hk => hk.2) (.slice Ao41 t295.length co41)) (fun _ hk => hk.2) (.slice Ao42 t298.length co42)) (fun _ hk => hk.2) (.slice Ao43 t301.length co43)) (fun _ hk => hk.1.2)) | (with_reducible exact Kd.R_mono (Kd.R_far (p := ⟨gb304, 3, none⟩) (Kd.R_drewN (Kd.R_far (p := ⟨gb304, 2, none⟩) (Kd.R_far (p := ⟨gb304, 1, none⟩) (Kd.R_far (p := ⟨gb304, 0, none⟩) (Kd.R_types HO285.out BK304.out (by decide)) (fun _ hk => hk.2) (.slice Ao37 t292.length co37)) (fun _ hk => hk.2) (.slice Ao41 t295.length co41)) (fun _ hk => hk.2) (.slice Ao42 t298.length co42)) _) (fun _ hk => hk.2) (.slice Ao43 t301.length co43)) (fun _ hk => hk.1.2)) | exact Kd.R_mono (Kd.R_far (p := ⟨gb304, 3, none⟩) (Kd.R_drewN (Kd.R_far (p := ⟨gb304, 2, none⟩) (Kd.R_far (p := ⟨gb304, 1, none⟩) (Kd.R_far (p := ⟨gb304, 0, none⟩) (Kd.R_types HO285.out BK304.out (by decide)) (fun _ hk => hk.2) (.slice Ao37 t292.length co37)) (fun _ hk => hk.2) (.slice Ao41 t295.length co41)) (fun _ hk => hk.2) (.slice Ao42 t298.length co42)) _) (fun _ hk => hk.2) (.slice Ao43 t301.length co43)) (fun _ hk => hk.1.2)⟩
    have n3_ : Aside0 (Kd.R k35 35 ((((w36.setCell ⟨gb304, 0, none⟩ (.slice Ao37 t292.length co37)).setCell ⟨gb304, 1, none⟩ (.slice Ao41 t295.length co41)).setCell ⟨gb304, 2, none⟩ (.slice Ao42 t298.length co42)).setCell ⟨gb304, 3, none⟩ (.slice Ao43 t301.length co43)) w.heap.size (fun k_ => some k_ ≠ (.slice Ao43 t301.length co43 : Value).ownBlock) (.slice Ao32 t286.length co32) t286) := ⟨by refine rq ?_; first | (with_reducible exact Kd.R_mono (Kd.R_far (p := ⟨gb304, 3, none⟩) (Kd.R_far (p := ⟨gb304, 2, none⟩) (Kd.R_far (p := ⟨gb304, 1, none⟩) (Kd.R_far (p := ⟨gb304, 0, none⟩) (Kd.R_types HO288.out BK304.out (by decide)) (fun _ hk => hk.2) (.slice Ao37 t292.length co37)) (fun _ hk => hk.2) (.slice Ao41 t295.length co41)) (fun _ hk => hk.2) (.slice Ao42 t298.length co42)) (fun _ hk => hk.2) (.slice Ao43 t301.length co43)) (fun _ hk => hk.1.2)) | (with_reducible exact Kd.R_mono (Kd.R_far (p := ⟨gb304, 3, none⟩) (Kd.R_drewN (Kd.R_far (p := ⟨gb304, 2, none⟩) (Kd.R_far (p := ⟨gb304, 1, none⟩) (Kd.R_far (p := ⟨gb304, 0, none⟩) (Kd.R_types HO288.out BK304.out (by decide)) (fun _ hk => hk.2) (.slice Ao37 t292.length co37)) (fun _ hk => hk.2) (.slice Ao41 t295.length co41)) (fun _ hk => hk.2) (.slice Ao42 t298.length co42)) _) (fun _ hk => hk.2) (.slice Ao43 t301.length co43)) (fun _ hk => hk.1.2)) | exact Kd.R_mono (Kd.R_far (p := ⟨gb304, 3, none⟩) (Kd.R_drewN (Kd.R_far (p := ⟨gb304, 2, none⟩) (Kd.R_far (p := ⟨gb304, 1, none⟩) (Kd.R_far (p := ⟨gb304, 0, none⟩) (Kd.R_types HO288.out BK304.out (by decide)) (fun _ hk => hk.2) (.slice Ao37 t292.length co37)) (fun _ hk => hk.2) (.slice Ao41 t295.length co41)) (fun _ hk => hk.2) (.slice Ao42 t298.length co42)) _) (fun _ hk => hk.2) (.slice Ao43 t301.length co43)) (fun _ hk => hk.1.2)⟩
    have n4_ : Aside0 (Kd.R k41 41 ((((w36.setCell ⟨gb304, 0, none⟩ (.slice Ao37 t292.length co37)).setCell ⟨gb304, 1, none⟩ (.slice Ao41 t295.length co41)).setCell ⟨gb304, 2, none⟩ (.slice Ao42 t298.length co42)).setCell ⟨gb304, 3, none⟩ (.slice Ao43 t301.length co43)) w.heap.size (fun k_ => some k_ ≠ (.slice Ao29 t277.length co29 : Value).ownBlock) (.slice Ao37 t292.length co37) t292) := ⟨by refine rq ?_; first | (with_reducible exact Kd.R_mono (Kd.R_far (p := ⟨gb304, 3, none⟩) (Kd.R_far (p := ⟨gb304, 2, none⟩) (Kd.R_far (p := ⟨gb304, 1, none⟩) (Kd.R_far (p := ⟨gb304, 0, none⟩) (Kd.R_types HO294.out BK304.out (by decide)) (fun _ hk => hk.2) (.slice Ao37 t292.length co37)) (fun _ hk => hk.2) (.slice Ao41 t295.length co41)) (fun _ hk => hk.2) (.slice Ao42 t298.length co42)) (fun _ hk => hk.2) (.slice Ao43 t301.length co43)) (fun _ hk => hk.1.2)) | (with_reducible exact Kd.R_mono (Kd.R_far (p := ⟨gb304, 3, none⟩) (Kd.R_drewN (Kd.R_far (p := ⟨gb304, 2, none⟩) (Kd.R_far (p := ⟨gb304, 1, none⟩) (Kd.R_far (p := ⟨gb304, 0, none⟩) (Kd.R_types HO294.out BK304.out (by decide)) (fun _ hk => hk.2) (.slice Ao37 t292.length co37)) (fun _ hk => hk.2) (.slice Ao41 t295.length co41)) (fun _ hk => hk.2) (.slice Ao42 t298.length co42)) _) (fun _ hk => hk.2) (.slice Ao43 t301.length co43)) (fun _ hk => hk.1.2)) | exact Kd.R_mono (Kd.R_far (p := ⟨gb304, 3, none⟩) (Kd.R_drewN (Kd.R_far (p := ⟨gb304, 2, none⟩) (Kd.R_far (p := ⟨gb304, 1, none⟩) (Kd.R_far (p := ⟨gb304, 0, none⟩) (Kd.R_types HO294.out BK304.out (by decide)) (fun _ hk => hk.2) (.slice Ao37 t292.length co37)) (fun _ hk => hk.2) (.slice Ao41 t295.length co41)) (fun _ hk => hk.2) (.slice Ao42 t298.length co42)) _) (fun _ hk => hk.2) (.slice Ao43 t301.length co43)) (fun _ hk => hk.1.2)⟩
    have n5_ : Aside0 (Kd.R k86 86 ((((w36.setCell ⟨gb304, 0, none⟩ (.slice Ao37 t292.length co37)).setCell ⟨gb304, 1, none⟩ (.slice Ao41 t295.length co41)).setCell ⟨gb304, 2, none⟩ (.slice Ao42 t298.length co42)).setCell ⟨gb304, 3, none⟩ (.slice Ao43 t301.length co43)) w.heap.size (fun k_ => some k_ ≠ (.slice Ao30 t280.length co30 : Value).ownBlock) (.slice Ao41 t295.length co41) t295) := ⟨by refine rq ?_; first | (with_reducible exact Kd.R_mono (Kd.R_far (p := ⟨gb304, 3, none⟩) (Kd.R_far (p := ⟨gb304, 2, none⟩) (Kd.R_far (p := ⟨gb304, 1, none⟩) (Kd.R_far (p := ⟨gb304, 0, none⟩) (Kd.R_types HO297.out BK304.out (by decide)) (fun _ hk => hk.2) (.slice Ao37 t292.length co37)) (fun _ hk => hk.2) (.slice Ao41 t295.length co41)) (fun _ hk => hk.2) (.slice Ao42 t298.length co42)) (fun _ hk => hk.2) (.slice Ao43 t301.length co43)) (fun _ hk => hk.1.2)) | (with_reducible exact Kd.R_mono (Kd.R_far (p := ⟨gb304, 3, none⟩) (Kd.R_drewN (Kd.R_far (p := ⟨gb304, 2, none⟩) (Kd.R_far (p := ⟨gb304, 1, none⟩) (Kd.R_far (p := ⟨gb304, 0, none⟩) (Kd.R_types HO297.out BK304.out (by decide)) (fun _ hk => hk.2) (.slice Ao37 t292.length co37)) (fun _ hk => hk.2) (.slice Ao41 t295.length co41)) (fun _ hk => hk.2) (.slice Ao42 t298.length co42)) _) (fun _ hk => hk.2) (.slice Ao43 t301.length co43)) (fun _ hk => hk.1.2)) | exact Kd.R_mono (Kd.R_far (p := ⟨gb304, 3, none⟩) (Kd.R_drewN (Kd.R_far (p := ⟨gb304, 2, none⟩) (Kd.R_far (p := ⟨gb304, 1, none⟩) (Kd.R_far (p := ⟨gb304, 0, none⟩) (Kd.R_types HO297.out BK304.out (by decide)) (fun _ hk => hk.2) (.slice Ao37 t292.length co37)) (fun _ hk => hk.2) (.slice Ao41 t295.length co41)) (fun _ hk => hk.2) (.slice Ao42 t298.length co42)) _) (fun _ hk => hk.2) (.slice Ao43 t301.length co43)) (fun _ hk => hk.1.2)⟩
    have n6_ : Aside0 (Kd.R k47 47 ((((w36.setCell ⟨gb304, 0, none⟩ (.slice Ao37 t292.length co37)).setCell ⟨gb304, 1, none⟩ (.slice Ao41 t295.length co41)).setCell ⟨gb304, 2, none⟩ (.slice Ao42 t298.length co42)).setCell ⟨gb304, 3, none⟩ (.slice Ao43 t301.length co43)) w.heap.size (fun k_ => some k_ ≠ (.slice Ao31 t283.length co31 : Value).ownBlock) (.slice Ao42 t298.length co42) t298) := ⟨by refine rq ?_; first | (with_reducible exact Kd.R_mono (Kd.R_far (p := ⟨gb304, 3, none⟩) (Kd.R_far (p := ⟨gb304, 2, none⟩) (Kd.R_far (p := ⟨gb304, 1, none⟩) (Kd.R_far (p := ⟨gb304, 0, none⟩) (Kd.R_types HO300.out BK304.out (by decide)) (fun _ hk => hk.2) (.slice Ao37 t292.length co37)) (fun _ hk => hk.2) (.slice Ao41 t295.length co41)) (fun _ hk => hk.2) (.slice Ao42 t298.length co42)) (fun _ hk => hk.2) (.slice Ao43 t301.length co43)) (fun _ hk => hk.1.2)) | (with_reducible exact Kd.R_mono (Kd.R_far (p := ⟨gb304, 3, none⟩) (Kd.R_drewN (Kd.R_far (p := ⟨gb304, 2, none⟩) (Kd.R_far (p := ⟨gb304, 1, none⟩) (Kd.R_far (p := ⟨gb304, 0, none⟩) (Kd.R_types HO300.out BK304.out (by decide)) (fun _ hk => hk.2) (.slice Ao37 t292.length co37)) (fun _ hk => hk.2) (.slice Ao41 t295.length co41)) (fun _ hk => hk.2) (.slice Ao42 t298.length co42)) _) (fun _ hk => hk.2) (.slice Ao43 t301.length co43)) (fun _ hk => hk.1.2)) | exact Kd.R_mono (Kd.R_far (p := ⟨gb304, 3, none⟩) (Kd.R_drewN (Kd.R_far (p := ⟨gb304, 2, none⟩) (Kd.R_far (p := ⟨gb304, 1, none⟩) (Kd.R_far (p := ⟨gb304, 0, none⟩) (Kd.R_types HO300.out BK304.out (by decide)) (fun _ hk => hk.2) (.slice Ao37 t292.length co37)) (fun _ hk => hk.2) (.slice Ao41 t295.length co41)) (fun _ hk => hk.2) (.slice Ao42 t298.length co42)) _) (fun _ hk => hk.2) (.slice Ao43 t301.length co43)) (fun _ hk => hk.1.2)⟩
    have n7_ : Aside0 (Kd.R k35 35 ((((w36.setCell ⟨gb304, 0, none⟩ (.slice Ao37 t292.length co37)).setCell ⟨gb304, 1, none⟩ (.slice Ao41 t295.length co41)).setCell ⟨gb304, 2, none⟩ (.slice Ao42 t298.length co42)).setCell ⟨gb304, 3, none⟩ (.slice Ao43 t301.length co43)) w.heap.size (fun k_ => some k_ ≠ (.slice Ao32 t286.length co32 : Value).ownBlock) (.slice Ao43 t301.length co43) t301) := ⟨by refine rq ?_; first | (with_reducible exact Kd.R_mono (Kd.R_far (p := ⟨gb304, 3, none⟩) (Kd.R_far (p := ⟨gb304, 2, none⟩) (Kd.R_far (p := ⟨gb304, 1, none⟩) (Kd.R_far (p := ⟨gb304, 0, none⟩) (Kd.R_types HO303.out BK304.out (by decide)) (fun _ hk => hk.2) (.slice Ao37 t292.length co37)) (fun _ hk => hk.2) (.slice Ao41 t295.length co41)) (fun _ hk => hk.2) (.slice Ao42 t298.length co42)) (fun _ hk => hk.2) (.slice Ao43 t301.length co43)) (fun _ hk => hk.1.2)) | (with_reducible exact Kd.R_mono (Kd.R_far (p := ⟨gb304, 3, none⟩) (Kd.R_drewN (Kd.R_far (p := ⟨gb304, 2, none⟩) (Kd.R_far (p := ⟨gb304, 1, none⟩) (Kd.R_far (p := ⟨gb304, 0, none⟩) (Kd.R_types HO303.out BK304.out (by decide)) (fun _ hk => hk.2) (.slice Ao37 t292.length co37)) (fun _ hk => hk.2) (.slice Ao41 t295.length co41)) (fun _ hk => hk.2) (.slice Ao42 t298.length co42)) _) (fun _ hk => hk.2) (.slice Ao43 t301.length co43)) (fun _ hk => hk.1.2)) | exact Kd.R_mono (Kd.R_far (p := ⟨gb304, 3, none⟩) (Kd.R_drewN (Kd.R_far (p := ⟨gb304, 2, none⟩) (Kd.R_far (p := ⟨gb304, 1, none⟩) (Kd.R_far (p := ⟨gb304, 0, none⟩) (Kd.R_types HO303.out BK304.out (by decide)) (fun _ hk => hk.2) (.slice Ao37 t292.length co37)) (fun _ hk => hk.2) (.slice Ao41 t295.length co41)) (fun _ hk => hk.2) (.slice Ao42 t298.length co42)) _) (fun _ hk => hk.2) (.slice Ao43 t301.length co43)) (fun _ hk => hk.1.2)⟩
    have n8_ : Aside0 (((((w36.setCell ⟨gb304, 0, none⟩ (.slice Ao37 t292.length co37)).setCell ⟨gb304, 1, none⟩ (.slice Ao41 t295.length co41)).setCell ⟨gb304, 2, none⟩ (.slice Ao42 t298.length co42)).setCell ⟨gb304, 3, none⟩ (.slice Ao43 t301.length co43)).heap[gb274]? = some (.cells #[.slice A0_0 l0_0.length c0_0, .slice A0_1 l0_1.length c0_1, .slice A0_2 l0_2.length c0_2, .slice A0_3 l0_3.length c0_3] 70 (0, 0))) := ⟨by refine kq ?_; refine blk_far ?_ NB274_304.out _; refine kq ?_; refine blk_far ?_ NB274_304.out _; refine kq ?_; refine blk_far ?_ NB274_304.out _; refine kq ?_; refine blk_far ?_ NB274_304.out _; refine kq ?_; exact BK274.out⟩
    have n9_ : Aside0 (((((w36.setCell ⟨gb304, 0, none⟩ (.slice Ao37 t292.length co37)).setCell ⟨gb304, 1, none⟩ (.slice Ao41 t295.length co41)).setCell ⟨gb304, 2, none⟩ (.slice Ao42 t298.length co42)).setCell ⟨gb304, 3, none⟩ (.slice Ao43 t301.length co43)).heap[gb275]? = some (.cells #[.int .i64 a1_0, .int .i64 a1_1] 71 (0, 0))) := ⟨by refine kq ?_; refine blk_far ?_ NB275_304.out _; refine kq ?_; refine blk_far ?_ NB275_304.out _; refine kq ?_; refine blk_far ?_ NB275_304.out _; refine kq ?_; refine blk_far ?_ NB275_304.out _; refine kq ?_; exact BK275.out⟩
    have n10_ : Aside0 (((((w36.setCell ⟨gb304, 0, none⟩ (.slice Ao37 t292.length co37)).setCell ⟨gb304, 1, none⟩ (.slice Ao41 t295.length co41)).setCell ⟨gb304, 2, none⟩ (.slice Ao42 t298.length co42)).setCell ⟨gb304, 3, none⟩ (.slice Ao43 t301.length co43)).heap[gb304]? = some (.cells #[.slice Ao37 t292.length co37, .slice Ao41 t295.length co41, .slice Ao42 t298.length co42, .slice Ao43 t301.length co43] 29 (0, 0))) := ⟨by refine kq ?_; refine blk_put (cs := #[.slice Ao37 t292.length co37, .slice Ao41 t295.length co41, .slice Ao42 t298.length co42, .slice none 0 0]) ?_ 3 _ rfl; refine kq ?_; refine blk_put (cs := #[.slice Ao37 t292.length co37, .slice Ao41 t295.length co41, .slice none 0 0, .slice none 0 0]) ?_ 2 _ rfl; refine kq ?_; refine blk_put (cs := #[.slice Ao37 t292.length co37, .slice none 0 0, .slice none 0 0, .slice none 0 0]) ?_ 1 _ rfl; refine kq ?_; refine blk_put (cs := #[.slice none 0 0, .slice none 0 0, .slice none 0 0, .slice none 0 0]) ?_ 0 _ rfl; refine kq ?_; exact BK304.out⟩
    have n11_ : Aside0 (Below w.heap.size w ((((w36.setCell ⟨gb304, 0, none⟩ (.slice Ao37 t292.length co37)).setCell ⟨gb304, 1, none⟩ (.slice Ao41 t295.length co41)).setCell ⟨gb304, 2, none⟩ (.slice Ao42 t298.length co42)).setCell ⟨gb304, 3, none⟩ (.slice Ao43 t301.length co43))) := ⟨(bz3 HB.out GE274.out GE275.out GE304.out)⟩
    (try clear HO279)
    (try clear HO282)
    (try clear HO285)
    (try clear HO288)
    (try clear HO294)
    (try clear HO297)
    (try clear HO300)
    (try clear HO303)
    (try clear BK274)
    (try clear BK275)
    (try clear BK304)
    (try clear HB)
    generalize ((((w36.setCell ⟨gb304, 0, none⟩ (.slice Ao37 t292.length co37)).setCell ⟨gb304, 1, none⟩ (.slice Ao41 t295.length co41)).setCell ⟨gb304, 2, none⟩ (.slice Ao42 t298.length co42)).setCell ⟨gb304, 3, none⟩ (.slice Ao43 t301.length co43)) = w44 at n0_ n1_ n2_ n3_ n4_ n5_ n6_ n7_ n8_ n9_ n10_ n11_ ⊢
    have HO279 := n0_
    have HO282 := n1_
    have HO285 := n2_
    have HO288 := n3_
    have HO294 := n4_
    have HO297 := n5_
    have HO300 := n6_
    have HO303 := n7_
    have BK274 := n8_
    have BK275 := n9_
    have BK304 := n10_
    have HB := n11_
    clear n0_ n1_ n2_ n3_ n4_ n5_ n6_ n7_ n8_ n9_ n10_ n11_
    have n0_ := Aside0.mk (Kd.R_drew HO279.out)
    have n1_ := Aside0.mk (Kd.R_drew HO282.out)
    have n2_ := Aside0.mk (Kd.R_drew HO285.out)
    have n3_ := Aside0.mk (Kd.R_drew HO288.out)
    have n4_ := Aside0.mk (Kd.R_drew HO294.out)
    have n5_ := Aside0.mk (Kd.R_drew HO297.out)
    have n6_ := Aside0.mk (Kd.R_drew HO300.out)
    have n7_ := Aside0.mk (Kd.R_drew HO303.out)
    have n8_ := Aside0.mk (blk_drew BK274.out)
    have n9_ := Aside0.mk (blk_drew BK275.out)
    have n10_ := Aside0.mk (blk_drew BK304.out)
    have n11_ := Aside0.mk (below_drew1 HB.out)
    clear HO279
    clear HO282
    clear HO285
    clear HO288
    clear HO294
    clear HO297
    clear HO300
    clear HO303
    clear BK274
    clear BK275
    clear BK304
    clear HB
    have HO279 := n0_
    have HO282 := n1_
    have HO285 := n2_
    have HO288 := n3_
    have HO294 := n4_
    have HO297 := n5_
    have HO300 := n6_
    have HO303 := n7_
    have BK274 := n8_
    have BK275 := n9_
    have BK304 := n10_
    have HB := n11_
    clear n0_ n1_ n2_ n3_ n4_ n5_ n6_ n7_ n8_ n9_ n10_ n11_
    refine start_ (n := 6) (S := fun w' => w'.cell? ⟨gb304, 0, none⟩ = some (.slice Ao37 t292.length co37) /\ w'.cell? ⟨gb304, 1, none⟩ = some (.slice Ao41 t295.length co41) /\ w'.cell? ⟨gb304, 2, none⟩ = some (.slice Ao42 t298.length co42) /\ w'.cell? ⟨gb304, 3, none⟩ = some (.slice Ao43 t301.length co43) /\ w'.cell? ⟨gb275, 0, none⟩ = some (.int .i64 a1_0) /\ w'.cell? ⟨gb275, 1, none⟩ = some (.int .i64 a1_1)) (ds := []) #[ff, ff, ff, ff, ff, ff] (by kernel_rfl) rfl rfl ⟨(blk_cell BK304.out 0).trans rfl, (blk_cell BK304.out 1).trans rfl, (blk_cell BK304.out 2).trans rfl, (blk_cell BK304.out 3).trans rfl, (blk_cell BK275.out 0).trans rfl, (blk_cell BK275.out 1).trans rfl⟩ (fun hHeld => ?_)
    generalize w44.drew = w45 at HO279 HO282 HO285 HO288 HO294 HO297 HO300 HO303 BK274 BK275 BK304 HB hHeld ⊢
    refine pure_ (i := 3) (N := some 27) (v := ?_) (a' := ?_) #[ff, ff, ff, tt, ff, ff] rfl rfl (by kernel_rfl) (fun _ _ _ h => h) (Or.inl ⟨by rfl, ?_⟩) ?_ ?_
    rotate_left
    ·intro w'
     go_simp
     with_reducible rfl
    rotate_left
    ·simp only [Act.put, sz1, sz2, sz3, i64_w, i32_w]
     rfl
    refine take_ (i := 0) (N := some 24) (v := ?_) (a' := ?_) #[tt, ff, ff, tt, ff, ff] rfl rfl (by kernel_rfl) (fun _ _ _ h => h) (Or.inl ⟨by rfl, ?_⟩) hHeld ?_ ?_
    rotate_left
    ·rintro w' ⟨s0, s1, s2, s3, s4, s5⟩
     go_simp
     with_reducible rfl
    rotate_left
    ·simp only [Act.put, sz1, sz2, sz3, i64_w, i32_w]
     rfl
    refine take_ (i := 1) (N := some 25) (v := ?_) (a' := ?_) #[tt, tt, ff, tt, ff, ff] rfl rfl (by kernel_rfl) (fun _ _ _ h => h) (Or.inl ⟨by rfl, ?_⟩) hHeld ?_ ?_
    rotate_left
    ·rintro w' ⟨s0, s1, s2, s3, s4, s5⟩
     go_simp
     with_reducible rfl
    rotate_left
    ·simp only [Act.put, sz1, sz2, sz3, i64_w, i32_w]
     rfl
    refine one_ (i := 2) (N := some 26) #[tt, tt, tt, tt, ff, ff] rfl rfl (by kernel_rfl) (by decide) (fun K hK => ?_)
    refine goes_ Tryd.func34 (by kernel_rfl) rfl #[.agg #[.int .i64 a1_0, .int .i64 a1_1]] (by rfl) rfl rfl lz ?_
    with_reducible refine (laws_toVal.calls a1_0 a1_1 t305 t306 _ A15.out).mono ?_
    rintro e w46 ⟨rfl, hb⟩
    refine ⟨_, rfl, ?_⟩
    have n0_ := qz HO279 hb
    have n1_ := qz HO282 hb
    have n2_ := qz HO285 hb
    have n3_ := qz HO288 hb
    have n4_ := qz HO294 hb
    have n5_ := qz HO297 hb
    have n6_ := qz HO300 hb
    have n7_ := qz HO303 hb
    have n8_ := Aside0.mk (blk_below (kz BK274.out) hb)
    have n9_ := Aside0.mk (blk_below (kz BK275.out) hb)
    have n10_ := Aside0.mk (blk_below (kz BK304.out) hb)
    have n11_ := Aside0.mk (below_step (bz3 HB.out GE274.out GE275.out GE304.out) hb)
    clear HO279
    clear HO282
    clear HO285
    clear HO288
    clear HO294
    clear HO297
    clear HO300
    clear HO303
    clear BK274
    clear BK275
    clear BK304
    clear HB
    have HO279 := n0_
    have HO282 := n1_
    have HO285 := n2_
    have HO288 := n3_
    have HO294 := n4_
    have HO297 := n5_
    have HO300 := n6_
    have HO303 := n7_
    have BK274 := n8_
    have BK275 := n9_
    have BK304 := n10_
    have HB := n11_
    clear n0_ n1_ n2_ n3_ n4_ n5_ n6_ n7_ n8_ n9_ n10_ n11_
    (try clear hb)
    (try clear hb2)
    (try clear hk)
    (try clear hi)
    refine hK.out _ _ ⟨(blk_cell BK304.out 0).trans rfl, (blk_cell BK304.out 1).trans rfl, (blk_cell BK304.out 2).trans rfl, (blk_cell BK304.out 3).trans rfl, (blk_cell BK275.out 0).trans rfl, (blk_cell BK275.out 1).trans rfl⟩ (fun hHeld => ?_)
    clear hK K
    refine norm_ (a' := ?_) ?_ ?_
    rotate_left
    ·show Act.put _ (some 26) _ = _
     simp only [Act.put, sz1, sz2, sz3, i64_w, i32_w]
     rfl
    refine one_ (i := 4) (N := some 28) #[tt, tt, tt, tt, tt, ff] rfl rfl (by kernel_rfl) (by decide) (fun K hK => ?_)
    refine goes_ Tryd.func16 (by kernel_rfl) rfl #[.agg #[.slice Ao37 t292.length co37, .slice Ao41 t295.length co41, .slice Ao42 t298.length co42, .slice Ao43 t301.length co43], .agg #[.int .i64 t305, .int .i64 t306], .int .i64 a2] (by rfl) rfl rfl lz ?_
    with_reducible refine (impl_ShowVal.calls k _ _ t292 _ _ t295 _ _ t298 _ _ t301 t305 t306 a2 t307 _ ?side1 ?side2 ?side3 ?side4 ?side5 ?side6 ?side7 ?side8 A16.out ?hT_).mono ?_
    (case hT_ => exact PW.below hT_ (bz3 HB.out GE274.out GE275.out GE304.out))
    (case side1 => exact cz (Kd.R_reads' HO294.out).2.2)
    (case side2 => exact (Kd.R_reads' HO294.out).2.1)
    (case side3 => exact cz (Kd.R_reads' HO297.out).2.2)
    (case side4 => exact (Kd.R_reads' HO297.out).2.1)
    (case side5 => exact cz (Kd.R_reads' HO300.out).2.2)
    (case side6 => exact (Kd.R_reads' HO300.out).2.1)
    (case side7 => exact cz (Kd.R_reads' HO303.out).2.2)
    (case side8 => exact (Kd.R_reads' HO303.out).2.1)
    rintro e w47 ⟨rfl, hb⟩
    refine ⟨_, rfl, ?_⟩
    have n0_ := qz HO279 hb
    have n1_ := qz HO282 hb
    have n2_ := qz HO285 hb
    have n3_ := qz HO288 hb
    have n4_ := qz HO294 hb
    have n5_ := qz HO297 hb
    have n6_ := qz HO300 hb
    have n7_ := qz HO303 hb
    have n8_ := Aside0.mk (blk_below (kz BK274.out) hb)
    have n9_ := Aside0.mk (blk_below (kz BK275.out) hb)
    have n10_ := Aside0.mk (blk_below (kz BK304.out) hb)
    have n11_ := Aside0.mk (below_step (bz3 HB.out GE274.out GE275.out GE304.out) hb)
    clear HO279
    clear HO282
    clear HO285
    clear HO288
    clear HO294
    clear HO297
    clear HO300
    clear HO303
    clear BK274
    clear BK275
    clear BK304
    clear HB
    have HO279 := n0_
    have HO282 := n1_
    have HO285 := n2_
    have HO288 := n3_
    have HO294 := n4_
    have HO297 := n5_
    have HO300 := n6_
    have HO303 := n7_
    have BK274 := n8_
    have BK275 := n9_
    have BK304 := n10_
    have HB := n11_
    clear n0_ n1_ n2_ n3_ n4_ n5_ n6_ n7_ n8_ n9_ n10_ n11_
    (try clear hb)
    (try clear hb2)
    (try clear hk)
    (try clear hi)
    refine hK.out _ _ ⟨(blk_cell BK304.out 0).trans rfl, (blk_cell BK304.out 1).trans rfl, (blk_cell BK304.out 2).trans rfl, (blk_cell BK304.out 3).trans rfl, (blk_cell BK275.out 0).trans rfl, (blk_cell BK275.out 1).trans rfl⟩ (fun hHeld => ?_)
    clear hK K
    refine norm_ (a' := ?_) ?_ ?_
    rotate_left
    ·show Act.put _ (some 28) _ = _
     simp only [Act.put, sz1, sz2, sz3, i64_w, i32_w]
     rfl
    refine pure_ (i := 5) (N := some 10) (v := ?_) (a' := ?_) #[tt, tt, tt, tt, tt, tt] rfl rfl (by kernel_rfl) (fun _ _ _ h => h) (Or.inl ⟨by rfl, ?_⟩) ?_ ?_
    rotate_left
    ·intro w'
     go_simp
     with_reducible rfl
    rotate_left
    ·simp only [Act.put, sz1, sz2, sz3, i64_w, i32_w]
     rfl
    refine done_ (by kernel_rfl) ?_
    try go_wp2
    have n0_ := Aside0.mk (Kd.R_drew HO279.out)
    have n1_ := Aside0.mk (Kd.R_drew HO282.out)
    have n2_ := Aside0.mk (Kd.R_drew HO285.out)
    have n3_ := Aside0.mk (Kd.R_drew HO288.out)
    have n4_ := Aside0.mk (Kd.R_drew HO294.out)
    have n5_ := Aside0.mk (Kd.R_drew HO297.out)
    have n6_ := Aside0.mk (Kd.R_drew HO300.out)
    have n7_ := Aside0.mk (Kd.R_drew HO303.out)
    have n8_ := Aside0.mk (blk_drew BK274.out)
    have n9_ := Aside0.mk (blk_drew BK275.out)
    have n10_ := Aside0.mk (blk_drew BK304.out)
    have n11_ := Aside0.mk (below_drew1 HB.out)
    clear HO279
    clear HO282
    clear HO285
    clear HO288
    clear HO294
    clear HO297
    clear HO300
    clear HO303
    clear BK274
    clear BK275
    clear BK304
    clear HB
    have HO279 := n0_
    have HO282 := n1_
    have HO285 := n2_
    have HO288 := n3_
    have HO294 := n4_
    have HO297 := n5_
    have HO300 := n6_
    have HO303 := n7_
    have BK274 := n8_
    have BK275 := n9_
    have BK304 := n10_
    have HB := n11_
    clear n0_ n1_ n2_ n3_ n4_ n5_ n6_ n7_ n8_ n9_ n10_ n11_
    refine start_ (n := 5) (S := fun w' => w'.cell? ⟨gb304, 0, none⟩ = some (.slice Ao37 t292.length co37) /\ w'.cell? ⟨gb304, 1, none⟩ = some (.slice Ao41 t295.length co41) /\ w'.cell? ⟨gb304, 2, none⟩ = some (.slice Ao42 t298.length co42) /\ w'.cell? ⟨gb304, 3, none⟩ = some (.slice Ao43 t301.length co43) /\ w'.cell? ⟨gb274, 0, none⟩ = some (.slice A0_0 l0_0.length c0_0) /\ w'.cell? ⟨gb274, 1, none⟩ = some (.slice A0_1 l0_1.length c0_1) /\ w'.cell? ⟨gb274, 2, none⟩ = some (.slice A0_2 l0_2.length c0_2) /\ w'.cell? ⟨gb274, 3, none⟩ = some (.slice A0_3 l0_3.length c0_3)) (ds := []) #[ff, ff, ff, ff, ff] (by kernel_rfl) rfl rfl ⟨(blk_cell BK304.out 0).trans rfl, (blk_cell BK304.out 1).trans rfl, (blk_cell BK304.out 2).trans rfl, (blk_cell BK304.out 3).trans rfl, (blk_cell BK274.out 0).trans rfl, (blk_cell BK274.out 1).trans rfl, (blk_cell BK274.out 2).trans rfl, (blk_cell BK274.out 3).trans rfl⟩ (fun hHeld => ?_)
    generalize w47.drew = w48 at HO279 HO282 HO285 HO288 HO294 HO297 HO300 HO303 BK274 BK275 BK304 HB hHeld ⊢
    refine take_ (i := 0) (N := some 32) (v := ?_) (a' := ?_) #[tt, ff, ff, ff, ff] rfl rfl (by kernel_rfl) (fun _ _ _ h => h) (Or.inl ⟨by rfl, ?_⟩) hHeld ?_ ?_
    rotate_left
    ·rintro w' ⟨s0, s1, s2, s3, s4, s5, s6, s7⟩
     go_simp
     with_reducible rfl
    rotate_left
    ·simp only [Act.put, sz1, sz2, sz3, i64_w, i32_w]
     rfl
    refine take_ (i := 1) (N := some 33) (v := ?_) (a' := ?_) #[tt, tt, ff, ff, ff] rfl rfl (by kernel_rfl) (fun _ _ _ h => h) (Or.inl ⟨by rfl, ?_⟩) hHeld ?_ ?_
    rotate_left
    ·rintro w' ⟨s0, s1, s2, s3, s4, s5, s6, s7⟩
     go_simp
     with_reducible rfl
    rotate_left
    ·simp only [Act.put, sz1, sz2, sz3, i64_w, i32_w]
     rfl
    refine one_ (i := 2) (N := some 34) #[tt, tt, tt, ff, ff] rfl rfl (by kernel_rfl) (by decide) (fun K hK => ?_)
    refine goes_ Tryd.func33 (by kernel_rfl) rfl #[.agg #[.slice A0_0 l0_0.length c0_0, .slice A0_1 l0_1.length c0_1, .slice A0_2 l0_2.length c0_2, .slice A0_3 l0_3.length c0_3]] (by rfl) rfl rfl lz ?_
    with_reducible refine (laws_toHeap.calls k _ _ l0_0 _ _ l0_1 _ _ l0_2 _ _ l0_3 t308 t311 t314 t317 _ ?side1 ?side2 ?side3 ?side4 ?side5 ?side6 ?side7 ?side8 A18.out).mono ?_
    (case side1 => exact cz (Kd.C_below HR0_0.out HB.out))
    (case side2 => exact HC0_0.out)
    (case side3 => exact cz (Kd.C_below HR0_1.out HB.out))
    (case side4 => exact HC0_1.out)
    (case side5 => exact cz (Kd.C_below HR0_2.out HB.out))
    (case side6 => exact HC0_2.out)
    (case side7 => exact cz (Kd.C_below HR0_3.out HB.out))
    (case side8 => exact HC0_3.out)
    rintro e w49 ⟨v309, v312, v315, v318, rfl, ho0, ho1, ho2, ho3, hb⟩
    refine ⟨_, rfl, ?_⟩
    have n0_ := Aside0.mk (Kd.R_elder' (rz HO279.out) (Kd.R_base ho0) hb)
    have n1_ := Aside0.mk (Kd.R_elder' (rz HO282.out) (Kd.R_base ho1) hb)
    have n2_ := Aside0.mk (Kd.R_elder' (rz HO285.out) (Kd.R_base ho2) hb)
    have n3_ := Aside0.mk (Kd.R_elder' (rz HO288.out) (Kd.R_base ho3) hb)
    have n4_ := Aside0.mk (Kd.R_elder' (rz HO294.out) (Kd.R_base ho0) hb)
    have n5_ := Aside0.mk (Kd.R_elder' (rz HO297.out) (Kd.R_base ho1) hb)
    have n6_ := Aside0.mk (Kd.R_elder' (rz HO300.out) (Kd.R_base ho2) hb)
    have n7_ := Aside0.mk (Kd.R_elder' (rz HO303.out) (Kd.R_base ho3) hb)
    have n8_ := Aside0.mk (Kd.R_lower (Kd.R_new' (Kd.R_new' ho0 (Kd.R_lt (rz HO279.out))) (Kd.R_lt (rz HO294.out))) (below_size (bz3 HB.out GE274.out GE275.out GE304.out)))
    have n9_ := Aside0.mk (Kd.R_lower (Kd.R_new' (Kd.R_new' ho1 (Kd.R_lt (rz HO282.out))) (Kd.R_lt (rz HO297.out))) (below_size (bz3 HB.out GE274.out GE275.out GE304.out)))
    have n10_ := Aside0.mk (Kd.R_lower (Kd.R_new' (Kd.R_new' ho2 (Kd.R_lt (rz HO285.out))) (Kd.R_lt (rz HO300.out))) (below_size (bz3 HB.out GE274.out GE275.out GE304.out)))
    have n11_ := Aside0.mk (Kd.R_lower (Kd.R_new' (Kd.R_new' ho3 (Kd.R_lt (rz HO288.out))) (Kd.R_lt (rz HO303.out))) (below_size (bz3 HB.out GE274.out GE275.out GE304.out)))
    have n12_ := Aside0.mk (blk_below (kz BK274.out) hb)
    have n13_ := Aside0.mk (blk_below (kz BK275.out) hb)
    have n14_ := Aside0.mk (blk_below (kz BK304.out) hb)
    have n15_ := Aside0.mk (below_step (bz3 HB.out GE274.out GE275.out GE304.out) hb)
    clear HO279
    clear HO282
    clear HO285
    clear HO288
    clear HO294
    clear HO297
    clear HO300
    clear HO303
    clear BK274
    clear BK275
    clear BK304
    clear HB
    have HO279 := n0_
    have HO282 := n1_
    have HO285 := n2_
    have HO288 := n3_
    have HO294 := n4_
    have HO297 := n5_
    have HO300 := n6_
    have HO303 := n7_
    have HO310 := n8_
    have HO313 := n9_
    have HO316 := n10_
    have HO319 := n11_
    have BK274 := n12_
    have BK275 := n13_
    have BK304 := n14_
    have HB := n15_
    clear n0_ n1_ n2_ n3_ n4_ n5_ n6_ n7_ n8_ n9_ n10_ n11_ n12_ n13_ n14_ n15_
    (try clear hb)
    (try clear hb2)
    (try clear hk)
    (try clear hi)
    (try clear ho0)
    (try clear ho1)
    (try clear ho2)
    (try clear ho3)
    obtain ⟨Ao50, co50, eo50⟩ := Kd.R_slice HO310.out
    (first | subst eo50 | (injection eo50 with f1_ f2_ f3_; have f4_ := f1_.symm; have f5_ := f3_.symm; clear f1_ f2_ f3_; subst f4_; subst f5_))
    obtain ⟨Ao51, co51, eo51⟩ := Kd.R_slice HO313.out
    (first | subst eo51 | (injection eo51 with f1_ f2_ f3_; have f4_ := f1_.symm; have f5_ := f3_.symm; clear f1_ f2_ f3_; subst f4_; subst f5_))
    obtain ⟨Ao52, co52, eo52⟩ := Kd.R_slice HO316.out
    (first | subst eo52 | (injection eo52 with f1_ f2_ f3_; have f4_ := f1_.symm; have f5_ := f3_.symm; clear f1_ f2_ f3_; subst f4_; subst f5_))
    obtain ⟨Ao53, co53, eo53⟩ := Kd.R_slice HO319.out
    (first | subst eo53 | (injection eo53 with f1_ f2_ f3_; have f4_ := f1_.symm; have f5_ := f3_.symm; clear f1_ f2_ f3_; subst f4_; subst f5_))
    refine hK.out _ _ ⟨(blk_cell BK304.out 0).trans rfl, (blk_cell BK304.out 1).trans rfl, (blk_cell BK304.out 2).trans rfl, (blk_cell BK304.out 3).trans rfl, (blk_cell BK274.out 0).trans rfl, (blk_cell BK274.out 1).trans rfl, (blk_cell BK274.out 2).trans rfl, (blk_cell BK274.out 3).trans rfl⟩ (fun hHeld => ?_)
    clear hK K
    refine norm_ (a' := ?_) ?_ ?_
    rotate_left
    ·show Act.put _ (some 34) _ = _
     simp only [Act.put, sz1, sz2, sz3, i64_w, i32_w]
     rfl
    refine one_ (i := 3) (N := some 35) #[tt, tt, tt, tt, ff] rfl rfl (by kernel_rfl) (by decide) (fun K hK => ?_)
    refine goes_ Tryd.func35 (by kernel_rfl) rfl #[.agg #[.slice Ao37 t292.length co37, .slice Ao41 t295.length co41, .slice Ao42 t298.length co42, .slice Ao43 t301.length co43], .agg #[.slice Ao50 t308.length co50, .slice Ao51 t311.length co51, .slice Ao52 t314.length co52, .slice Ao53 t317.length co53]] (by rfl) rfl rfl lz ?_
    with_reducible refine (laws_eqHeap.calls k _ _ t292 _ _ t295 _ _ t298 _ _ t301 _ _ t308 _ _ t311 _ _ t314 _ _ t317 true _ ?side1 ?side2 ?side3 ?side4 ?side5 ?side6 ?side7 ?side8 ?side9 ?side10 ?side11 ?side12 ?side13 ?side14 ?side15 ?side16 A19.out).mono ?_
    (case side1 => exact cz (Kd.R_reads' HO294.out).2.2)
    (case side2 => exact (Kd.R_reads' HO294.out).2.1)
    (case side3 => exact cz (Kd.R_reads' HO297.out).2.2)
    (case side4 => exact (Kd.R_reads' HO297.out).2.1)
    (case side5 => exact cz (Kd.R_reads' HO300.out).2.2)
    (case side6 => exact (Kd.R_reads' HO300.out).2.1)
    (case side7 => exact cz (Kd.R_reads' HO303.out).2.2)
    (case side8 => exact (Kd.R_reads' HO303.out).2.1)
    (case side9 => exact cz (Kd.R_reads' HO310.out).2.2)
    (case side10 => exact (Kd.R_reads' HO310.out).2.1)
    (case side11 => exact cz (Kd.R_reads' HO313.out).2.2)
    (case side12 => exact (Kd.R_reads' HO313.out).2.1)
    (case side13 => exact cz (Kd.R_reads' HO316.out).2.2)
    (case side14 => exact (Kd.R_reads' HO316.out).2.1)
    (case side15 => exact cz (Kd.R_reads' HO319.out).2.2)
    (case side16 => exact (Kd.R_reads' HO319.out).2.1)
    rintro e w54 ⟨rfl, hb⟩
    refine ⟨_, rfl, ?_⟩
    have n0_ := qz HO279 hb
    have n1_ := qz HO282 hb
    have n2_ := qz HO285 hb
    have n3_ := qz HO288 hb
    have n4_ := qz HO294 hb
    have n5_ := qz HO297 hb
    have n6_ := qz HO300 hb
    have n7_ := qz HO303 hb
    have n8_ := qz HO310 hb
    have n9_ := qz HO313 hb
    have n10_ := qz HO316 hb
    have n11_ := qz HO319 hb
    have n12_ := Aside0.mk (blk_below (kz BK274.out) hb)
    have n13_ := Aside0.mk (blk_below (kz BK275.out) hb)
    have n14_ := Aside0.mk (blk_below (kz BK304.out) hb)
    have n15_ := Aside0.mk (below_step (bz3 HB.out GE274.out GE275.out GE304.out) hb)
    clear HO279
    clear HO282
    clear HO285
    clear HO288
    clear HO294
    clear HO297
    clear HO300
    clear HO303
    clear HO310
    clear HO313
    clear HO316
    clear HO319
    clear BK274
    clear BK275
    clear BK304
    clear HB
    have HO279 := n0_
    have HO282 := n1_
    have HO285 := n2_
    have HO288 := n3_
    have HO294 := n4_
    have HO297 := n5_
    have HO300 := n6_
    have HO303 := n7_
    have HO310 := n8_
    have HO313 := n9_
    have HO316 := n10_
    have HO319 := n11_
    have BK274 := n12_
    have BK275 := n13_
    have BK304 := n14_
    have HB := n15_
    clear n0_ n1_ n2_ n3_ n4_ n5_ n6_ n7_ n8_ n9_ n10_ n11_ n12_ n13_ n14_ n15_
    (try clear hb)
    (try clear hb2)
    (try clear hk)
    (try clear hi)
    refine hK.out _ _ ⟨(blk_cell BK304.out 0).trans rfl, (blk_cell BK304.out 1).trans rfl, (blk_cell BK304.out 2).trans rfl, (blk_cell BK304.out 3).trans rfl, (blk_cell BK274.out 0).trans rfl, (blk_cell BK274.out 1).trans rfl, (blk_cell BK274.out 2).trans rfl, (blk_cell BK274.out 3).trans rfl⟩ (fun hHeld => ?_)
    clear hK K
    refine norm_ (a' := ?_) ?_ ?_
    rotate_left
    ·show Act.put _ (some 35) _ = _
     simp only [Act.put, sz1, sz2, sz3, i64_w, i32_w]
     rfl
    refine pure_ (i := 4) (N := some 36) (v := ?_) (a' := ?_) #[tt, tt, tt, tt, tt] rfl rfl (by kernel_rfl) (fun _ _ _ h => h) (Or.inl ⟨by rfl, ?_⟩) ?_ ?_
    rotate_left
    ·intro w'
     go_simp
     with_reducible rfl
    rotate_left
    ·simp only [Act.put, sz1, sz2, sz3, i64_w, i32_w]
     rfl
    refine done_ (by kernel_rfl) ?_
    try go_wp2
    go_ret
    exact ⟨gz, (bz3 HB.out GE274.out GE275.out GE304.out)⟩
   ·replace c20 := Bool.eq_false_iff.mpr c20
    subst c20
    have H1 := hq H
    clear H
    have H := H1
    clear H1
    obtain rfl := Option.some.inj H
    go_enter Tryd.func7, Tryd.ntmps7
    try go_wp2_with (first | ((with_reducible refine gate_dst (N := 3) rfl ?_); refine box_event ?hg (N := 3) ?hd (cs := #[.slice A0_0 l0_0.length c0_0, .slice A0_1 l0_1.length c0_1, .slice A0_2 l0_2.length c0_2, .slice A0_3 l0_3.length c0_3]) (t := 70) ?hr ?_; (case hd => rfl); (case hg => rfl); (case hr => exact vz); intro gb274 hg w55 hbox hb; have BK274 := Aside0.mk (hbox); have GW274 := Aside0.mk ((by rw [hg]; exact (below_size (bz0 HB.out)) : w.heap.size <= gb274)); have GE274 := Aside0.mk ((by rw [hg]; exact (below_size (bz0 HB.out)) : w.heap.size <= gb274)); replace HB := Aside0.mk (below_step (bz0 HB.out) hb); clear hb hbox hg) | ((with_reducible refine gate_dst (N := 4) rfl ?_); refine box_event ?hg (N := 4) ?hd (cs := #[.int .i64 a1_0, .int .i64 a1_1]) (t := 71) ?hr ?_; (case hd => rfl); (case hg => rfl); (case hr => exact vz); intro gb275 hg w56 hbox hb; have BK275 := Aside0.mk (hbox); have GW275 := Aside0.mk ((by rw [hg]; exact (below_size (bz1 HB.out GE274.out)) : w.heap.size <= gb275)); have GE275 := Aside0.mk ((by rw [hg]; exact (below_size (bz1 HB.out GE274.out)) : w.heap.size <= gb275)); replace HB := Aside0.mk (below_step (bz1 HB.out GE274.out) hb); have NB274_275 := Aside0.mk ((by rw [hg]; exact Nat.ne_of_lt (blk_lt (g := gb274) (o := .cells #[.slice A0_0 l0_0.length c0_0, .slice A0_1 l0_1.length c0_1, .slice A0_2 l0_2.length c0_2, .slice A0_3 l0_3.length c0_3] 70 (0, 0)) (kz BK274.out)) : gb274 ≠ gb275)); have NB275_274 := Aside0.mk ((by rw [hg]; exact Nat.ne_of_gt (blk_lt (g := gb274) (o := .cells #[.slice A0_0 l0_0.length c0_0, .slice A0_1 l0_1.length c0_1, .slice A0_2 l0_2.length c0_2, .slice A0_3 l0_3.length c0_3] 70 (0, 0)) (kz BK274.out)) : gb275 ≠ gb274)); replace BK274 := Aside0.mk (blk_below (kz BK274.out) hb); clear hb hbox hg; have hnb57 := NB274_275.out; have hnc57 := NB275_274.out; obtain ⟨hcz58_0, hcz58_1, hcz58_2, hcz58_3⟩ := cz4 BK274.out; obtain ⟨hfz58_0, hfz58_1, hfz58_2, hfz58_3⟩ := fz4 BK274.out) | ((with_reducible refine gate_callee (f := 31) rfl ?_); refine goesL_ (some 13) rfl rfl Tryd.func31 (by kernel_rfl) rfl #[.agg #[.slice A0_0 l0_0.length c0_0, .slice A0_1 l0_1.length c0_1, .slice A0_2 l0_2.length c0_2, .slice A0_3 l0_3.length c0_3], .int .i64 1048576] rfl lz ?_; (with_reducible refine (laws_szHeap.calls _ _ l0_0 _ _ l0_1 _ _ l0_2 _ _ l0_3 1048576 t276 _ ?side1 ?side2 ?side3 ?side4 ?side5 ?side6 ?side7 ?side8 A4.out).mono ?_); (case side1 => exact cz (Kd.C_below HR0_0.out HB.out)); (case side2 => exact HC0_0.out); (case side3 => exact cz (Kd.C_below HR0_1.out HB.out)); (case side4 => exact HC0_1.out); (case side5 => exact cz (Kd.C_below HR0_2.out HB.out)); (case side6 => exact HC0_2.out); (case side7 => exact cz (Kd.C_below HR0_3.out HB.out)); (case side8 => exact HC0_3.out); rintro e w59 ⟨rfl, hb⟩; refine ⟨_, rfl, ?_⟩; replace BK274 := Aside0.mk (blk_below (kz BK274.out) hb); replace BK275 := Aside0.mk (blk_below (kz BK275.out) hb); replace HB := Aside0.mk (below_step (bz2 HB.out GE274.out GE275.out) hb); (try clear hb); (try clear hi)))
    have n0_ := Aside0.mk (blk_drew BK274.out)
    have n1_ := Aside0.mk (blk_drew BK275.out)
    have n2_ := Aside0.mk (below_drew1 HB.out)
    clear BK274
    clear BK275
    clear HB
    have BK274 := n0_
    have BK275 := n1_
    have HB := n2_
    clear n0_ n1_ n2_
    refine start_ (n := 7) (S := fun w' => w'.cell? ⟨gb274, 0, none⟩ = some (.slice A0_0 l0_0.length c0_0) /\ w'.cell? ⟨gb274, 1, none⟩ = some (.slice A0_1 l0_1.length c0_1) /\ w'.cell? ⟨gb274, 2, none⟩ = some (.slice A0_2 l0_2.length c0_2) /\ w'.cell? ⟨gb274, 3, none⟩ = some (.slice A0_3 l0_3.length c0_3) /\ w'.cell? ⟨gb275, 0, none⟩ = some (.int .i64 a1_0) /\ w'.cell? ⟨gb275, 1, none⟩ = some (.int .i64 a1_1)) (ds := []) #[ff, ff, ff, ff, ff, ff, ff] (by kernel_rfl) rfl rfl ⟨(blk_cell BK274.out 0).trans rfl, (blk_cell BK274.out 1).trans rfl, (blk_cell BK274.out 2).trans rfl, (blk_cell BK274.out 3).trans rfl, (blk_cell BK275.out 0).trans rfl, (blk_cell BK275.out 1).trans rfl⟩ (fun hHeld => ?_)
    generalize w59.drew = w60 at BK274 BK275 HB hHeld ⊢
    refine pure_ (i := 4) (N := some 20) (v := ?_) (a' := ?_) #[ff, ff, ff, ff, tt, ff, ff] rfl rfl (by kernel_rfl) (fun _ _ _ h => h) (Or.inl ⟨by rfl, ?_⟩) ?_ ?_
    rotate_left
    ·intro w'
     go_simp
     with_reducible rfl
    rotate_left
    ·simp only [Act.put, sz1, sz2, sz3, i64_w, i32_w]
     rfl
    refine take_ (i := 0) (N := some 16) (v := ?_) (a' := ?_) #[tt, ff, ff, ff, tt, ff, ff] rfl rfl (by kernel_rfl) (fun _ _ _ h => h) (Or.inl ⟨by rfl, ?_⟩) hHeld ?_ ?_
    rotate_left
    ·rintro w' ⟨s0, s1, s2, s3, s4, s5⟩
     go_simp
     with_reducible rfl
    rotate_left
    ·simp only [Act.put, sz1, sz2, sz3, i64_w, i32_w]
     rfl
    refine take_ (i := 2) (N := some 18) (v := ?_) (a' := ?_) #[tt, ff, tt, ff, tt, ff, ff] rfl rfl (by kernel_rfl) (fun _ _ _ h => h) (Or.inl ⟨by rfl, ?_⟩) hHeld ?_ ?_
    rotate_left
    ·rintro w' ⟨s0, s1, s2, s3, s4, s5⟩
     go_simp
     with_reducible rfl
    rotate_left
    ·simp only [Act.put, sz1, sz2, sz3, i64_w, i32_w]
     rfl
    refine one_ (i := 1) (N := some 17) #[tt, tt, tt, ff, tt, ff, ff] rfl rfl (by kernel_rfl) (by decide) (fun K hK => ?_)
    refine goes_ Tryd.func33 (by kernel_rfl) rfl #[.agg #[.slice A0_0 l0_0.length c0_0, .slice A0_1 l0_1.length c0_1, .slice A0_2 l0_2.length c0_2, .slice A0_3 l0_3.length c0_3]] (by rfl) rfl rfl lz ?_
    with_reducible refine (laws_toHeap.calls k _ _ l0_0 _ _ l0_1 _ _ l0_2 _ _ l0_3 t277 t280 t283 t286 _ ?side1 ?side2 ?side3 ?side4 ?side5 ?side6 ?side7 ?side8 A11.out).mono ?_
    (case side1 => exact cz (Kd.C_below HR0_0.out HB.out))
    (case side2 => exact HC0_0.out)
    (case side3 => exact cz (Kd.C_below HR0_1.out HB.out))
    (case side4 => exact HC0_1.out)
    (case side5 => exact cz (Kd.C_below HR0_2.out HB.out))
    (case side6 => exact HC0_2.out)
    (case side7 => exact cz (Kd.C_below HR0_3.out HB.out))
    (case side8 => exact HC0_3.out)
    rintro e w61 ⟨v278, v281, v284, v287, rfl, ho0, ho1, ho2, ho3, hb⟩
    refine ⟨_, rfl, ?_⟩
    have n0_ := Aside0.mk (Kd.R_lower ho0 (below_size (bz2 HB.out GE274.out GE275.out)))
    have n1_ := Aside0.mk (Kd.R_lower ho1 (below_size (bz2 HB.out GE274.out GE275.out)))
    have n2_ := Aside0.mk (Kd.R_lower ho2 (below_size (bz2 HB.out GE274.out GE275.out)))
    have n3_ := Aside0.mk (Kd.R_lower ho3 (below_size (bz2 HB.out GE274.out GE275.out)))
    have n4_ := Aside0.mk (blk_below (kz BK274.out) hb)
    have n5_ := Aside0.mk (blk_below (kz BK275.out) hb)
    have n6_ := Aside0.mk (below_step (bz2 HB.out GE274.out GE275.out) hb)
    clear BK274
    clear BK275
    clear HB
    have HO279 := n0_
    have HO282 := n1_
    have HO285 := n2_
    have HO288 := n3_
    have BK274 := n4_
    have BK275 := n5_
    have HB := n6_
    clear n0_ n1_ n2_ n3_ n4_ n5_ n6_
    (try clear hb)
    (try clear hb2)
    (try clear hk)
    (try clear hi)
    (try clear ho0)
    (try clear ho1)
    (try clear ho2)
    (try clear ho3)
    refine hK.out _ _ ⟨(blk_cell BK274.out 0).trans rfl, (blk_cell BK274.out 1).trans rfl, (blk_cell BK274.out 2).trans rfl, (blk_cell BK274.out 3).trans rfl, (blk_cell BK275.out 0).trans rfl, (blk_cell BK275.out 1).trans rfl⟩ (fun hHeld => ?_)
    clear hK K
    refine norm_ (a' := ?_) ?_ ?_
    rotate_left
    ·show Act.put _ (some 17) _ = _
     simp only [Act.put, sz1, sz2, sz3, i64_w, i32_w]
     rfl
    refine one_ (i := 3) (N := some 19) #[tt, tt, tt, tt, tt, ff, ff] rfl rfl (by kernel_rfl) (by decide) (fun K hK => ?_)
    refine goes_ Tryd.func34 (by kernel_rfl) rfl #[.agg #[.int .i64 a1_0, .int .i64 a1_1]] (by rfl) rfl rfl lz ?_
    with_reducible refine (laws_toVal.calls a1_0 a1_1 t289 t290 _ A12.out).mono ?_
    rintro e w62 ⟨rfl, hb⟩
    refine ⟨_, rfl, ?_⟩
    have n0_ := qz HO279 hb
    have n1_ := qz HO282 hb
    have n2_ := qz HO285 hb
    have n3_ := qz HO288 hb
    have n4_ := Aside0.mk (blk_below (kz BK274.out) hb)
    have n5_ := Aside0.mk (blk_below (kz BK275.out) hb)
    have n6_ := Aside0.mk (below_step (bz2 HB.out GE274.out GE275.out) hb)
    clear HO279
    clear HO282
    clear HO285
    clear HO288
    clear BK274
    clear BK275
    clear HB
    have HO279 := n0_
    have HO282 := n1_
    have HO285 := n2_
    have HO288 := n3_
    have BK274 := n4_
    have BK275 := n5_
    have HB := n6_
    clear n0_ n1_ n2_ n3_ n4_ n5_ n6_
    (try clear hb)
    (try clear hb2)
    (try clear hk)
    (try clear hi)
    obtain ⟨Ao63, co63, eo63⟩ := Kd.R_slice HO279.out
    (first | subst eo63 | (injection eo63 with f1_ f2_ f3_; have f4_ := f1_.symm; have f5_ := f3_.symm; clear f1_ f2_ f3_; subst f4_; subst f5_))
    obtain ⟨Ao64, co64, eo64⟩ := Kd.R_slice HO282.out
    (first | subst eo64 | (injection eo64 with f1_ f2_ f3_; have f4_ := f1_.symm; have f5_ := f3_.symm; clear f1_ f2_ f3_; subst f4_; subst f5_))
    obtain ⟨Ao65, co65, eo65⟩ := Kd.R_slice HO285.out
    (first | subst eo65 | (injection eo65 with f1_ f2_ f3_; have f4_ := f1_.symm; have f5_ := f3_.symm; clear f1_ f2_ f3_; subst f4_; subst f5_))
    obtain ⟨Ao66, co66, eo66⟩ := Kd.R_slice HO288.out
    (first | subst eo66 | (injection eo66 with f1_ f2_ f3_; have f4_ := f1_.symm; have f5_ := f3_.symm; clear f1_ f2_ f3_; subst f4_; subst f5_))
    refine hK.out _ _ ⟨(blk_cell BK274.out 0).trans rfl, (blk_cell BK274.out 1).trans rfl, (blk_cell BK274.out 2).trans rfl, (blk_cell BK274.out 3).trans rfl, (blk_cell BK275.out 0).trans rfl, (blk_cell BK275.out 1).trans rfl⟩ (fun hHeld => ?_)
    clear hK K
    refine norm_ (a' := ?_) ?_ ?_
    rotate_left
    ·show Act.put _ (some 19) _ = _
     simp only [Act.put, sz1, sz2, sz3, i64_w, i32_w]
     rfl
    refine one_ (i := 5) (N := some 21) #[tt, tt, tt, tt, tt, tt, ff] rfl rfl (by kernel_rfl) (by decide) (fun K hK => ?_)
    refine goes_ Tryd.func32 (by kernel_rfl) rfl #[.agg #[.slice Ao63 t277.length co63, .slice Ao64 t280.length co64, .slice Ao65 t283.length co65, .slice Ao66 t286.length co66], .agg #[.int .i64 t289, .int .i64 t290], .int .i64 a2] (by rfl) rfl rfl lz ?_
    with_reducible refine (spec_ShowVal.calls k _ _ t277 _ _ t280 _ _ t283 _ _ t286 t289 t290 a2 t291 _ ?side1 ?side2 ?side3 ?side4 ?side5 ?side6 ?side7 ?side8 A13.out).mono ?_
    (case side1 => exact cz (Kd.R_reads' HO279.out).2.2)
    (case side2 => exact (Kd.R_reads' HO279.out).2.1)
    (case side3 => exact cz (Kd.R_reads' HO282.out).2.2)
    (case side4 => exact (Kd.R_reads' HO282.out).2.1)
    (case side5 => exact cz (Kd.R_reads' HO285.out).2.2)
    (case side6 => exact (Kd.R_reads' HO285.out).2.1)
    (case side7 => exact cz (Kd.R_reads' HO288.out).2.2)
    (case side8 => exact (Kd.R_reads' HO288.out).2.1)
    rintro e w67 ⟨rfl, hb⟩
    refine ⟨_, rfl, ?_⟩
    have n0_ := qz HO279 hb
    have n1_ := qz HO282 hb
    have n2_ := qz HO285 hb
    have n3_ := qz HO288 hb
    have n4_ := Aside0.mk (blk_below (kz BK274.out) hb)
    have n5_ := Aside0.mk (blk_below (kz BK275.out) hb)
    have n6_ := Aside0.mk (below_step (bz2 HB.out GE274.out GE275.out) hb)
    clear HO279
    clear HO282
    clear HO285
    clear HO288
    clear BK274
    clear BK275
    clear HB
    have HO279 := n0_
    have HO282 := n1_
    have HO285 := n2_
    have HO288 := n3_
    have BK274 := n4_
    have BK275 := n5_
    have HB := n6_
    clear n0_ n1_ n2_ n3_ n4_ n5_ n6_
    (try clear hb)
    (try clear hb2)
    (try clear hk)
    (try clear hi)
    refine hK.out _ _ ⟨(blk_cell BK274.out 0).trans rfl, (blk_cell BK274.out 1).trans rfl, (blk_cell BK274.out 2).trans rfl, (blk_cell BK274.out 3).trans rfl, (blk_cell BK275.out 0).trans rfl, (blk_cell BK275.out 1).trans rfl⟩ (fun hHeld => ?_)
    clear hK K
    refine norm_ (a' := ?_) ?_ ?_
    rotate_left
    ·show Act.put _ (some 21) _ = _
     simp only [Act.put, sz1, sz2, sz3, i64_w, i32_w]
     rfl
    refine pure_ (i := 6) (N := some 8) (v := ?_) (a' := ?_) #[tt, tt, tt, tt, tt, tt, tt] rfl rfl (by kernel_rfl) (fun _ _ _ h => h) (Or.inl ⟨by rfl, ?_⟩) ?_ ?_
    rotate_left
    ·intro w'
     go_simp
     with_reducible rfl
    rotate_left
    ·simp only [Act.put, sz1, sz2, sz3, i64_w, i32_w]
     rfl
    refine done_ (by kernel_rfl) ?_
    obtain ⟨hcz68_0, hcz68_1, hcz68_2, hcz68_3⟩ := cz4 BK274.out
    obtain ⟨hfz68_0, hfz68_1, hfz68_2, hfz68_3⟩ := fz4 BK274.out
    try go_wp2_with (first | ((with_reducible refine gate_callee (f := 33) rfl ?_); refine goesL_ (some 23) rfl rfl Tryd.func33 (by kernel_rfl) rfl #[.agg #[.slice A0_0 l0_0.length c0_0, .slice A0_1 l0_1.length c0_1, .slice A0_2 l0_2.length c0_2, .slice A0_3 l0_3.length c0_3]] rfl lz ?_; (with_reducible refine (laws_toHeap.calls k _ _ l0_0 _ _ l0_1 _ _ l0_2 _ _ l0_3 t292 t295 t298 t301 _ ?side1 ?side2 ?side3 ?side4 ?side5 ?side6 ?side7 ?side8 A14.out).mono ?_); (case side1 => exact cz (Kd.C_below HR0_0.out HB.out)); (case side2 => exact HC0_0.out); (case side3 => exact cz (Kd.C_below HR0_1.out HB.out)); (case side4 => exact HC0_1.out); (case side5 => exact cz (Kd.C_below HR0_2.out HB.out)); (case side6 => exact HC0_2.out); (case side7 => exact cz (Kd.C_below HR0_3.out HB.out)); (case side8 => exact HC0_3.out); rintro e w69 ⟨v293, v296, v299, v302, rfl, ho0, ho1, ho2, ho3, hb⟩; refine ⟨_, rfl, ?_⟩; have HO294 := Aside0.mk (Kd.R_lower (Kd.R_new' ho0 (Kd.R_lt (rz HO279.out))) (below_size (bz2 HB.out GE274.out GE275.out))); replace HO279 := Aside0.mk (Kd.R_elder' (rz HO279.out) (Kd.R_base ho0) hb); have HO297 := Aside0.mk (Kd.R_lower (Kd.R_new' ho1 (Kd.R_lt (rz HO282.out))) (below_size (bz2 HB.out GE274.out GE275.out))); replace HO282 := Aside0.mk (Kd.R_elder' (rz HO282.out) (Kd.R_base ho1) hb); have HO300 := Aside0.mk (Kd.R_lower (Kd.R_new' ho2 (Kd.R_lt (rz HO285.out))) (below_size (bz2 HB.out GE274.out GE275.out))); replace HO285 := Aside0.mk (Kd.R_elder' (rz HO285.out) (Kd.R_base ho2) hb); have HO303 := Aside0.mk (Kd.R_lower (Kd.R_new' ho3 (Kd.R_lt (rz HO288.out))) (below_size (bz2 HB.out GE274.out GE275.out))); replace HO288 := Aside0.mk (Kd.R_elder' (rz HO288.out) (Kd.R_base ho3) hb); replace BK274 := Aside0.mk (blk_below (kz BK274.out) hb); replace BK275 := Aside0.mk (blk_below (kz BK275.out) hb); replace HB := Aside0.mk (below_step (bz2 HB.out GE274.out GE275.out) hb); (try clear hb); (try clear ho0); (try clear ho1); (try clear ho2); (try clear ho3)) | ((with_reducible refine gate_dst (N := 9) rfl ?_); refine box_event ?hg (N := 9) ?hd (cs := #[.slice none 0 0, .slice none 0 0, .slice none 0 0, .slice none 0 0]) (t := 29) ?hr ?_; (case hd => rfl); (case hg => rfl); (case hr => exact vz); intro gb304 hg w70 hbox hb; replace HO279 := qz HO279 hb; replace HO282 := qz HO282 hb; replace HO285 := qz HO285 hb; replace HO288 := qz HO288 hb; replace HO294 := qz HO294 hb; replace HO297 := qz HO297 hb; replace HO300 := qz HO300 hb; replace HO303 := qz HO303 hb; have BK304 := Aside0.mk (hbox); have GW304 := Aside0.mk ((by rw [hg]; exact (below_size (bz2 HB.out GE274.out GE275.out)) : w.heap.size <= gb304)); have GE304 := Aside0.mk ((by rw [hg]; exact (below_size (bz2 HB.out GE274.out GE275.out)) : w.heap.size <= gb304)); replace HB := Aside0.mk (below_step (bz2 HB.out GE274.out GE275.out) hb); have NB274_304 := Aside0.mk ((by rw [hg]; exact Nat.ne_of_lt (blk_lt (g := gb274) (o := .cells #[.slice A0_0 l0_0.length c0_0, .slice A0_1 l0_1.length c0_1, .slice A0_2 l0_2.length c0_2, .slice A0_3 l0_3.length c0_3] 70 (0, 0)) (kz BK274.out)) : gb274 ≠ gb304)); have NB304_274 := Aside0.mk ((by rw [hg]; exact Nat.ne_of_gt (blk_lt (g := gb274) (o := .cells #[.slice A0_0 l0_0.length c0_0, .slice A0_1 l0_1.length c0_1, .slice A0_2 l0_2.length c0_2, .slice A0_3 l0_3.length c0_3] 70 (0, 0)) (kz BK274.out)) : gb304 ≠ gb274)); replace BK274 := Aside0.mk (blk_below (kz BK274.out) hb); have NB275_304 := Aside0.mk ((by rw [hg]; exact Nat.ne_of_lt (blk_lt (g := gb275) (o := .cells #[.int .i64 a1_0, .int .i64 a1_1] 71 (0, 0)) (kz BK275.out)) : gb275 ≠ gb304)); have NB304_275 := Aside0.mk ((by rw [hg]; exact Nat.ne_of_gt (blk_lt (g := gb275) (o := .cells #[.int .i64 a1_0, .int .i64 a1_1] 71 (0, 0)) (kz BK275.out)) : gb304 ≠ gb275)); replace BK275 := Aside0.mk (blk_below (kz BK275.out) hb); clear hb hbox hg; obtain ⟨Ao71, co71, eo71⟩ := Kd.R_slice HO294.out; subst eo71; have hnb72 := NB304_274.out; have hnc72 := NB274_304.out; have hnb73 := NB304_275.out; have hnc73 := NB275_304.out; obtain ⟨hcz74_0, hcz74_1, hcz74_2, hcz74_3⟩ := cz4 BK304.out; obtain ⟨hfz74_0, hfz74_1, hfz74_2, hfz74_3⟩ := fz4 BK304.out; obtain ⟨Ao75, co75, eo75⟩ := Kd.R_slice HO297.out; subst eo75; obtain ⟨Ao76, co76, eo76⟩ := Kd.R_slice HO300.out; subst eo76; obtain ⟨Ao77, co77, eo77⟩ := Kd.R_slice HO303.out; subst eo77))
    have n0_ : Aside0 (Kd.R k41 41 ((((w70.setCell ⟨gb304, 0, none⟩ (.slice Ao71 t292.length co71)).setCell ⟨gb304, 1, none⟩ (.slice Ao75 t295.length co75)).setCell ⟨gb304, 2, none⟩ (.slice Ao76 t298.length co76)).setCell ⟨gb304, 3, none⟩ (.slice Ao77 t301.length co77)) w.heap.size (fun k_ => some k_ ≠ (.slice Ao71 t292.length co71 : Value).ownBlock) (.slice Ao63 t277.length co63) t277) := ⟨by refine rq ?_; first | (with_reducible exact Kd.R_mono (Kd.R_far (p := ⟨gb304, 3, none⟩) (Kd.R_far (p := ⟨gb304, 2, none⟩) (Kd.R_far (p := ⟨gb304, 1, none⟩) (Kd.R_far (p := ⟨gb304, 0, none⟩) (Kd.R_types HO279.out BK304.out (by decide)) (fun _ hk => hk.2) (.slice Ao71 t292.length co71)) (fun _ hk => hk.2) (.slice Ao75 t295.length co75)) (fun _ hk => hk.2) (.slice Ao76 t298.length co76)) (fun _ hk => hk.2) (.slice Ao77 t301.length co77)) (fun _ hk => hk.1.2)) | (with_reducible exact Kd.R_mono (Kd.R_far (p := ⟨gb304, 3, none⟩) (Kd.R_drewN (Kd.R_far (p := ⟨gb304, 2, none⟩) (Kd.R_far (p := ⟨gb304, 1, none⟩) (Kd.R_far (p := ⟨gb304, 0, none⟩) (Kd.R_types HO279.out BK304.out (by decide)) (fun _ hk => hk.2) (.slice Ao71 t292.length co71)) (fun _ hk => hk.2) (.slice Ao75 t295.length co75)) (fun _ hk => hk.2) (.slice Ao76 t298.length co76)) _) (fun _ hk => hk.2) (.slice Ao77 t301.length co77)) (fun _ hk => hk.1.2)) | exact Kd.R_mono (Kd.R_far (p := ⟨gb304, 3, none⟩) (Kd.R_drewN (Kd.R_far (p := ⟨gb304, 2, none⟩) (Kd.R_far (p := ⟨gb304, 1, none⟩) (Kd.R_far (p := ⟨gb304, 0, none⟩) (Kd.R_types HO279.out BK304.out (by decide)) (fun _ hk => hk.2) (.slice Ao71 t292.length co71)) (fun _ hk => hk.2) (.slice Ao75 t295.length co75)) (fun _ hk => hk.2) (.slice Ao76 t298.length co76)) _) (fun _ hk => hk.2) (.slice Ao77 t301.length co77)) (fun _ hk => hk.1.2)⟩
    have n1_ : Aside0 (Kd.R k86 86 ((((w70.setCell ⟨gb304, 0, none⟩ (.slice Ao71 t292.length co71)).setCell ⟨gb304, 1, none⟩ (.slice Ao75 t295.length co75)).setCell ⟨gb304, 2, none⟩ (.slice Ao76 t298.length co76)).setCell ⟨gb304, 3, none⟩ (.slice Ao77 t301.length co77)) w.heap.size (fun k_ => some k_ ≠ (.slice Ao75 t295.length co75 : Value).ownBlock) (.slice Ao64 t280.length co64) t280) := ⟨by refine rq ?_; first | (with_reducible exact Kd.R_mono (Kd.R_far (p := ⟨gb304, 3, none⟩) (Kd.R_far (p := ⟨gb304, 2, none⟩) (Kd.R_far (p := ⟨gb304, 1, none⟩) (Kd.R_far (p := ⟨gb304, 0, none⟩) (Kd.R_types HO282.out BK304.out (by decide)) (fun _ hk => hk.2) (.slice Ao71 t292.length co71)) (fun _ hk => hk.2) (.slice Ao75 t295.length co75)) (fun _ hk => hk.2) (.slice Ao76 t298.length co76)) (fun _ hk => hk.2) (.slice Ao77 t301.length co77)) (fun _ hk => hk.1.2)) | (with_reducible exact Kd.R_mono (Kd.R_far (p := ⟨gb304, 3, none⟩) (Kd.R_drewN (Kd.R_far (p := ⟨gb304, 2, none⟩) (Kd.R_far (p := ⟨gb304, 1, none⟩) (Kd.R_far (p := ⟨gb304, 0, none⟩) (Kd.R_types HO282.out BK304.out (by decide)) (fun _ hk => hk.2) (.slice Ao71 t292.length co71)) (fun _ hk => hk.2) (.slice Ao75 t295.length co75)) (fun _ hk => hk.2) (.slice Ao76 t298.length co76)) _) (fun _ hk => hk.2) (.slice Ao77 t301.length co77)) (fun _ hk => hk.1.2)) | exact Kd.R_mono (Kd.R_far (p := ⟨gb304, 3, none⟩) (Kd.R_drewN (Kd.R_far (p := ⟨gb304, 2, none⟩) (Kd.R_far (p := ⟨gb304, 1, none⟩) (Kd.R_far (p := ⟨gb304, 0, none⟩) (Kd.R_types HO282.out BK304.out (by decide)) (fun _ hk => hk.2) (.slice Ao71 t292.length co71)) (fun _ hk => hk.2) (.slice Ao75 t295.length co75)) (fun _ hk => hk.2) (.slice Ao76 t298.length co76)) _) (fun _ hk => hk.2) (.slice Ao77 t301.length co77)) (fun _ hk => hk.1.2)⟩
    have n2_ : Aside0 (Kd.R k47 47 ((((w70.setCell ⟨gb304, 0, none⟩ (.slice Ao71 t292.length co71)).setCell ⟨gb304, 1, none⟩ (.slice Ao75 t295.length co75)).setCell ⟨gb304, 2, none⟩ (.slice Ao76 t298.length co76)).setCell ⟨gb304, 3, none⟩ (.slice Ao77 t301.length co77)) w.heap.size (fun k_ => some k_ ≠ (.slice Ao76 t298.length co76 : Value).ownBlock) (.slice Ao65 t283.length co65) t283) := ⟨by refine rq ?_; first | (with_reducible exact Kd.R_mono (Kd.R_far (p := ⟨gb304, 3, none⟩) (Kd.R_far (p := ⟨gb304, 2, none⟩) (Kd.R_far (p := ⟨gb304, 1, none⟩) (Kd.R_far (p := ⟨gb304, 0, none⟩) (Kd.R_types HO285.out BK304.out (by decide)) (fun _ hk => hk.2) (.slice Ao71 t292.length co71)) (fun _ hk => hk.2) (.slice Ao75 t295.length co75)) (fun _ hk => hk.2) (.slice Ao76 t298.length co76)) (fun _ hk => hk.2) (.slice Ao77 t301.length co77)) (fun _ hk => hk.1.2)) | (with_reducible exact Kd.R_mono (Kd.R_far (p := ⟨gb304, 3, none⟩) (Kd.R_drewN (Kd.R_far (p := ⟨gb304, 2, none⟩) (Kd.R_far (p := ⟨gb304, 1, none⟩) (Kd.R_far (p := ⟨gb304, 0, none⟩) (Kd.R_types HO285.out BK304.out (by decide)) (fun _ hk => hk.2) (.slice Ao71 t292.length co71)) (fun _ hk => hk.2) (.slice Ao75 t295.length co75)) (fun _ hk => hk.2) (.slice Ao76 t298.length co76)) _) (fun _ hk => hk.2) (.slice Ao77 t301.length co77)) (fun _ hk => hk.1.2)) | exact Kd.R_mono (Kd.R_far (p := ⟨gb304, 3, none⟩) (Kd.R_drewN (Kd.R_far (p := ⟨gb304, 2, none⟩) (Kd.R_far (p := ⟨gb304, 1, none⟩) (Kd.R_far (p := ⟨gb304, 0, none⟩) (Kd.R_types HO285.out BK304.out (by decide)) (fun _ hk => hk.2) (.slice Ao71 t292.length co71)) (fun _ hk => hk.2) (.slice Ao75 t295.length co75)) (fun _ hk => hk.2) (.slice Ao76 t298.length co76)) _) (fun _ hk => hk.2) (.slice Ao77 t301.length co77)) (fun _ hk => hk.1.2)⟩
    have n3_ : Aside0 (Kd.R k35 35 ((((w70.setCell ⟨gb304, 0, none⟩ (.slice Ao71 t292.length co71)).setCell ⟨gb304, 1, none⟩ (.slice Ao75 t295.length co75)).setCell ⟨gb304, 2, none⟩ (.slice Ao76 t298.length co76)).setCell ⟨gb304, 3, none⟩ (.slice Ao77 t301.length co77)) w.heap.size (fun k_ => some k_ ≠ (.slice Ao77 t301.length co77 : Value).ownBlock) (.slice Ao66 t286.length co66) t286) := ⟨by refine rq ?_; first | (with_reducible exact Kd.R_mono (Kd.R_far (p := ⟨gb304, 3, none⟩) (Kd.R_far (p := ⟨gb304, 2, none⟩) (Kd.R_far (p := ⟨gb304, 1, none⟩) (Kd.R_far (p := ⟨gb304, 0, none⟩) (Kd.R_types HO288.out BK304.out (by decide)) (fun _ hk => hk.2) (.slice Ao71 t292.length co71)) (fun _ hk => hk.2) (.slice Ao75 t295.length co75)) (fun _ hk => hk.2) (.slice Ao76 t298.length co76)) (fun _ hk => hk.2) (.slice Ao77 t301.length co77)) (fun _ hk => hk.1.2)) | (with_reducible exact Kd.R_mono (Kd.R_far (p := ⟨gb304, 3, none⟩) (Kd.R_drewN (Kd.R_far (p := ⟨gb304, 2, none⟩) (Kd.R_far (p := ⟨gb304, 1, none⟩) (Kd.R_far (p := ⟨gb304, 0, none⟩) (Kd.R_types HO288.out BK304.out (by decide)) (fun _ hk => hk.2) (.slice Ao71 t292.length co71)) (fun _ hk => hk.2) (.slice Ao75 t295.length co75)) (fun _ hk => hk.2) (.slice Ao76 t298.length co76)) _) (fun _ hk => hk.2) (.slice Ao77 t301.length co77)) (fun _ hk => hk.1.2)) | exact Kd.R_mono (Kd.R_far (p := ⟨gb304, 3, none⟩) (Kd.R_drewN (Kd.R_far (p := ⟨gb304, 2, none⟩) (Kd.R_far (p := ⟨gb304, 1, none⟩) (Kd.R_far (p := ⟨gb304, 0, none⟩) (Kd.R_types HO288.out BK304.out (by decide)) (fun _ hk => hk.2) (.slice Ao71 t292.length co71)) (fun _ hk => hk.2) (.slice Ao75 t295.length co75)) (fun _ hk => hk.2) (.slice Ao76 t298.length co76)) _) (fun _ hk => hk.2) (.slice Ao77 t301.length co77)) (fun _ hk => hk.1.2)⟩
    have n4_ : Aside0 (Kd.R k41 41 ((((w70.setCell ⟨gb304, 0, none⟩ (.slice Ao71 t292.length co71)).setCell ⟨gb304, 1, none⟩ (.slice Ao75 t295.length co75)).setCell ⟨gb304, 2, none⟩ (.slice Ao76 t298.length co76)).setCell ⟨gb304, 3, none⟩ (.slice Ao77 t301.length co77)) w.heap.size (fun k_ => some k_ ≠ (.slice Ao63 t277.length co63 : Value).ownBlock) (.slice Ao71 t292.length co71) t292) := ⟨by refine rq ?_; first | (with_reducible exact Kd.R_mono (Kd.R_far (p := ⟨gb304, 3, none⟩) (Kd.R_far (p := ⟨gb304, 2, none⟩) (Kd.R_far (p := ⟨gb304, 1, none⟩) (Kd.R_far (p := ⟨gb304, 0, none⟩) (Kd.R_types HO294.out BK304.out (by decide)) (fun _ hk => hk.2) (.slice Ao71 t292.length co71)) (fun _ hk => hk.2) (.slice Ao75 t295.length co75)) (fun _ hk => hk.2) (.slice Ao76 t298.length co76)) (fun _ hk => hk.2) (.slice Ao77 t301.length co77)) (fun _ hk => hk.1.2)) | (with_reducible exact Kd.R_mono (Kd.R_far (p := ⟨gb304, 3, none⟩) (Kd.R_drewN (Kd.R_far (p := ⟨gb304, 2, none⟩) (Kd.R_far (p := ⟨gb304, 1, none⟩) (Kd.R_far (p := ⟨gb304, 0, none⟩) (Kd.R_types HO294.out BK304.out (by decide)) (fun _ hk => hk.2) (.slice Ao71 t292.length co71)) (fun _ hk => hk.2) (.slice Ao75 t295.length co75)) (fun _ hk => hk.2) (.slice Ao76 t298.length co76)) _) (fun _ hk => hk.2) (.slice Ao77 t301.length co77)) (fun _ hk => hk.1.2)) | exact Kd.R_mono (Kd.R_far (p := ⟨gb304, 3, none⟩) (Kd.R_drewN (Kd.R_far (p := ⟨gb304, 2, none⟩) (Kd.R_far (p := ⟨gb304, 1, none⟩) (Kd.R_far (p := ⟨gb304, 0, none⟩) (Kd.R_types HO294.out BK304.out (by decide)) (fun _ hk => hk.2) (.slice Ao71 t292.length co71)) (fun _ hk => hk.2) (.slice Ao75 t295.length co75)) (fun _ hk => hk.2) (.slice Ao76 t298.length co76)) _) (fun _ hk => hk.2) (.slice Ao77 t301.length co77)) (fun _ hk => hk.1.2)⟩
    have n5_ : Aside0 (Kd.R k86 86 ((((w70.setCell ⟨gb304, 0, none⟩ (.slice Ao71 t292.length co71)).setCell ⟨gb304, 1, none⟩ (.slice Ao75 t295.length co75)).setCell ⟨gb304, 2, none⟩ (.slice Ao76 t298.length co76)).setCell ⟨gb304, 3, none⟩ (.slice Ao77 t301.length co77)) w.heap.size (fun k_ => some k_ ≠ (.slice Ao64 t280.length co64 : Value).ownBlock) (.slice Ao75 t295.length co75) t295) := ⟨by refine rq ?_; first | (with_reducible exact Kd.R_mono (Kd.R_far (p := ⟨gb304, 3, none⟩) (Kd.R_far (p := ⟨gb304, 2, none⟩) (Kd.R_far (p := ⟨gb304, 1, none⟩) (Kd.R_far (p := ⟨gb304, 0, none⟩) (Kd.R_types HO297.out BK304.out (by decide)) (fun _ hk => hk.2) (.slice Ao71 t292.length co71)) (fun _ hk => hk.2) (.slice Ao75 t295.length co75)) (fun _ hk => hk.2) (.slice Ao76 t298.length co76)) (fun _ hk => hk.2) (.slice Ao77 t301.length co77)) (fun _ hk => hk.1.2)) | (with_reducible exact Kd.R_mono (Kd.R_far (p := ⟨gb304, 3, none⟩) (Kd.R_drewN (Kd.R_far (p := ⟨gb304, 2, none⟩) (Kd.R_far (p := ⟨gb304, 1, none⟩) (Kd.R_far (p := ⟨gb304, 0, none⟩) (Kd.R_types HO297.out BK304.out (by decide)) (fun _ hk => hk.2) (.slice Ao71 t292.length co71)) (fun _ hk => hk.2) (.slice Ao75 t295.length co75)) (fun _ hk => hk.2) (.slice Ao76 t298.length co76)) _) (fun _ hk => hk.2) (.slice Ao77 t301.length co77)) (fun _ hk => hk.1.2)) | exact Kd.R_mono (Kd.R_far (p := ⟨gb304, 3, none⟩) (Kd.R_drewN (Kd.R_far (p := ⟨gb304, 2, none⟩) (Kd.R_far (p := ⟨gb304, 1, none⟩) (Kd.R_far (p := ⟨gb304, 0, none⟩) (Kd.R_types HO297.out BK304.out (by decide)) (fun _ hk => hk.2) (.slice Ao71 t292.length co71)) (fun _ hk => hk.2) (.slice Ao75 t295.length co75)) (fun _ hk => hk.2) (.slice Ao76 t298.length co76)) _) (fun _ hk => hk.2) (.slice Ao77 t301.length co77)) (fun _ hk => hk.1.2)⟩
    have n6_ : Aside0 (Kd.R k47 47 ((((w70.setCell ⟨gb304, 0, none⟩ (.slice Ao71 t292.length co71)).setCell ⟨gb304, 1, none⟩ (.slice Ao75 t295.length co75)).setCell ⟨gb304, 2, none⟩ (.slice Ao76 t298.length co76)).setCell ⟨gb304, 3, none⟩ (.slice Ao77 t301.length co77)) w.heap.size (fun k_ => some k_ ≠ (.slice Ao65 t283.length co65 : Value).ownBlock) (.slice Ao76 t298.length co76) t298) := ⟨by refine rq ?_; first | (with_reducible exact Kd.R_mono (Kd.R_far (p := ⟨gb304, 3, none⟩) (Kd.R_far (p := ⟨gb304, 2, none⟩) (Kd.R_far (p := ⟨gb304, 1, none⟩) (Kd.R_far (p := ⟨gb304, 0, none⟩) (Kd.R_types HO300.out BK304.out (by decide)) (fun _ hk => hk.2) (.slice Ao71 t292.length co71)) (fun _ hk => hk.2) (.slice Ao75 t295.length co75)) (fun _ hk => hk.2) (.slice Ao76 t298.length co76)) (fun _ hk => hk.2) (.slice Ao77 t301.length co77)) (fun _ hk => hk.1.2)) | (with_reducible exact Kd.R_mono (Kd.R_far (p := ⟨gb304, 3, none⟩) (Kd.R_drewN (Kd.R_far (p := ⟨gb304, 2, none⟩) (Kd.R_far (p := ⟨gb304, 1, none⟩) (Kd.R_far (p := ⟨gb304, 0, none⟩) (Kd.R_types HO300.out BK304.out (by decide)) (fun _ hk => hk.2) (.slice Ao71 t292.length co71)) (fun _ hk => hk.2) (.slice Ao75 t295.length co75)) (fun _ hk => hk.2) (.slice Ao76 t298.length co76)) _) (fun _ hk => hk.2) (.slice Ao77 t301.length co77)) (fun _ hk => hk.1.2)) | exact Kd.R_mono (Kd.R_far (p := ⟨gb304, 3, none⟩) (Kd.R_drewN (Kd.R_far (p := ⟨gb304, 2, none⟩) (Kd.R_far (p := ⟨gb304, 1, none⟩) (Kd.R_far (p := ⟨gb304, 0, none⟩) (Kd.R_types HO300.out BK304.out (by decide)) (fun _ hk => hk.2) (.slice Ao71 t292.length co71)) (fun _ hk => hk.2) (.slice Ao75 t295.length co75)) (fun _ hk => hk.2) (.slice Ao76 t298.length co76)) _) (fun _ hk => hk.2) (.slice Ao77 t301.length co77)) (fun _ hk => hk.1.2)⟩
    have n7_ : Aside0 (Kd.R k35 35 ((((w70.setCell ⟨gb304, 0, none⟩ (.slice Ao71 t292.length co71)).setCell ⟨gb304, 1, none⟩ (.slice Ao75 t295.length co75)).setCell ⟨gb304, 2, none⟩ (.slice Ao76 t298.length co76)).setCell ⟨gb304, 3, none⟩ (.slice Ao77 t301.length co77)) w.heap.size (fun k_ => some k_ ≠ (.slice Ao66 t286.length co66 : Value).ownBlock) (.slice Ao77 t301.length co77) t301) := ⟨by refine rq ?_; first | (with_reducible exact Kd.R_mono (Kd.R_far (p := ⟨gb304, 3, none⟩) (Kd.R_far (p := ⟨gb304, 2, none⟩) (Kd.R_far (p := ⟨gb304, 1, none⟩) (Kd.R_far (p := ⟨gb304, 0, none⟩) (Kd.R_types HO303.out BK304.out (by decide)) (fun _ hk => hk.2) (.slice Ao71 t292.length co71)) (fun _ hk => hk.2) (.slice Ao75 t295.length co75)) (fun _ hk => hk.2) (.slice Ao76 t298.length co76)) (fun _ hk => hk.2) (.slice Ao77 t301.length co77)) (fun _ hk => hk.1.2)) | (with_reducible exact Kd.R_mono (Kd.R_far (p := ⟨gb304, 3, none⟩) (Kd.R_drewN (Kd.R_far (p := ⟨gb304, 2, none⟩) (Kd.R_far (p := ⟨gb304, 1, none⟩) (Kd.R_far (p := ⟨gb304, 0, none⟩) (Kd.R_types HO303.out BK304.out (by decide)) (fun _ hk => hk.2) (.slice Ao71 t292.length co71)) (fun _ hk => hk.2) (.slice Ao75 t295.length co75)) (fun _ hk => hk.2) (.slice Ao76 t298.length co76)) _) (fun _ hk => hk.2) (.slice Ao77 t301.length co77)) (fun _ hk => hk.1.2)) | exact Kd.R_mono (Kd.R_far (p := ⟨gb304, 3, none⟩) (Kd.R_drewN (Kd.R_far (p := ⟨gb304, 2, none⟩) (Kd.R_far (p := ⟨gb304, 1, none⟩) (Kd.R_far (p := ⟨gb304, 0, none⟩) (Kd.R_types HO303.out BK304.out (by decide)) (fun _ hk => hk.2) (.slice Ao71 t292.length co71)) (fun _ hk => hk.2) (.slice Ao75 t295.length co75)) (fun _ hk => hk.2) (.slice Ao76 t298.length co76)) _) (fun _ hk => hk.2) (.slice Ao77 t301.length co77)) (fun _ hk => hk.1.2)⟩
    have n8_ : Aside0 (((((w70.setCell ⟨gb304, 0, none⟩ (.slice Ao71 t292.length co71)).setCell ⟨gb304, 1, none⟩ (.slice Ao75 t295.length co75)).setCell ⟨gb304, 2, none⟩ (.slice Ao76 t298.length co76)).setCell ⟨gb304, 3, none⟩ (.slice Ao77 t301.length co77)).heap[gb274]? = some (.cells #[.slice A0_0 l0_0.length c0_0, .slice A0_1 l0_1.length c0_1, .slice A0_2 l0_2.length c0_2, .slice A0_3 l0_3.length c0_3] 70 (0, 0))) := ⟨by refine kq ?_; refine blk_far ?_ NB274_304.out _; refine kq ?_; refine blk_far ?_ NB274_304.out _; refine kq ?_; refine blk_far ?_ NB274_304.out _; refine kq ?_; refine blk_far ?_ NB274_304.out _; refine kq ?_; exact BK274.out⟩
    have n9_ : Aside0 (((((w70.setCell ⟨gb304, 0, none⟩ (.slice Ao71 t292.length co71)).setCell ⟨gb304, 1, none⟩ (.slice Ao75 t295.length co75)).setCell ⟨gb304, 2, none⟩ (.slice Ao76 t298.length co76)).setCell ⟨gb304, 3, none⟩ (.slice Ao77 t301.length co77)).heap[gb275]? = some (.cells #[.int .i64 a1_0, .int .i64 a1_1] 71 (0, 0))) := ⟨by refine kq ?_; refine blk_far ?_ NB275_304.out _; refine kq ?_; refine blk_far ?_ NB275_304.out _; refine kq ?_; refine blk_far ?_ NB275_304.out _; refine kq ?_; refine blk_far ?_ NB275_304.out _; refine kq ?_; exact BK275.out⟩
    have n10_ : Aside0 (((((w70.setCell ⟨gb304, 0, none⟩ (.slice Ao71 t292.length co71)).setCell ⟨gb304, 1, none⟩ (.slice Ao75 t295.length co75)).setCell ⟨gb304, 2, none⟩ (.slice Ao76 t298.length co76)).setCell ⟨gb304, 3, none⟩ (.slice Ao77 t301.length co77)).heap[gb304]? = some (.cells #[.slice Ao71 t292.length co71, .slice Ao75 t295.length co75, .slice Ao76 t298.length co76, .slice Ao77 t301.length co77] 29 (0, 0))) := ⟨by refine kq ?_; refine blk_put (cs := #[.slice Ao71 t292.length co71, .slice Ao75 t295.length co75, .slice Ao76 t298.length co76, .slice none 0 0]) ?_ 3 _ rfl; refine kq ?_; refine blk_put (cs := #[.slice Ao71 t292.length co71, .slice Ao75 t295.length co75, .slice none 0 0, .slice none 0 0]) ?_ 2 _ rfl; refine kq ?_; refine blk_put (cs := #[.slice Ao71 t292.length co71, .slice none 0 0, .slice none 0 0, .slice none 0 0]) ?_ 1 _ rfl; refine kq ?_; refine blk_put (cs := #[.slice none 0 0, .slice none 0 0, .slice none 0 0, .slice none 0 0]) ?_ 0 _ rfl; refine kq ?_; exact BK304.out⟩
    have n11_ : Aside0 (Below w.heap.size w ((((w70.setCell ⟨gb304, 0, none⟩ (.slice Ao71 t292.length co71)).setCell ⟨gb304, 1, none⟩ (.slice Ao75 t295.length co75)).setCell ⟨gb304, 2, none⟩ (.slice Ao76 t298.length co76)).setCell ⟨gb304, 3, none⟩ (.slice Ao77 t301.length co77))) := ⟨(bz3 HB.out GE274.out GE275.out GE304.out)⟩
    (try clear HO279)
    (try clear HO282)
    (try clear HO285)
    (try clear HO288)
    (try clear HO294)
    (try clear HO297)
    (try clear HO300)
    (try clear HO303)
    (try clear BK274)
    (try clear BK275)
    (try clear BK304)
    (try clear HB)
    generalize ((((w70.setCell ⟨gb304, 0, none⟩ (.slice Ao71 t292.length co71)).setCell ⟨gb304, 1, none⟩ (.slice Ao75 t295.length co75)).setCell ⟨gb304, 2, none⟩ (.slice Ao76 t298.length co76)).setCell ⟨gb304, 3, none⟩ (.slice Ao77 t301.length co77)) = w78 at n0_ n1_ n2_ n3_ n4_ n5_ n6_ n7_ n8_ n9_ n10_ n11_ ⊢
    have HO279 := n0_
    have HO282 := n1_
    have HO285 := n2_
    have HO288 := n3_
    have HO294 := n4_
    have HO297 := n5_
    have HO300 := n6_
    have HO303 := n7_
    have BK274 := n8_
    have BK275 := n9_
    have BK304 := n10_
    have HB := n11_
    clear n0_ n1_ n2_ n3_ n4_ n5_ n6_ n7_ n8_ n9_ n10_ n11_
    have n0_ := Aside0.mk (Kd.R_drew HO279.out)
    have n1_ := Aside0.mk (Kd.R_drew HO282.out)
    have n2_ := Aside0.mk (Kd.R_drew HO285.out)
    have n3_ := Aside0.mk (Kd.R_drew HO288.out)
    have n4_ := Aside0.mk (Kd.R_drew HO294.out)
    have n5_ := Aside0.mk (Kd.R_drew HO297.out)
    have n6_ := Aside0.mk (Kd.R_drew HO300.out)
    have n7_ := Aside0.mk (Kd.R_drew HO303.out)
    have n8_ := Aside0.mk (blk_drew BK274.out)
    have n9_ := Aside0.mk (blk_drew BK275.out)
    have n10_ := Aside0.mk (blk_drew BK304.out)
    have n11_ := Aside0.mk (below_drew1 HB.out)
    clear HO279
    clear HO282
    clear HO285
    clear HO288
    clear HO294
    clear HO297
    clear HO300
    clear HO303
    clear BK274
    clear BK275
    clear BK304
    clear HB
    have HO279 := n0_
    have HO282 := n1_
    have HO285 := n2_
    have HO288 := n3_
    have HO294 := n4_
    have HO297 := n5_
    have HO300 := n6_
    have HO303 := n7_
    have BK274 := n8_
    have BK275 := n9_
    have BK304 := n10_
    have HB := n11_
    clear n0_ n1_ n2_ n3_ n4_ n5_ n6_ n7_ n8_ n9_ n10_ n11_
    refine start_ (n := 6) (S := fun w' => w'.cell? ⟨gb304, 0, none⟩ = some (.slice Ao71 t292.length co71) /\ w'.cell? ⟨gb304, 1, none⟩ = some (.slice Ao75 t295.length co75) /\ w'.cell? ⟨gb304, 2, none⟩ = some (.slice Ao76 t298.length co76) /\ w'.cell? ⟨gb304, 3, none⟩ = some (.slice Ao77 t301.length co77) /\ w'.cell? ⟨gb275, 0, none⟩ = some (.int .i64 a1_0) /\ w'.cell? ⟨gb275, 1, none⟩ = some (.int .i64 a1_1)) (ds := []) #[ff, ff, ff, ff, ff, ff] (by kernel_rfl) rfl rfl ⟨(blk_cell BK304.out 0).trans rfl, (blk_cell BK304.out 1).trans rfl, (blk_cell BK304.out 2).trans rfl, (blk_cell BK304.out 3).trans rfl, (blk_cell BK275.out 0).trans rfl, (blk_cell BK275.out 1).trans rfl⟩ (fun hHeld => ?_)
    generalize w78.drew = w79 at HO279 HO282 HO285 HO288 HO294 HO297 HO300 HO303 BK274 BK275 BK304 HB hHeld ⊢
    refine pure_ (i := 3) (N := some 27) (v := ?_) (a' := ?_) #[ff, ff, ff, tt, ff, ff] rfl rfl (by kernel_rfl) (fun _ _ _ h => h) (Or.inl ⟨by rfl, ?_⟩) ?_ ?_
    rotate_left
    ·intro w'
     go_simp
     with_reducible rfl
    rotate_left
    ·simp only [Act.put, sz1, sz2, sz3, i64_w, i32_w]
     rfl
    refine take_ (i := 0) (N := some 24) (v := ?_) (a' := ?_) #[tt, ff, ff, tt, ff, ff] rfl rfl (by kernel_rfl) (fun _ _ _ h => h) (Or.inl ⟨by rfl, ?_⟩) hHeld ?_ ?_
    rotate_left
    ·rintro w' ⟨s0, s1, s2, s3, s4, s5⟩
     go_simp
     with_reducible rfl
    rotate_left
    ·simp only [Act.put, sz1, sz2, sz3, i64_w, i32_w]
     rfl
    refine take_ (i := 1) (N := some 25) (v := ?_) (a' := ?_) #[tt, tt, ff, tt, ff, ff] rfl rfl (by kernel_rfl) (fun _ _ _ h => h) (Or.inl ⟨by rfl, ?_⟩) hHeld ?_ ?_
    rotate_left
    ·rintro w' ⟨s0, s1, s2, s3, s4, s5⟩
     go_simp
     with_reducible rfl
    rotate_left
    ·simp only [Act.put, sz1, sz2, sz3, i64_w, i32_w]
     rfl
    refine one_ (i := 2) (N := some 26) #[tt, tt, tt, tt, ff, ff] rfl rfl (by kernel_rfl) (by decide) (fun K hK => ?_)
    refine goes_ Tryd.func34 (by kernel_rfl) rfl #[.agg #[.int .i64 a1_0, .int .i64 a1_1]] (by rfl) rfl rfl lz ?_
    with_reducible refine (laws_toVal.calls a1_0 a1_1 t305 t306 _ A15.out).mono ?_
    rintro e w80 ⟨rfl, hb⟩
    refine ⟨_, rfl, ?_⟩
    have n0_ := qz HO279 hb
    have n1_ := qz HO282 hb
    have n2_ := qz HO285 hb
    have n3_ := qz HO288 hb
    have n4_ := qz HO294 hb
    have n5_ := qz HO297 hb
    have n6_ := qz HO300 hb
    have n7_ := qz HO303 hb
    have n8_ := Aside0.mk (blk_below (kz BK274.out) hb)
    have n9_ := Aside0.mk (blk_below (kz BK275.out) hb)
    have n10_ := Aside0.mk (blk_below (kz BK304.out) hb)
    have n11_ := Aside0.mk (below_step (bz3 HB.out GE274.out GE275.out GE304.out) hb)
    clear HO279
    clear HO282
    clear HO285
    clear HO288
    clear HO294
    clear HO297
    clear HO300
    clear HO303
    clear BK274
    clear BK275
    clear BK304
    clear HB
    have HO279 := n0_
    have HO282 := n1_
    have HO285 := n2_
    have HO288 := n3_
    have HO294 := n4_
    have HO297 := n5_
    have HO300 := n6_
    have HO303 := n7_
    have BK274 := n8_
    have BK275 := n9_
    have BK304 := n10_
    have HB := n11_
    clear n0_ n1_ n2_ n3_ n4_ n5_ n6_ n7_ n8_ n9_ n10_ n11_
    (try clear hb)
    (try clear hb2)
    (try clear hk)
    (try clear hi)
    refine hK.out _ _ ⟨(blk_cell BK304.out 0).trans rfl, (blk_cell BK304.out 1).trans rfl, (blk_cell BK304.out 2).trans rfl, (blk_cell BK304.out 3).trans rfl, (blk_cell BK275.out 0).trans rfl, (blk_cell BK275.out 1).trans rfl⟩ (fun hHeld => ?_)
    clear hK K
    refine norm_ (a' := ?_) ?_ ?_
    rotate_left
    ·show Act.put _ (some 26) _ = _
     simp only [Act.put, sz1, sz2, sz3, i64_w, i32_w]
     rfl
    refine one_ (i := 4) (N := some 28) #[tt, tt, tt, tt, tt, ff] rfl rfl (by kernel_rfl) (by decide) (fun K hK => ?_)
    refine goes_ Tryd.func16 (by kernel_rfl) rfl #[.agg #[.slice Ao71 t292.length co71, .slice Ao75 t295.length co75, .slice Ao76 t298.length co76, .slice Ao77 t301.length co77], .agg #[.int .i64 t305, .int .i64 t306], .int .i64 a2] (by rfl) rfl rfl lz ?_
    with_reducible refine (impl_ShowVal.calls k _ _ t292 _ _ t295 _ _ t298 _ _ t301 t305 t306 a2 t307 _ ?side1 ?side2 ?side3 ?side4 ?side5 ?side6 ?side7 ?side8 A16.out ?hT_).mono ?_
    (case hT_ => exact PW.below hT_ (bz3 HB.out GE274.out GE275.out GE304.out))
    (case side1 => exact cz (Kd.R_reads' HO294.out).2.2)
    (case side2 => exact (Kd.R_reads' HO294.out).2.1)
    (case side3 => exact cz (Kd.R_reads' HO297.out).2.2)
    (case side4 => exact (Kd.R_reads' HO297.out).2.1)
    (case side5 => exact cz (Kd.R_reads' HO300.out).2.2)
    (case side6 => exact (Kd.R_reads' HO300.out).2.1)
    (case side7 => exact cz (Kd.R_reads' HO303.out).2.2)
    (case side8 => exact (Kd.R_reads' HO303.out).2.1)
    rintro e w81 ⟨rfl, hb⟩
    refine ⟨_, rfl, ?_⟩
    have n0_ := qz HO279 hb
    have n1_ := qz HO282 hb
    have n2_ := qz HO285 hb
    have n3_ := qz HO288 hb
    have n4_ := qz HO294 hb
    have n5_ := qz HO297 hb
    have n6_ := qz HO300 hb
    have n7_ := qz HO303 hb
    have n8_ := Aside0.mk (blk_below (kz BK274.out) hb)
    have n9_ := Aside0.mk (blk_below (kz BK275.out) hb)
    have n10_ := Aside0.mk (blk_below (kz BK304.out) hb)
    have n11_ := Aside0.mk (below_step (bz3 HB.out GE274.out GE275.out GE304.out) hb)
    clear HO279
    clear HO282
    clear HO285
    clear HO288
    clear HO294
    clear HO297
    clear HO300
    clear HO303
    clear BK274
    clear BK275
    clear BK304
    clear HB
    have HO279 := n0_
    have HO282 := n1_
    have HO285 := n2_
    have HO288 := n3_
    have HO294 := n4_
    have HO297 := n5_
    have HO300 := n6_
    have HO303 := n7_
    have BK274 := n8_
    have BK275 := n9_
    have BK304 := n10_
    have HB := n11_
    clear n0_ n1_ n2_ n3_ n4_ n5_ n6_ n7_ n8_ n9_ n10_ n11_
    (try clear hb)
    (try clear hb2)
    (try clear hk)
    (try clear hi)
    refine hK.out _ _ ⟨(blk_cell BK304.out 0).trans rfl, (blk_cell BK304.out 1).trans rfl, (blk_cell BK304.out 2).trans rfl, (blk_cell BK304.out 3).trans rfl, (blk_cell BK275.out 0).trans rfl, (blk_cell BK275.out 1).trans rfl⟩ (fun hHeld => ?_)
    clear hK K
    refine norm_ (a' := ?_) ?_ ?_
    rotate_left
    ·show Act.put _ (some 28) _ = _
     simp only [Act.put, sz1, sz2, sz3, i64_w, i32_w]
     rfl
    refine pure_ (i := 5) (N := some 10) (v := ?_) (a' := ?_) #[tt, tt, tt, tt, tt, tt] rfl rfl (by kernel_rfl) (fun _ _ _ h => h) (Or.inl ⟨by rfl, ?_⟩) ?_ ?_
    rotate_left
    ·intro w'
     go_simp
     with_reducible rfl
    rotate_left
    ·simp only [Act.put, sz1, sz2, sz3, i64_w, i32_w]
     rfl
    refine done_ (by kernel_rfl) ?_
    try go_wp2
    have n0_ := Aside0.mk (Kd.R_drew HO279.out)
    have n1_ := Aside0.mk (Kd.R_drew HO282.out)
    have n2_ := Aside0.mk (Kd.R_drew HO285.out)
    have n3_ := Aside0.mk (Kd.R_drew HO288.out)
    have n4_ := Aside0.mk (Kd.R_drew HO294.out)
    have n5_ := Aside0.mk (Kd.R_drew HO297.out)
    have n6_ := Aside0.mk (Kd.R_drew HO300.out)
    have n7_ := Aside0.mk (Kd.R_drew HO303.out)
    have n8_ := Aside0.mk (blk_drew BK274.out)
    have n9_ := Aside0.mk (blk_drew BK275.out)
    have n10_ := Aside0.mk (blk_drew BK304.out)
    have n11_ := Aside0.mk (below_drew1 HB.out)
    clear HO279
    clear HO282
    clear HO285
    clear HO288
    clear HO294
    clear HO297
    clear HO300
    clear HO303
    clear BK274
    clear BK275
    clear BK304
    clear HB
    have HO279 := n0_
    have HO282 := n1_
    have HO285 := n2_
    have HO288 := n3_
    have HO294 := n4_
    have HO297 := n5_
    have HO300 := n6_
    have HO303 := n7_
    have BK274 := n8_
    have BK275 := n9_
    have BK304 := n10_
    have HB := n11_
    clear n0_ n1_ n2_ n3_ n4_ n5_ n6_ n7_ n8_ n9_ n10_ n11_
    refine start_ (n := 5) (S := fun w' => w'.cell? ⟨gb304, 0, none⟩ = some (.slice Ao71 t292.length co71) /\ w'.cell? ⟨gb304, 1, none⟩ = some (.slice Ao75 t295.length co75) /\ w'.cell? ⟨gb304, 2, none⟩ = some (.slice Ao76 t298.length co76) /\ w'.cell? ⟨gb304, 3, none⟩ = some (.slice Ao77 t301.length co77) /\ w'.cell? ⟨gb274, 0, none⟩ = some (.slice A0_0 l0_0.length c0_0) /\ w'.cell? ⟨gb274, 1, none⟩ = some (.slice A0_1 l0_1.length c0_1) /\ w'.cell? ⟨gb274, 2, none⟩ = some (.slice A0_2 l0_2.length c0_2) /\ w'.cell? ⟨gb274, 3, none⟩ = some (.slice A0_3 l0_3.length c0_3)) (ds := []) #[ff, ff, ff, ff, ff] (by kernel_rfl) rfl rfl ⟨(blk_cell BK304.out 0).trans rfl, (blk_cell BK304.out 1).trans rfl, (blk_cell BK304.out 2).trans rfl, (blk_cell BK304.out 3).trans rfl, (blk_cell BK274.out 0).trans rfl, (blk_cell BK274.out 1).trans rfl, (blk_cell BK274.out 2).trans rfl, (blk_cell BK274.out 3).trans rfl⟩ (fun hHeld => ?_)
    generalize w81.drew = w82 at HO279 HO282 HO285 HO288 HO294 HO297 HO300 HO303 BK274 BK275 BK304 HB hHeld ⊢
    refine take_ (i := 0) (N := some 32) (v := ?_) (a' := ?_) #[tt, ff, ff, ff, ff] rfl rfl (by kernel_rfl) (fun _ _ _ h => h) (Or.inl ⟨by rfl, ?_⟩) hHeld ?_ ?_
    rotate_left
    ·rintro w' ⟨s0, s1, s2, s3, s4, s5, s6, s7⟩
     go_simp
     with_reducible rfl
    rotate_left
    ·simp only [Act.put, sz1, sz2, sz3, i64_w, i32_w]
     rfl
    refine take_ (i := 1) (N := some 33) (v := ?_) (a' := ?_) #[tt, tt, ff, ff, ff] rfl rfl (by kernel_rfl) (fun _ _ _ h => h) (Or.inl ⟨by rfl, ?_⟩) hHeld ?_ ?_
    rotate_left
    ·rintro w' ⟨s0, s1, s2, s3, s4, s5, s6, s7⟩
     go_simp
     with_reducible rfl
    rotate_left
    ·simp only [Act.put, sz1, sz2, sz3, i64_w, i32_w]
     rfl
    refine one_ (i := 2) (N := some 34) #[tt, tt, tt, ff, ff] rfl rfl (by kernel_rfl) (by decide) (fun K hK => ?_)
    refine goes_ Tryd.func33 (by kernel_rfl) rfl #[.agg #[.slice A0_0 l0_0.length c0_0, .slice A0_1 l0_1.length c0_1, .slice A0_2 l0_2.length c0_2, .slice A0_3 l0_3.length c0_3]] (by rfl) rfl rfl lz ?_
    with_reducible refine (laws_toHeap.calls k _ _ l0_0 _ _ l0_1 _ _ l0_2 _ _ l0_3 t308 t311 t314 t317 _ ?side1 ?side2 ?side3 ?side4 ?side5 ?side6 ?side7 ?side8 A18.out).mono ?_
    (case side1 => exact cz (Kd.C_below HR0_0.out HB.out))
    (case side2 => exact HC0_0.out)
    (case side3 => exact cz (Kd.C_below HR0_1.out HB.out))
    (case side4 => exact HC0_1.out)
    (case side5 => exact cz (Kd.C_below HR0_2.out HB.out))
    (case side6 => exact HC0_2.out)
    (case side7 => exact cz (Kd.C_below HR0_3.out HB.out))
    (case side8 => exact HC0_3.out)
    rintro e w83 ⟨v309, v312, v315, v318, rfl, ho0, ho1, ho2, ho3, hb⟩
    refine ⟨_, rfl, ?_⟩
    have n0_ := Aside0.mk (Kd.R_elder' (rz HO279.out) (Kd.R_base ho0) hb)
    have n1_ := Aside0.mk (Kd.R_elder' (rz HO282.out) (Kd.R_base ho1) hb)
    have n2_ := Aside0.mk (Kd.R_elder' (rz HO285.out) (Kd.R_base ho2) hb)
    have n3_ := Aside0.mk (Kd.R_elder' (rz HO288.out) (Kd.R_base ho3) hb)
    have n4_ := Aside0.mk (Kd.R_elder' (rz HO294.out) (Kd.R_base ho0) hb)
    have n5_ := Aside0.mk (Kd.R_elder' (rz HO297.out) (Kd.R_base ho1) hb)
    have n6_ := Aside0.mk (Kd.R_elder' (rz HO300.out) (Kd.R_base ho2) hb)
    have n7_ := Aside0.mk (Kd.R_elder' (rz HO303.out) (Kd.R_base ho3) hb)
    have n8_ := Aside0.mk (Kd.R_lower (Kd.R_new' (Kd.R_new' ho0 (Kd.R_lt (rz HO279.out))) (Kd.R_lt (rz HO294.out))) (below_size (bz3 HB.out GE274.out GE275.out GE304.out)))
    have n9_ := Aside0.mk (Kd.R_lower (Kd.R_new' (Kd.R_new' ho1 (Kd.R_lt (rz HO282.out))) (Kd.R_lt (rz HO297.out))) (below_size (bz3 HB.out GE274.out GE275.out GE304.out)))
    have n10_ := Aside0.mk (Kd.R_lower (Kd.R_new' (Kd.R_new' ho2 (Kd.R_lt (rz HO285.out))) (Kd.R_lt (rz HO300.out))) (below_size (bz3 HB.out GE274.out GE275.out GE304.out)))
    have n11_ := Aside0.mk (Kd.R_lower (Kd.R_new' (Kd.R_new' ho3 (Kd.R_lt (rz HO288.out))) (Kd.R_lt (rz HO303.out))) (below_size (bz3 HB.out GE274.out GE275.out GE304.out)))
    have n12_ := Aside0.mk (blk_below (kz BK274.out) hb)
    have n13_ := Aside0.mk (blk_below (kz BK275.out) hb)
    have n14_ := Aside0.mk (blk_below (kz BK304.out) hb)
    have n15_ := Aside0.mk (below_step (bz3 HB.out GE274.out GE275.out GE304.out) hb)
    clear HO279
    clear HO282
    clear HO285
    clear HO288
    clear HO294
    clear HO297
    clear HO300
    clear HO303
    clear BK274
    clear BK275
    clear BK304
    clear HB
    have HO279 := n0_
    have HO282 := n1_
    have HO285 := n2_
    have HO288 := n3_
    have HO294 := n4_
    have HO297 := n5_
    have HO300 := n6_
    have HO303 := n7_
    have HO310 := n8_
    have HO313 := n9_
    have HO316 := n10_
    have HO319 := n11_
    have BK274 := n12_
    have BK275 := n13_
    have BK304 := n14_
    have HB := n15_
    clear n0_ n1_ n2_ n3_ n4_ n5_ n6_ n7_ n8_ n9_ n10_ n11_ n12_ n13_ n14_ n15_
    (try clear hb)
    (try clear hb2)
    (try clear hk)
    (try clear hi)
    (try clear ho0)
    (try clear ho1)
    (try clear ho2)
    (try clear ho3)
    obtain ⟨Ao84, co84, eo84⟩ := Kd.R_slice HO310.out
    (first | subst eo84 | (injection eo84 with f1_ f2_ f3_; have f4_ := f1_.symm; have f5_ := f3_.symm; clear f1_ f2_ f3_; subst f4_; subst f5_))
    obtain ⟨Ao85, co85, eo85⟩ := Kd.R_slice HO313.out
    (first | subst eo85 | (injection eo85 with f1_ f2_ f3_; have f4_ := f1_.symm; have f5_ := f3_.symm; clear f1_ f2_ f3_; subst f4_; subst f5_))
    obtain ⟨Ao86, co86, eo86⟩ := Kd.R_slice HO316.out
    (first | subst eo86 | (injection eo86 with f1_ f2_ f3_; have f4_ := f1_.symm; have f5_ := f3_.symm; clear f1_ f2_ f3_; subst f4_; subst f5_))
    obtain ⟨Ao87, co87, eo87⟩ := Kd.R_slice HO319.out
    (first | subst eo87 | (injection eo87 with f1_ f2_ f3_; have f4_ := f1_.symm; have f5_ := f3_.symm; clear f1_ f2_ f3_; subst f4_; subst f5_))
    refine hK.out _ _ ⟨(blk_cell BK304.out 0).trans rfl, (blk_cell BK304.out 1).trans rfl, (blk_cell BK304.out 2).trans rfl, (blk_cell BK304.out 3).trans rfl, (blk_cell BK274.out 0).trans rfl, (blk_cell BK274.out 1).trans rfl, (blk_cell BK274.out 2).trans rfl, (blk_cell BK274.out 3).trans rfl⟩ (fun hHeld => ?_)
    clear hK K
    refine norm_ (a' := ?_) ?_ ?_
    rotate_left
    ·show Act.put _ (some 34) _ = _
     simp only [Act.put, sz1, sz2, sz3, i64_w, i32_w]
     rfl
    refine one_ (i := 3) (N := some 35) #[tt, tt, tt, tt, ff] rfl rfl (by kernel_rfl) (by decide) (fun K hK => ?_)
    refine goes_ Tryd.func35 (by kernel_rfl) rfl #[.agg #[.slice Ao71 t292.length co71, .slice Ao75 t295.length co75, .slice Ao76 t298.length co76, .slice Ao77 t301.length co77], .agg #[.slice Ao84 t308.length co84, .slice Ao85 t311.length co85, .slice Ao86 t314.length co86, .slice Ao87 t317.length co87]] (by rfl) rfl rfl lz ?_
    with_reducible refine (laws_eqHeap.calls k _ _ t292 _ _ t295 _ _ t298 _ _ t301 _ _ t308 _ _ t311 _ _ t314 _ _ t317 false _ ?side1 ?side2 ?side3 ?side4 ?side5 ?side6 ?side7 ?side8 ?side9 ?side10 ?side11 ?side12 ?side13 ?side14 ?side15 ?side16 A19.out).mono ?_
    (case side1 => exact cz (Kd.R_reads' HO294.out).2.2)
    (case side2 => exact (Kd.R_reads' HO294.out).2.1)
    (case side3 => exact cz (Kd.R_reads' HO297.out).2.2)
    (case side4 => exact (Kd.R_reads' HO297.out).2.1)
    (case side5 => exact cz (Kd.R_reads' HO300.out).2.2)
    (case side6 => exact (Kd.R_reads' HO300.out).2.1)
    (case side7 => exact cz (Kd.R_reads' HO303.out).2.2)
    (case side8 => exact (Kd.R_reads' HO303.out).2.1)
    (case side9 => exact cz (Kd.R_reads' HO310.out).2.2)
    (case side10 => exact (Kd.R_reads' HO310.out).2.1)
    (case side11 => exact cz (Kd.R_reads' HO313.out).2.2)
    (case side12 => exact (Kd.R_reads' HO313.out).2.1)
    (case side13 => exact cz (Kd.R_reads' HO316.out).2.2)
    (case side14 => exact (Kd.R_reads' HO316.out).2.1)
    (case side15 => exact cz (Kd.R_reads' HO319.out).2.2)
    (case side16 => exact (Kd.R_reads' HO319.out).2.1)
    rintro e w88 ⟨rfl, hb⟩
    refine ⟨_, rfl, ?_⟩
    have n0_ := qz HO279 hb
    have n1_ := qz HO282 hb
    have n2_ := qz HO285 hb
    have n3_ := qz HO288 hb
    have n4_ := qz HO294 hb
    have n5_ := qz HO297 hb
    have n6_ := qz HO300 hb
    have n7_ := qz HO303 hb
    have n8_ := qz HO310 hb
    have n9_ := qz HO313 hb
    have n10_ := qz HO316 hb
    have n11_ := qz HO319 hb
    have n12_ := Aside0.mk (blk_below (kz BK274.out) hb)
    have n13_ := Aside0.mk (blk_below (kz BK275.out) hb)
    have n14_ := Aside0.mk (blk_below (kz BK304.out) hb)
    have n15_ := Aside0.mk (below_step (bz3 HB.out GE274.out GE275.out GE304.out) hb)
    clear HO279
    clear HO282
    clear HO285
    clear HO288
    clear HO294
    clear HO297
    clear HO300
    clear HO303
    clear HO310
    clear HO313
    clear HO316
    clear HO319
    clear BK274
    clear BK275
    clear BK304
    clear HB
    have HO279 := n0_
    have HO282 := n1_
    have HO285 := n2_
    have HO288 := n3_
    have HO294 := n4_
    have HO297 := n5_
    have HO300 := n6_
    have HO303 := n7_
    have HO310 := n8_
    have HO313 := n9_
    have HO316 := n10_
    have HO319 := n11_
    have BK274 := n12_
    have BK275 := n13_
    have BK304 := n14_
    have HB := n15_
    clear n0_ n1_ n2_ n3_ n4_ n5_ n6_ n7_ n8_ n9_ n10_ n11_ n12_ n13_ n14_ n15_
    (try clear hb)
    (try clear hb2)
    (try clear hk)
    (try clear hi)
    refine hK.out _ _ ⟨(blk_cell BK304.out 0).trans rfl, (blk_cell BK304.out 1).trans rfl, (blk_cell BK304.out 2).trans rfl, (blk_cell BK304.out 3).trans rfl, (blk_cell BK274.out 0).trans rfl, (blk_cell BK274.out 1).trans rfl, (blk_cell BK274.out 2).trans rfl, (blk_cell BK274.out 3).trans rfl⟩ (fun hHeld => ?_)
    clear hK K
    refine norm_ (a' := ?_) ?_ ?_
    rotate_left
    ·show Act.put _ (some 35) _ = _
     simp only [Act.put, sz1, sz2, sz3, i64_w, i32_w]
     rfl
    refine pure_ (i := 4) (N := some 36) (v := ?_) (a' := ?_) #[tt, tt, tt, tt, tt] rfl rfl (by kernel_rfl) (fun _ _ _ h => h) (Or.inl ⟨by rfl, ?_⟩) ?_ ?_
    rotate_left
    ·intro w'
     go_simp
     with_reducible rfl
    rotate_left
    ·simp only [Act.put, sz1, sz2, sz3, i64_w, i32_w]
     rfl
    refine done_ (by kernel_rfl) ?_
    try go_wp2
    go_ret
    exact ⟨gz, (bz3 HB.out GE274.out GE275.out GE304.out)⟩
  ·rw [if_neg c17] at H
   have c17b0 : (t307.toList == t291.toList) = false := beq_eq_false_iff_ne.mpr c17
   have c17b1 : (t307.toList != t291.toList) = true := bne_iff_ne.mpr c17
   obtain rfl := Option.some.inj H
   go_enter Tryd.func7, Tryd.ntmps7
   try go_wp2_with (first | ((with_reducible refine gate_dst (N := 3) rfl ?_); refine box_event ?hg (N := 3) ?hd (cs := #[.slice A0_0 l0_0.length c0_0, .slice A0_1 l0_1.length c0_1, .slice A0_2 l0_2.length c0_2, .slice A0_3 l0_3.length c0_3]) (t := 70) ?hr ?_; (case hd => rfl); (case hg => rfl); (case hr => exact vz); intro gb274 hg w89 hbox hb; have BK274 := Aside0.mk (hbox); have GW274 := Aside0.mk ((by rw [hg]; exact (below_size (bz0 HB.out)) : w.heap.size <= gb274)); have GE274 := Aside0.mk ((by rw [hg]; exact (below_size (bz0 HB.out)) : w.heap.size <= gb274)); replace HB := Aside0.mk (below_step (bz0 HB.out) hb); clear hb hbox hg) | ((with_reducible refine gate_dst (N := 4) rfl ?_); refine box_event ?hg (N := 4) ?hd (cs := #[.int .i64 a1_0, .int .i64 a1_1]) (t := 71) ?hr ?_; (case hd => rfl); (case hg => rfl); (case hr => exact vz); intro gb275 hg w90 hbox hb; have BK275 := Aside0.mk (hbox); have GW275 := Aside0.mk ((by rw [hg]; exact (below_size (bz1 HB.out GE274.out)) : w.heap.size <= gb275)); have GE275 := Aside0.mk ((by rw [hg]; exact (below_size (bz1 HB.out GE274.out)) : w.heap.size <= gb275)); replace HB := Aside0.mk (below_step (bz1 HB.out GE274.out) hb); have NB274_275 := Aside0.mk ((by rw [hg]; exact Nat.ne_of_lt (blk_lt (g := gb274) (o := .cells #[.slice A0_0 l0_0.length c0_0, .slice A0_1 l0_1.length c0_1, .slice A0_2 l0_2.length c0_2, .slice A0_3 l0_3.length c0_3] 70 (0, 0)) (kz BK274.out)) : gb274 ≠ gb275)); have NB275_274 := Aside0.mk ((by rw [hg]; exact Nat.ne_of_gt (blk_lt (g := gb274) (o := .cells #[.slice A0_0 l0_0.length c0_0, .slice A0_1 l0_1.length c0_1, .slice A0_2 l0_2.length c0_2, .slice A0_3 l0_3.length c0_3] 70 (0, 0)) (kz BK274.out)) : gb275 ≠ gb274)); replace BK274 := Aside0.mk (blk_below (kz BK274.out) hb); clear hb hbox hg; have hnb91 := NB274_275.out; have hnc91 := NB275_274.out; obtain ⟨hcz92_0, hcz92_1, hcz92_2, hcz92_3⟩ := cz4 BK274.out; obtain ⟨hfz92_0, hfz92_1, hfz92_2, hfz92_3⟩ := fz4 BK274.out) | ((with_reducible refine gate_callee (f := 31) rfl ?_); refine goesL_ (some 13) rfl rfl Tryd.func31 (by kernel_rfl) rfl #[.agg #[.slice A0_0 l0_0.length c0_0, .slice A0_1 l0_1.length c0_1, .slice A0_2 l0_2.length c0_2, .slice A0_3 l0_3.length c0_3], .int .i64 1048576] rfl lz ?_; (with_reducible refine (laws_szHeap.calls _ _ l0_0 _ _ l0_1 _ _ l0_2 _ _ l0_3 1048576 t276 _ ?side1 ?side2 ?side3 ?side4 ?side5 ?side6 ?side7 ?side8 A4.out).mono ?_); (case side1 => exact cz (Kd.C_below HR0_0.out HB.out)); (case side2 => exact HC0_0.out); (case side3 => exact cz (Kd.C_below HR0_1.out HB.out)); (case side4 => exact HC0_1.out); (case side5 => exact cz (Kd.C_below HR0_2.out HB.out)); (case side6 => exact HC0_2.out); (case side7 => exact cz (Kd.C_below HR0_3.out HB.out)); (case side8 => exact HC0_3.out); rintro e w93 ⟨rfl, hb⟩; refine ⟨_, rfl, ?_⟩; replace BK274 := Aside0.mk (blk_below (kz BK274.out) hb); replace BK275 := Aside0.mk (blk_below (kz BK275.out) hb); replace HB := Aside0.mk (below_step (bz2 HB.out GE274.out GE275.out) hb); (try clear hb); (try clear hi)))
   have n0_ := Aside0.mk (blk_drew BK274.out)
   have n1_ := Aside0.mk (blk_drew BK275.out)
   have n2_ := Aside0.mk (below_drew1 HB.out)
   clear BK274
   clear BK275
   clear HB
   have BK274 := n0_
   have BK275 := n1_
   have HB := n2_
   clear n0_ n1_ n2_
   refine start_ (n := 7) (S := fun w' => w'.cell? ⟨gb274, 0, none⟩ = some (.slice A0_0 l0_0.length c0_0) /\ w'.cell? ⟨gb274, 1, none⟩ = some (.slice A0_1 l0_1.length c0_1) /\ w'.cell? ⟨gb274, 2, none⟩ = some (.slice A0_2 l0_2.length c0_2) /\ w'.cell? ⟨gb274, 3, none⟩ = some (.slice A0_3 l0_3.length c0_3) /\ w'.cell? ⟨gb275, 0, none⟩ = some (.int .i64 a1_0) /\ w'.cell? ⟨gb275, 1, none⟩ = some (.int .i64 a1_1)) (ds := []) #[ff, ff, ff, ff, ff, ff, ff] (by kernel_rfl) rfl rfl ⟨(blk_cell BK274.out 0).trans rfl, (blk_cell BK274.out 1).trans rfl, (blk_cell BK274.out 2).trans rfl, (blk_cell BK274.out 3).trans rfl, (blk_cell BK275.out 0).trans rfl, (blk_cell BK275.out 1).trans rfl⟩ (fun hHeld => ?_)
   generalize w93.drew = w94 at BK274 BK275 HB hHeld ⊢
   refine pure_ (i := 4) (N := some 20) (v := ?_) (a' := ?_) #[ff, ff, ff, ff, tt, ff, ff] rfl rfl (by kernel_rfl) (fun _ _ _ h => h) (Or.inl ⟨by rfl, ?_⟩) ?_ ?_
   rotate_left
   ·intro w'
    go_simp
    with_reducible rfl
   rotate_left
   ·simp only [Act.put, sz1, sz2, sz3, i64_w, i32_w]
    rfl
   refine take_ (i := 0) (N := some 16) (v := ?_) (a' := ?_) #[tt, ff, ff, ff, tt, ff, ff] rfl rfl (by kernel_rfl) (fun _ _ _ h => h) (Or.inl ⟨by rfl, ?_⟩) hHeld ?_ ?_
   rotate_left
   ·rintro w' ⟨s0, s1, s2, s3, s4, s5⟩
    go_simp
    with_reducible rfl
   rotate_left
   ·simp only [Act.put, sz1, sz2, sz3, i64_w, i32_w]
    rfl
   refine take_ (i := 2) (N := some 18) (v := ?_) (a' := ?_) #[tt, ff, tt, ff, tt, ff, ff] rfl rfl (by kernel_rfl) (fun _ _ _ h => h) (Or.inl ⟨by rfl, ?_⟩) hHeld ?_ ?_
   rotate_left
   ·rintro w' ⟨s0, s1, s2, s3, s4, s5⟩
    go_simp
    with_reducible rfl
   rotate_left
   ·simp only [Act.put, sz1, sz2, sz3, i64_w, i32_w]
    rfl
   refine one_ (i := 1) (N := some 17) #[tt, tt, tt, ff, tt, ff, ff] rfl rfl (by kernel_rfl) (by decide) (fun K hK => ?_)
   refine goes_ Tryd.func33 (by kernel_rfl) rfl #[.agg #[.slice A0_0 l0_0.length c0_0, .slice A0_1 l0_1.length c0_1, .slice A0_2 l0_2.length c0_2, .slice A0_3 l0_3.length c0_3]] (by rfl) rfl rfl lz ?_
   with_reducible refine (laws_toHeap.calls k _ _ l0_0 _ _ l0_1 _ _ l0_2 _ _ l0_3 t277 t280 t283 t286 _ ?side1 ?side2 ?side3 ?side4 ?side5 ?side6 ?side7 ?side8 A11.out).mono ?_
   (case side1 => exact cz (Kd.C_below HR0_0.out HB.out))
   (case side2 => exact HC0_0.out)
   (case side3 => exact cz (Kd.C_below HR0_1.out HB.out))
   (case side4 => exact HC0_1.out)
   (case side5 => exact cz (Kd.C_below HR0_2.out HB.out))
   (case side6 => exact HC0_2.out)
   (case side7 => exact cz (Kd.C_below HR0_3.out HB.out))
   (case side8 => exact HC0_3.out)
   rintro e w95 ⟨v278, v281, v284, v287, rfl, ho0, ho1, ho2, ho3, hb⟩
   refine ⟨_, rfl, ?_⟩
   have n0_ := Aside0.mk (Kd.R_lower ho0 (below_size (bz2 HB.out GE274.out GE275.out)))
   have n1_ := Aside0.mk (Kd.R_lower ho1 (below_size (bz2 HB.out GE274.out GE275.out)))
   have n2_ := Aside0.mk (Kd.R_lower ho2 (below_size (bz2 HB.out GE274.out GE275.out)))
   have n3_ := Aside0.mk (Kd.R_lower ho3 (below_size (bz2 HB.out GE274.out GE275.out)))
   have n4_ := Aside0.mk (blk_below (kz BK274.out) hb)
   have n5_ := Aside0.mk (blk_below (kz BK275.out) hb)
   have n6_ := Aside0.mk (below_step (bz2 HB.out GE274.out GE275.out) hb)
   clear BK274
   clear BK275
   clear HB
   have HO279 := n0_
   have HO282 := n1_
   have HO285 := n2_
   have HO288 := n3_
   have BK274 := n4_
   have BK275 := n5_
   have HB := n6_
   clear n0_ n1_ n2_ n3_ n4_ n5_ n6_
   (try clear hb)
   (try clear hb2)
   (try clear hk)
   (try clear hi)
   (try clear ho0)
   (try clear ho1)
   (try clear ho2)
   (try clear ho3)
   refine hK.out _ _ ⟨(blk_cell BK274.out 0).trans rfl, (blk_cell BK274.out 1).trans rfl, (blk_cell BK274.out 2).trans rfl, (blk_cell BK274.out 3).trans rfl, (blk_cell BK275.out 0).trans rfl, (blk_cell BK275.out 1).trans rfl⟩ (fun hHeld => ?_)
   clear hK K
   refine norm_ (a' := ?_) ?_ ?_
   rotate_left
   ·show Act.put _ (some 17) _ = _
    simp only [Act.put, sz1, sz2, sz3, i64_w, i32_w]
    rfl
   refine one_ (i := 3) (N := some 19) #[tt, tt, tt, tt, tt, ff, ff] rfl rfl (by kernel_rfl) (by decide) (fun K hK => ?_)
   refine goes_ Tryd.func34 (by kernel_rfl) rfl #[.agg #[.int .i64 a1_0, .int .i64 a1_1]] (by rfl) rfl rfl lz ?_
   with_reducible refine (laws_toVal.calls a1_0 a1_1 t289 t290 _ A12.out).mono ?_
   rintro e w96 ⟨rfl, hb⟩
   refine ⟨_, rfl, ?_⟩
   have n0_ := qz HO279 hb
   have n1_ := qz HO282 hb
   have n2_ := qz HO285 hb
   have n3_ := qz HO288 hb
   have n4_ := Aside0.mk (blk_below (kz BK274.out) hb)
   have n5_ := Aside0.mk (blk_below (kz BK275.out) hb)
   have n6_ := Aside0.mk (below_step (bz2 HB.out GE274.out GE275.out) hb)
   clear HO279
   clear HO282
   clear HO285
   clear HO288
   clear BK274
   clear BK275
   clear HB
   have HO279 := n0_
   have HO282 := n1_
   have HO285 := n2_
   have HO288 := n3_
   have BK274 := n4_
   have BK275 := n5_
   have HB := n6_
   clear n0_ n1_ n2_ n3_ n4_ n5_ n6_
   (try clear hb)
   (try clear hb2)
   (try clear hk)
   (try clear hi)
   obtain ⟨Ao97, co97, eo97⟩ := Kd.R_slice HO279.out
   (first | subst eo97 | (injection eo97 with f1_ f2_ f3_; have f4_ := f1_.symm; have f5_ := f3_.symm; clear f1_ f2_ f3_; subst f4_; subst f5_))
   obtain ⟨Ao98, co98, eo98⟩ := Kd.R_slice HO282.out
   (first | subst eo98 | (injection eo98 with f1_ f2_ f3_; have f4_ := f1_.symm; have f5_ := f3_.symm; clear f1_ f2_ f3_; subst f4_; subst f5_))
   obtain ⟨Ao99, co99, eo99⟩ := Kd.R_slice HO285.out
   (first | subst eo99 | (injection eo99 with f1_ f2_ f3_; have f4_ := f1_.symm; have f5_ := f3_.symm; clear f1_ f2_ f3_; subst f4_; subst f5_))
   obtain ⟨Ao100, co100, eo100⟩ := Kd.R_slice HO288.out
   (first | subst eo100 | (injection eo100 with f1_ f2_ f3_; have f4_ := f1_.symm; have f5_ := f3_.symm; clear f1_ f2_ f3_; subst f4_; subst f5_))
   refine hK.out _ _ ⟨(blk_cell BK274.out 0).trans rfl, (blk_cell BK274.out 1).trans rfl, (blk_cell BK274.out 2).trans rfl, (blk_cell BK274.out 3).trans rfl, (blk_cell BK275.out 0).trans rfl, (blk_cell BK275.out 1).trans rfl⟩ (fun hHeld => ?_)
   clear hK K
   refine norm_ (a' := ?_) ?_ ?_
   rotate_left
   ·show Act.put _ (some 19) _ = _
    simp only [Act.put, sz1, sz2, sz3, i64_w, i32_w]
    rfl
   refine one_ (i := 5) (N := some 21) #[tt, tt, tt, tt, tt, tt, ff] rfl rfl (by kernel_rfl) (by decide) (fun K hK => ?_)
   refine goes_ Tryd.func32 (by kernel_rfl) rfl #[.agg #[.slice Ao97 t277.length co97, .slice Ao98 t280.length co98, .slice Ao99 t283.length co99, .slice Ao100 t286.length co100], .agg #[.int .i64 t289, .int .i64 t290], .int .i64 a2] (by rfl) rfl rfl lz ?_
   with_reducible refine (spec_ShowVal.calls k _ _ t277 _ _ t280 _ _ t283 _ _ t286 t289 t290 a2 t291 _ ?side1 ?side2 ?side3 ?side4 ?side5 ?side6 ?side7 ?side8 A13.out).mono ?_
   (case side1 => exact cz (Kd.R_reads' HO279.out).2.2)
   (case side2 => exact (Kd.R_reads' HO279.out).2.1)
   (case side3 => exact cz (Kd.R_reads' HO282.out).2.2)
   (case side4 => exact (Kd.R_reads' HO282.out).2.1)
   (case side5 => exact cz (Kd.R_reads' HO285.out).2.2)
   (case side6 => exact (Kd.R_reads' HO285.out).2.1)
   (case side7 => exact cz (Kd.R_reads' HO288.out).2.2)
   (case side8 => exact (Kd.R_reads' HO288.out).2.1)
   rintro e w101 ⟨rfl, hb⟩
   refine ⟨_, rfl, ?_⟩
   have n0_ := qz HO279 hb
   have n1_ := qz HO282 hb
   have n2_ := qz HO285 hb
   have n3_ := qz HO288 hb
   have n4_ := Aside0.mk (blk_below (kz BK274.out) hb)
   have n5_ := Aside0.mk (blk_below (kz BK275.out) hb)
   have n6_ := Aside0.mk (below_step (bz2 HB.out GE274.out GE275.out) hb)
   clear HO279
   clear HO282
   clear HO285
   clear HO288
   clear BK274
   clear BK275
   clear HB
   have HO279 := n0_
   have HO282 := n1_
   have HO285 := n2_
   have HO288 := n3_
   have BK274 := n4_
   have BK275 := n5_
   have HB := n6_
   clear n0_ n1_ n2_ n3_ n4_ n5_ n6_
   (try clear hb)
   (try clear hb2)
   (try clear hk)
   (try clear hi)
   refine hK.out _ _ ⟨(blk_cell BK274.out 0).trans rfl, (blk_cell BK274.out 1).trans rfl, (blk_cell BK274.out 2).trans rfl, (blk_cell BK274.out 3).trans rfl, (blk_cell BK275.out 0).trans rfl, (blk_cell BK275.out 1).trans rfl⟩ (fun hHeld => ?_)
   clear hK K
   refine norm_ (a' := ?_) ?_ ?_
   rotate_left
   ·show Act.put _ (some 21) _ = _
    simp only [Act.put, sz1, sz2, sz3, i64_w, i32_w]
    rfl
   refine pure_ (i := 6) (N := some 8) (v := ?_) (a' := ?_) #[tt, tt, tt, tt, tt, tt, tt] rfl rfl (by kernel_rfl) (fun _ _ _ h => h) (Or.inl ⟨by rfl, ?_⟩) ?_ ?_
   rotate_left
   ·intro w'
    go_simp
    with_reducible rfl
   rotate_left
   ·simp only [Act.put, sz1, sz2, sz3, i64_w, i32_w]
    rfl
   refine done_ (by kernel_rfl) ?_
   obtain ⟨hcz102_0, hcz102_1, hcz102_2, hcz102_3⟩ := cz4 BK274.out
   obtain ⟨hfz102_0, hfz102_1, hfz102_2, hfz102_3⟩ := fz4 BK274.out
   try go_wp2_with (first | ((with_reducible refine gate_callee (f := 33) rfl ?_); refine goesL_ (some 23) rfl rfl Tryd.func33 (by kernel_rfl) rfl #[.agg #[.slice A0_0 l0_0.length c0_0, .slice A0_1 l0_1.length c0_1, .slice A0_2 l0_2.length c0_2, .slice A0_3 l0_3.length c0_3]] rfl lz ?_; (with_reducible refine (laws_toHeap.calls k _ _ l0_0 _ _ l0_1 _ _ l0_2 _ _ l0_3 t292 t295 t298 t301 _ ?side1 ?side2 ?side3 ?side4 ?side5 ?side6 ?side7 ?side8 A14.out).mono ?_); (case side1 => exact cz (Kd.C_below HR0_0.out HB.out)); (case side2 => exact HC0_0.out); (case side3 => exact cz (Kd.C_below HR0_1.out HB.out)); (case side4 => exact HC0_1.out); (case side5 => exact cz (Kd.C_below HR0_2.out HB.out)); (case side6 => exact HC0_2.out); (case side7 => exact cz (Kd.C_below HR0_3.out HB.out)); (case side8 => exact HC0_3.out); rintro e w103 ⟨v293, v296, v299, v302, rfl, ho0, ho1, ho2, ho3, hb⟩; refine ⟨_, rfl, ?_⟩; have HO294 := Aside0.mk (Kd.R_lower (Kd.R_new' ho0 (Kd.R_lt (rz HO279.out))) (below_size (bz2 HB.out GE274.out GE275.out))); replace HO279 := Aside0.mk (Kd.R_elder' (rz HO279.out) (Kd.R_base ho0) hb); have HO297 := Aside0.mk (Kd.R_lower (Kd.R_new' ho1 (Kd.R_lt (rz HO282.out))) (below_size (bz2 HB.out GE274.out GE275.out))); replace HO282 := Aside0.mk (Kd.R_elder' (rz HO282.out) (Kd.R_base ho1) hb); have HO300 := Aside0.mk (Kd.R_lower (Kd.R_new' ho2 (Kd.R_lt (rz HO285.out))) (below_size (bz2 HB.out GE274.out GE275.out))); replace HO285 := Aside0.mk (Kd.R_elder' (rz HO285.out) (Kd.R_base ho2) hb); have HO303 := Aside0.mk (Kd.R_lower (Kd.R_new' ho3 (Kd.R_lt (rz HO288.out))) (below_size (bz2 HB.out GE274.out GE275.out))); replace HO288 := Aside0.mk (Kd.R_elder' (rz HO288.out) (Kd.R_base ho3) hb); replace BK274 := Aside0.mk (blk_below (kz BK274.out) hb); replace BK275 := Aside0.mk (blk_below (kz BK275.out) hb); replace HB := Aside0.mk (below_step (bz2 HB.out GE274.out GE275.out) hb); (try clear hb); (try clear ho0); (try clear ho1); (try clear ho2); (try clear ho3)) | ((with_reducible refine gate_dst (N := 9) rfl ?_); refine box_event ?hg (N := 9) ?hd (cs := #[.slice none 0 0, .slice none 0 0, .slice none 0 0, .slice none 0 0]) (t := 29) ?hr ?_; (case hd => rfl); (case hg => rfl); (case hr => exact vz); intro gb304 hg w104 hbox hb; replace HO279 := qz HO279 hb; replace HO282 := qz HO282 hb; replace HO285 := qz HO285 hb; replace HO288 := qz HO288 hb; replace HO294 := qz HO294 hb; replace HO297 := qz HO297 hb; replace HO300 := qz HO300 hb; replace HO303 := qz HO303 hb; have BK304 := Aside0.mk (hbox); have GW304 := Aside0.mk ((by rw [hg]; exact (below_size (bz2 HB.out GE274.out GE275.out)) : w.heap.size <= gb304)); have GE304 := Aside0.mk ((by rw [hg]; exact (below_size (bz2 HB.out GE274.out GE275.out)) : w.heap.size <= gb304)); replace HB := Aside0.mk (below_step (bz2 HB.out GE274.out GE275.out) hb); have NB274_304 := Aside0.mk ((by rw [hg]; exact Nat.ne_of_lt (blk_lt (g := gb274) (o := .cells #[.slice A0_0 l0_0.length c0_0, .slice A0_1 l0_1.length c0_1, .slice A0_2 l0_2.length c0_2, .slice A0_3 l0_3.length c0_3] 70 (0, 0)) (kz BK274.out)) : gb274 ≠ gb304)); have NB304_274 := Aside0.mk ((by rw [hg]; exact Nat.ne_of_gt (blk_lt (g := gb274) (o := .cells #[.slice A0_0 l0_0.length c0_0, .slice A0_1 l0_1.length c0_1, .slice A0_2 l0_2.length c0_2, .slice A0_3 l0_3.length c0_3] 70 (0, 0)) (kz BK274.out)) : gb304 ≠ gb274)); replace BK274 := Aside0.mk (blk_below (kz BK274.out) hb); have NB275_304 := Aside0.mk ((by rw [hg]; exact Nat.ne_of_lt (blk_lt (g := gb275) (o := .cells #[.int .i64 a1_0, .int .i64 a1_1] 71 (0, 0)) (kz BK275.out)) : gb275 ≠ gb304)); have NB304_275 := Aside0.mk ((by rw [hg]; exact Nat.ne_of_gt (blk_lt (g := gb275) (o := .cells #[.int .i64 a1_0, .int .i64 a1_1] 71 (0, 0)) (kz BK275.out)) : gb304 ≠ gb275)); replace BK275 := Aside0.mk (blk_below (kz BK275.out) hb); clear hb hbox hg; obtain ⟨Ao105, co105, eo105⟩ := Kd.R_slice HO294.out; subst eo105; have hnb106 := NB304_274.out; have hnc106 := NB274_304.out; have hnb107 := NB304_275.out; have hnc107 := NB275_304.out; obtain ⟨hcz108_0, hcz108_1, hcz108_2, hcz108_3⟩ := cz4 BK304.out; obtain ⟨hfz108_0, hfz108_1, hfz108_2, hfz108_3⟩ := fz4 BK304.out; obtain ⟨Ao109, co109, eo109⟩ := Kd.R_slice HO297.out; subst eo109; obtain ⟨Ao110, co110, eo110⟩ := Kd.R_slice HO300.out; subst eo110; obtain ⟨Ao111, co111, eo111⟩ := Kd.R_slice HO303.out; subst eo111))
   have n0_ : Aside0 (Kd.R k41 41 ((((w104.setCell ⟨gb304, 0, none⟩ (.slice Ao105 t292.length co105)).setCell ⟨gb304, 1, none⟩ (.slice Ao109 t295.length co109)).setCell ⟨gb304, 2, none⟩ (.slice Ao110 t298.length co110)).setCell ⟨gb304, 3, none⟩ (.slice Ao111 t301.length co111)) w.heap.size (fun k_ => some k_ ≠ (.slice Ao105 t292.length co105 : Value).ownBlock) (.slice Ao97 t277.length co97) t277) := ⟨by refine rq ?_; first | (with_reducible exact Kd.R_mono (Kd.R_far (p := ⟨gb304, 3, none⟩) (Kd.R_far (p := ⟨gb304, 2, none⟩) (Kd.R_far (p := ⟨gb304, 1, none⟩) (Kd.R_far (p := ⟨gb304, 0, none⟩) (Kd.R_types HO279.out BK304.out (by decide)) (fun _ hk => hk.2) (.slice Ao105 t292.length co105)) (fun _ hk => hk.2) (.slice Ao109 t295.length co109)) (fun _ hk => hk.2) (.slice Ao110 t298.length co110)) (fun _ hk => hk.2) (.slice Ao111 t301.length co111)) (fun _ hk => hk.1.2)) | (with_reducible exact Kd.R_mono (Kd.R_far (p := ⟨gb304, 3, none⟩) (Kd.R_drewN (Kd.R_far (p := ⟨gb304, 2, none⟩) (Kd.R_far (p := ⟨gb304, 1, none⟩) (Kd.R_far (p := ⟨gb304, 0, none⟩) (Kd.R_types HO279.out BK304.out (by decide)) (fun _ hk => hk.2) (.slice Ao105 t292.length co105)) (fun _ hk => hk.2) (.slice Ao109 t295.length co109)) (fun _ hk => hk.2) (.slice Ao110 t298.length co110)) _) (fun _ hk => hk.2) (.slice Ao111 t301.length co111)) (fun _ hk => hk.1.2)) | exact Kd.R_mono (Kd.R_far (p := ⟨gb304, 3, none⟩) (Kd.R_drewN (Kd.R_far (p := ⟨gb304, 2, none⟩) (Kd.R_far (p := ⟨gb304, 1, none⟩) (Kd.R_far (p := ⟨gb304, 0, none⟩) (Kd.R_types HO279.out BK304.out (by decide)) (fun _ hk => hk.2) (.slice Ao105 t292.length co105)) (fun _ hk => hk.2) (.slice Ao109 t295.length co109)) (fun _ hk => hk.2) (.slice Ao110 t298.length co110)) _) (fun _ hk => hk.2) (.slice Ao111 t301.length co111)) (fun _ hk => hk.1.2)⟩
   have n1_ : Aside0 (Kd.R k86 86 ((((w104.setCell ⟨gb304, 0, none⟩ (.slice Ao105 t292.length co105)).setCell ⟨gb304, 1, none⟩ (.slice Ao109 t295.length co109)).setCell ⟨gb304, 2, none⟩ (.slice Ao110 t298.length co110)).setCell ⟨gb304, 3, none⟩ (.slice Ao111 t301.length co111)) w.heap.size (fun k_ => some k_ ≠ (.slice Ao109 t295.length co109 : Value).ownBlock) (.slice Ao98 t280.length co98) t280) := ⟨by refine rq ?_; first | (with_reducible exact Kd.R_mono (Kd.R_far (p := ⟨gb304, 3, none⟩) (Kd.R_far (p := ⟨gb304, 2, none⟩) (Kd.R_far (p := ⟨gb304, 1, none⟩) (Kd.R_far (p := ⟨gb304, 0, none⟩) (Kd.R_types HO282.out BK304.out (by decide)) (fun _ hk => hk.2) (.slice Ao105 t292.length co105)) (fun _ hk => hk.2) (.slice Ao109 t295.length co109)) (fun _ hk => hk.2) (.slice Ao110 t298.length co110)) (fun _ hk => hk.2) (.slice Ao111 t301.length co111)) (fun _ hk => hk.1.2)) | (with_reducible exact Kd.R_mono (Kd.R_far (p := ⟨gb304, 3, none⟩) (Kd.R_drewN (Kd.R_far (p := ⟨gb304, 2, none⟩) (Kd.R_far (p := ⟨gb304, 1, none⟩) (Kd.R_far (p := ⟨gb304, 0, none⟩) (Kd.R_types HO282.out BK304.out (by decide)) (fun _ hk => hk.2) (.slice Ao105 t292.length co105)) (fun _ hk => hk.2) (.slice Ao109 t295.length co109)) (fun _ hk => hk.2) (.slice Ao110 t298.length co110)) _) (fun _ hk => hk.2) (.slice Ao111 t301.length co111)) (fun _ hk => hk.1.2)) | exact Kd.R_mono (Kd.R_far (p := ⟨gb304, 3, none⟩) (Kd.R_drewN (Kd.R_far (p := ⟨gb304, 2, none⟩) (Kd.R_far (p := ⟨gb304, 1, none⟩) (Kd.R_far (p := ⟨gb304, 0, none⟩) (Kd.R_types HO282.out BK304.out (by decide)) (fun _ hk => hk.2) (.slice Ao105 t292.length co105)) (fun _ hk => hk.2) (.slice Ao109 t295.length co109)) (fun _ hk => hk.2) (.slice Ao110 t298.length co110)) _) (fun _ hk => hk.2) (.slice Ao111 t301.length co111)) (fun _ hk => hk.1.2)⟩
   have n2_ : Aside0 (Kd.R k47 47 ((((w104.setCell ⟨gb304, 0, none⟩ (.slice Ao105 t292.length co105)).setCell ⟨gb304, 1, none⟩ (.slice Ao109 t295.length co109)).setCell ⟨gb304, 2, none⟩ (.slice Ao110 t298.length co110)).setCell ⟨gb304, 3, none⟩ (.slice Ao111 t301.length co111)) w.heap.size (fun k_ => some k_ ≠ (.slice Ao110 t298.length co110 : Value).ownBlock) (.slice Ao99 t283.length co99) t283) := ⟨by refine rq ?_; first | (with_reducible exact Kd.R_mono (Kd.R_far (p := ⟨gb304, 3, none⟩) (Kd.R_far (p := ⟨gb304, 2, none⟩) (Kd.R_far (p := ⟨gb304, 1, none⟩) (Kd.R_far (p := ⟨gb304, 0, none⟩) (Kd.R_types HO285.out BK304.out (by decide)) (fun _ hk => hk.2) (.slice Ao105 t292.length co105)) (fun _ hk => hk.2) (.slice Ao109 t295.length co109)) (fun _ hk => hk.2) (.slice Ao110 t298.length co110)) (fun _ hk => hk.2) (.slice Ao111 t301.length co111)) (fun _ hk => hk.1.2)) | (with_reducible exact Kd.R_mono (Kd.R_far (p := ⟨gb304, 3, none⟩) (Kd.R_drewN (Kd.R_far (p := ⟨gb304, 2, none⟩) (Kd.R_far (p := ⟨gb304, 1, none⟩) (Kd.R_far (p := ⟨gb304, 0, none⟩) (Kd.R_types HO285.out BK304.out (by decide)) (fun _ hk => hk.2) (.slice Ao105 t292.length co105)) (fun _ hk => hk.2) (.slice Ao109 t295.length co109)) (fun _ hk => hk.2) (.slice Ao110 t298.length co110)) _) (fun _ hk => hk.2) (.slice Ao111 t301.length co111)) (fun _ hk => hk.1.2)) | exact Kd.R_mono (Kd.R_far (p := ⟨gb304, 3, none⟩) (Kd.R_drewN (Kd.R_far (p := ⟨gb304, 2, none⟩) (Kd.R_far (p := ⟨gb304, 1, none⟩) (Kd.R_far (p := ⟨gb304, 0, none⟩) (Kd.R_types HO285.out BK304.out (by decide)) (fun _ hk => hk.2) (.slice Ao105 t292.length co105)) (fun _ hk => hk.2) (.slice Ao109 t295.length co109)) (fun _ hk => hk.2) (.slice Ao110 t298.length co110)) _) (fun _ hk => hk.2) (.slice Ao111 t301.length co111)) (fun _ hk => hk.1.2)⟩
   have n3_ : Aside0 (Kd.R k35 35 ((((w104.setCell ⟨gb304, 0, none⟩ (.slice Ao105 t292.length co105)).setCell ⟨gb304, 1, none⟩ (.slice Ao109 t295.length co109)).setCell ⟨gb304, 2, none⟩ (.slice Ao110 t298.length co110)).setCell ⟨gb304, 3, none⟩ (.slice Ao111 t301.length co111)) w.heap.size (fun k_ => some k_ ≠ (.slice Ao111 t301.length co111 : Value).ownBlock) (.slice Ao100 t286.length co100) t286) := ⟨by refine rq ?_; first | (with_reducible exact Kd.R_mono (Kd.R_far (p := ⟨gb304, 3, none⟩) (Kd.R_far (p := ⟨gb304, 2, none⟩) (Kd.R_far (p := ⟨gb304, 1, none⟩) (Kd.R_far (p := ⟨gb304, 0, none⟩) (Kd.R_types HO288.out BK304.out (by decide)) (fun _ hk => hk.2) (.slice Ao105 t292.length co105)) (fun _ hk => hk.2) (.slice Ao109 t295.length co109)) (fun _ hk => hk.2) (.slice Ao110 t298.length co110)) (fun _ hk => hk.2) (.slice Ao111 t301.length co111)) (fun _ hk => hk.1.2)) | (with_reducible exact Kd.R_mono (Kd.R_far (p := ⟨gb304, 3, none⟩) (Kd.R_drewN (Kd.R_far (p := ⟨gb304, 2, none⟩) (Kd.R_far (p := ⟨gb304, 1, none⟩) (Kd.R_far (p := ⟨gb304, 0, none⟩) (Kd.R_types HO288.out BK304.out (by decide)) (fun _ hk => hk.2) (.slice Ao105 t292.length co105)) (fun _ hk => hk.2) (.slice Ao109 t295.length co109)) (fun _ hk => hk.2) (.slice Ao110 t298.length co110)) _) (fun _ hk => hk.2) (.slice Ao111 t301.length co111)) (fun _ hk => hk.1.2)) | exact Kd.R_mono (Kd.R_far (p := ⟨gb304, 3, none⟩) (Kd.R_drewN (Kd.R_far (p := ⟨gb304, 2, none⟩) (Kd.R_far (p := ⟨gb304, 1, none⟩) (Kd.R_far (p := ⟨gb304, 0, none⟩) (Kd.R_types HO288.out BK304.out (by decide)) (fun _ hk => hk.2) (.slice Ao105 t292.length co105)) (fun _ hk => hk.2) (.slice Ao109 t295.length co109)) (fun _ hk => hk.2) (.slice Ao110 t298.length co110)) _) (fun _ hk => hk.2) (.slice Ao111 t301.length co111)) (fun _ hk => hk.1.2)⟩
   have n4_ : Aside0 (Kd.R k41 41 ((((w104.setCell ⟨gb304, 0, none⟩ (.slice Ao105 t292.length co105)).setCell ⟨gb304, 1, none⟩ (.slice Ao109 t295.length co109)).setCell ⟨gb304, 2, none⟩ (.slice Ao110 t298.length co110)).setCell ⟨gb304, 3, none⟩ (.slice Ao111 t301.length co111)) w.heap.size (fun k_ => some k_ ≠ (.slice Ao97 t277.length co97 : Value).ownBlock) (.slice Ao105 t292.length co105) t292) := ⟨by refine rq ?_; first | (with_reducible exact Kd.R_mono (Kd.R_far (p := ⟨gb304, 3, none⟩) (Kd.R_far (p := ⟨gb304, 2, none⟩) (Kd.R_far (p := ⟨gb304, 1, none⟩) (Kd.R_far (p := ⟨gb304, 0, none⟩) (Kd.R_types HO294.out BK304.out (by decide)) (fun _ hk => hk.2) (.slice Ao105 t292.length co105)) (fun _ hk => hk.2) (.slice Ao109 t295.length co109)) (fun _ hk => hk.2) (.slice Ao110 t298.length co110)) (fun _ hk => hk.2) (.slice Ao111 t301.length co111)) (fun _ hk => hk.1.2)) | (with_reducible exact Kd.R_mono (Kd.R_far (p := ⟨gb304, 3, none⟩) (Kd.R_drewN (Kd.R_far (p := ⟨gb304, 2, none⟩) (Kd.R_far (p := ⟨gb304, 1, none⟩) (Kd.R_far (p := ⟨gb304, 0, none⟩) (Kd.R_types HO294.out BK304.out (by decide)) (fun _ hk => hk.2) (.slice Ao105 t292.length co105)) (fun _ hk => hk.2) (.slice Ao109 t295.length co109)) (fun _ hk => hk.2) (.slice Ao110 t298.length co110)) _) (fun _ hk => hk.2) (.slice Ao111 t301.length co111)) (fun _ hk => hk.1.2)) | exact Kd.R_mono (Kd.R_far (p := ⟨gb304, 3, none⟩) (Kd.R_drewN (Kd.R_far (p := ⟨gb304, 2, none⟩) (Kd.R_far (p := ⟨gb304, 1, none⟩) (Kd.R_far (p := ⟨gb304, 0, none⟩) (Kd.R_types HO294.out BK304.out (by decide)) (fun _ hk => hk.2) (.slice Ao105 t292.length co105)) (fun _ hk => hk.2) (.slice Ao109 t295.length co109)) (fun _ hk => hk.2) (.slice Ao110 t298.length co110)) _) (fun _ hk => hk.2) (.slice Ao111 t301.length co111)) (fun _ hk => hk.1.2)⟩
   have n5_ : Aside0 (Kd.R k86 86 ((((w104.setCell ⟨gb304, 0, none⟩ (.slice Ao105 t292.length co105)).setCell ⟨gb304, 1, none⟩ (.slice Ao109 t295.length co109)).setCell ⟨gb304, 2, none⟩ (.slice Ao110 t298.length co110)).setCell ⟨gb304, 3, none⟩ (.slice Ao111 t301.length co111)) w.heap.size (fun k_ => some k_ ≠ (.slice Ao98 t280.length co98 : Value).ownBlock) (.slice Ao109 t295.length co109) t295) := ⟨by refine rq ?_; first | (with_reducible exact Kd.R_mono (Kd.R_far (p := ⟨gb304, 3, none⟩) (Kd.R_far (p := ⟨gb304, 2, none⟩) (Kd.R_far (p := ⟨gb304, 1, none⟩) (Kd.R_far (p := ⟨gb304, 0, none⟩) (Kd.R_types HO297.out BK304.out (by decide)) (fun _ hk => hk.2) (.slice Ao105 t292.length co105)) (fun _ hk => hk.2) (.slice Ao109 t295.length co109)) (fun _ hk => hk.2) (.slice Ao110 t298.length co110)) (fun _ hk => hk.2) (.slice Ao111 t301.length co111)) (fun _ hk => hk.1.2)) | (with_reducible exact Kd.R_mono (Kd.R_far (p := ⟨gb304, 3, none⟩) (Kd.R_drewN (Kd.R_far (p := ⟨gb304, 2, none⟩) (Kd.R_far (p := ⟨gb304, 1, none⟩) (Kd.R_far (p := ⟨gb304, 0, none⟩) (Kd.R_types HO297.out BK304.out (by decide)) (fun _ hk => hk.2) (.slice Ao105 t292.length co105)) (fun _ hk => hk.2) (.slice Ao109 t295.length co109)) (fun _ hk => hk.2) (.slice Ao110 t298.length co110)) _) (fun _ hk => hk.2) (.slice Ao111 t301.length co111)) (fun _ hk => hk.1.2)) | exact Kd.R_mono (Kd.R_far (p := ⟨gb304, 3, none⟩) (Kd.R_drewN (Kd.R_far (p := ⟨gb304, 2, none⟩) (Kd.R_far (p := ⟨gb304, 1, none⟩) (Kd.R_far (p := ⟨gb304, 0, none⟩) (Kd.R_types HO297.out BK304.out (by decide)) (fun _ hk => hk.2) (.slice Ao105 t292.length co105)) (fun _ hk => hk.2) (.slice Ao109 t295.length co109)) (fun _ hk => hk.2) (.slice Ao110 t298.length co110)) _) (fun _ hk => hk.2) (.slice Ao111 t301.length co111)) (fun _ hk => hk.1.2)⟩
   have n6_ : Aside0 (Kd.R k47 47 ((((w104.setCell ⟨gb304, 0, none⟩ (.slice Ao105 t292.length co105)).setCell ⟨gb304, 1, none⟩ (.slice Ao109 t295.length co109)).setCell ⟨gb304, 2, none⟩ (.slice Ao110 t298.length co110)).setCell ⟨gb304, 3, none⟩ (.slice Ao111 t301.length co111)) w.heap.size (fun k_ => some k_ ≠ (.slice Ao99 t283.length co99 : Value).ownBlock) (.slice Ao110 t298.length co110) t298) := ⟨by refine rq ?_; first | (with_reducible exact Kd.R_mono (Kd.R_far (p := ⟨gb304, 3, none⟩) (Kd.R_far (p := ⟨gb304, 2, none⟩) (Kd.R_far (p := ⟨gb304, 1, none⟩) (Kd.R_far (p := ⟨gb304, 0, none⟩) (Kd.R_types HO300.out BK304.out (by decide)) (fun _ hk => hk.2) (.slice Ao105 t292.length co105)) (fun _ hk => hk.2) (.slice Ao109 t295.length co109)) (fun _ hk => hk.2) (.slice Ao110 t298.length co110)) (fun _ hk => hk.2) (.slice Ao111 t301.length co111)) (fun _ hk => hk.1.2)) | (with_reducible exact Kd.R_mono (Kd.R_far (p := ⟨gb304, 3, none⟩) (Kd.R_drewN (Kd.R_far (p := ⟨gb304, 2, none⟩) (Kd.R_far (p := ⟨gb304, 1, none⟩) (Kd.R_far (p := ⟨gb304, 0, none⟩) (Kd.R_types HO300.out BK304.out (by decide)) (fun _ hk => hk.2) (.slice Ao105 t292.length co105)) (fun _ hk => hk.2) (.slice Ao109 t295.length co109)) (fun _ hk => hk.2) (.slice Ao110 t298.length co110)) _) (fun _ hk => hk.2) (.slice Ao111 t301.length co111)) (fun _ hk => hk.1.2)) | exact Kd.R_mono (Kd.R_far (p := ⟨gb304, 3, none⟩) (Kd.R_drewN (Kd.R_far (p := ⟨gb304, 2, none⟩) (Kd.R_far (p := ⟨gb304, 1, none⟩) (Kd.R_far (p := ⟨gb304, 0, none⟩) (Kd.R_types HO300.out BK304.out (by decide)) (fun _ hk => hk.2) (.slice Ao105 t292.length co105)) (fun _ hk => hk.2) (.slice Ao109 t295.length co109)) (fun _ hk => hk.2) (.slice Ao110 t298.length co110)) _) (fun _ hk => hk.2) (.slice Ao111 t301.length co111)) (fun _ hk => hk.1.2)⟩
   have n7_ : Aside0 (Kd.R k35 35 ((((w104.setCell ⟨gb304, 0, none⟩ (.slice Ao105 t292.length co105)).setCell ⟨gb304, 1, none⟩ (.slice Ao109 t295.length co109)).setCell ⟨gb304, 2, none⟩ (.slice Ao110 t298.length co110)).setCell ⟨gb304, 3, none⟩ (.slice Ao111 t301.length co111)) w.heap.size (fun k_ => some k_ ≠ (.slice Ao100 t286.length co100 : Value).ownBlock) (.slice Ao111 t301.length co111) t301) := ⟨by refine rq ?_; first | (with_reducible exact Kd.R_mono (Kd.R_far (p := ⟨gb304, 3, none⟩) (Kd.R_far (p := ⟨gb304, 2, none⟩) (Kd.R_far (p := ⟨gb304, 1, none⟩) (Kd.R_far (p := ⟨gb304, 0, none⟩) (Kd.R_types HO303.out BK304.out (by decide)) (fun _ hk => hk.2) (.slice Ao105 t292.length co105)) (fun _ hk => hk.2) (.slice Ao109 t295.length co109)) (fun _ hk => hk.2) (.slice Ao110 t298.length co110)) (fun _ hk => hk.2) (.slice Ao111 t301.length co111)) (fun _ hk => hk.1.2)) | (with_reducible exact Kd.R_mono (Kd.R_far (p := ⟨gb304, 3, none⟩) (Kd.R_drewN (Kd.R_far (p := ⟨gb304, 2, none⟩) (Kd.R_far (p := ⟨gb304, 1, none⟩) (Kd.R_far (p := ⟨gb304, 0, none⟩) (Kd.R_types HO303.out BK304.out (by decide)) (fun _ hk => hk.2) (.slice Ao105 t292.length co105)) (fun _ hk => hk.2) (.slice Ao109 t295.length co109)) (fun _ hk => hk.2) (.slice Ao110 t298.length co110)) _) (fun _ hk => hk.2) (.slice Ao111 t301.length co111)) (fun _ hk => hk.1.2)) | exact Kd.R_mono (Kd.R_far (p := ⟨gb304, 3, none⟩) (Kd.R_drewN (Kd.R_far (p := ⟨gb304, 2, none⟩) (Kd.R_far (p := ⟨gb304, 1, none⟩) (Kd.R_far (p := ⟨gb304, 0, none⟩) (Kd.R_types HO303.out BK304.out (by decide)) (fun _ hk => hk.2) (.slice Ao105 t292.length co105)) (fun _ hk => hk.2) (.slice Ao109 t295.length co109)) (fun _ hk => hk.2) (.slice Ao110 t298.length co110)) _) (fun _ hk => hk.2) (.slice Ao111 t301.length co111)) (fun _ hk => hk.1.2)⟩
   have n8_ : Aside0 (((((w104.setCell ⟨gb304, 0, none⟩ (.slice Ao105 t292.length co105)).setCell ⟨gb304, 1, none⟩ (.slice Ao109 t295.length co109)).setCell ⟨gb304, 2, none⟩ (.slice Ao110 t298.length co110)).setCell ⟨gb304, 3, none⟩ (.slice Ao111 t301.length co111)).heap[gb274]? = some (.cells #[.slice A0_0 l0_0.length c0_0, .slice A0_1 l0_1.length c0_1, .slice A0_2 l0_2.length c0_2, .slice A0_3 l0_3.length c0_3] 70 (0, 0))) := ⟨by refine kq ?_; refine blk_far ?_ NB274_304.out _; refine kq ?_; refine blk_far ?_ NB274_304.out _; refine kq ?_; refine blk_far ?_ NB274_304.out _; refine kq ?_; refine blk_far ?_ NB274_304.out _; refine kq ?_; exact BK274.out⟩
   have n9_ : Aside0 (((((w104.setCell ⟨gb304, 0, none⟩ (.slice Ao105 t292.length co105)).setCell ⟨gb304, 1, none⟩ (.slice Ao109 t295.length co109)).setCell ⟨gb304, 2, none⟩ (.slice Ao110 t298.length co110)).setCell ⟨gb304, 3, none⟩ (.slice Ao111 t301.length co111)).heap[gb275]? = some (.cells #[.int .i64 a1_0, .int .i64 a1_1] 71 (0, 0))) := ⟨by refine kq ?_; refine blk_far ?_ NB275_304.out _; refine kq ?_; refine blk_far ?_ NB275_304.out _; refine kq ?_; refine blk_far ?_ NB275_304.out _; refine kq ?_; refine blk_far ?_ NB275_304.out _; refine kq ?_; exact BK275.out⟩
   have n10_ : Aside0 (((((w104.setCell ⟨gb304, 0, none⟩ (.slice Ao105 t292.length co105)).setCell ⟨gb304, 1, none⟩ (.slice Ao109 t295.length co109)).setCell ⟨gb304, 2, none⟩ (.slice Ao110 t298.length co110)).setCell ⟨gb304, 3, none⟩ (.slice Ao111 t301.length co111)).heap[gb304]? = some (.cells #[.slice Ao105 t292.length co105, .slice Ao109 t295.length co109, .slice Ao110 t298.length co110, .slice Ao111 t301.length co111] 29 (0, 0))) := ⟨by refine kq ?_; refine blk_put (cs := #[.slice Ao105 t292.length co105, .slice Ao109 t295.length co109, .slice Ao110 t298.length co110, .slice none 0 0]) ?_ 3 _ rfl; refine kq ?_; refine blk_put (cs := #[.slice Ao105 t292.length co105, .slice Ao109 t295.length co109, .slice none 0 0, .slice none 0 0]) ?_ 2 _ rfl; refine kq ?_; refine blk_put (cs := #[.slice Ao105 t292.length co105, .slice none 0 0, .slice none 0 0, .slice none 0 0]) ?_ 1 _ rfl; refine kq ?_; refine blk_put (cs := #[.slice none 0 0, .slice none 0 0, .slice none 0 0, .slice none 0 0]) ?_ 0 _ rfl; refine kq ?_; exact BK304.out⟩
   have n11_ : Aside0 (Below w.heap.size w ((((w104.setCell ⟨gb304, 0, none⟩ (.slice Ao105 t292.length co105)).setCell ⟨gb304, 1, none⟩ (.slice Ao109 t295.length co109)).setCell ⟨gb304, 2, none⟩ (.slice Ao110 t298.length co110)).setCell ⟨gb304, 3, none⟩ (.slice Ao111 t301.length co111))) := ⟨(bz3 HB.out GE274.out GE275.out GE304.out)⟩
   (try clear HO279)
   (try clear HO282)
   (try clear HO285)
   (try clear HO288)
   (try clear HO294)
   (try clear HO297)
   (try clear HO300)
   (try clear HO303)
   (try clear BK274)
   (try clear BK275)
   (try clear BK304)
   (try clear HB)
   generalize ((((w104.setCell ⟨gb304, 0, none⟩ (.slice Ao105 t292.length co105)).setCell ⟨gb304, 1, none⟩ (.slice Ao109 t295.length co109)).setCell ⟨gb304, 2, none⟩ (.slice Ao110 t298.length co110)).setCell ⟨gb304, 3, none⟩ (.slice Ao111 t301.length co111)) = w112 at n0_ n1_ n2_ n3_ n4_ n5_ n6_ n7_ n8_ n9_ n10_ n11_ ⊢
   have HO279 := n0_
   have HO282 := n1_
   have HO285 := n2_
   have HO288 := n3_
   have HO294 := n4_
   have HO297 := n5_
   have HO300 := n6_
   have HO303 := n7_
   have BK274 := n8_
   have BK275 := n9_
   have BK304 := n10_
   have HB := n11_
   clear n0_ n1_ n2_ n3_ n4_ n5_ n6_ n7_ n8_ n9_ n10_ n11_
   have n0_ := Aside0.mk (Kd.R_drew HO279.out)
   have n1_ := Aside0.mk (Kd.R_drew HO282.out)
   have n2_ := Aside0.mk (Kd.R_drew HO285.out)
   have n3_ := Aside0.mk (Kd.R_drew HO288.out)
   have n4_ := Aside0.mk (Kd.R_drew HO294.out)
   have n5_ := Aside0.mk (Kd.R_drew HO297.out)
   have n6_ := Aside0.mk (Kd.R_drew HO300.out)
   have n7_ := Aside0.mk (Kd.R_drew HO303.out)
   have n8_ := Aside0.mk (blk_drew BK274.out)
   have n9_ := Aside0.mk (blk_drew BK275.out)
   have n10_ := Aside0.mk (blk_drew BK304.out)
   have n11_ := Aside0.mk (below_drew1 HB.out)
   clear HO279
   clear HO282
   clear HO285
   clear HO288
   clear HO294
   clear HO297
   clear HO300
   clear HO303
   clear BK274
   clear BK275
   clear BK304
   clear HB
   have HO279 := n0_
   have HO282 := n1_
   have HO285 := n2_
   have HO288 := n3_
   have HO294 := n4_
   have HO297 := n5_
   have HO300 := n6_
   have HO303 := n7_
   have BK274 := n8_
   have BK275 := n9_
   have BK304 := n10_
   have HB := n11_
   clear n0_ n1_ n2_ n3_ n4_ n5_ n6_ n7_ n8_ n9_ n10_ n11_
   refine start_ (n := 6) (S := fun w' => w'.cell? ⟨gb304, 0, none⟩ = some (.slice Ao105 t292.length co105) /\ w'.cell? ⟨gb304, 1, none⟩ = some (.slice Ao109 t295.length co109) /\ w'.cell? ⟨gb304, 2, none⟩ = some (.slice Ao110 t298.length co110) /\ w'.cell? ⟨gb304, 3, none⟩ = some (.slice Ao111 t301.length co111) /\ w'.cell? ⟨gb275, 0, none⟩ = some (.int .i64 a1_0) /\ w'.cell? ⟨gb275, 1, none⟩ = some (.int .i64 a1_1)) (ds := []) #[ff, ff, ff, ff, ff, ff] (by kernel_rfl) rfl rfl ⟨(blk_cell BK304.out 0).trans rfl, (blk_cell BK304.out 1).trans rfl, (blk_cell BK304.out 2).trans rfl, (blk_cell BK304.out 3).trans rfl, (blk_cell BK275.out 0).trans rfl, (blk_cell BK275.out 1).trans rfl⟩ (fun hHeld => ?_)
   generalize w112.drew = w113 at HO279 HO282 HO285 HO288 HO294 HO297 HO300 HO303 BK274 BK275 BK304 HB hHeld ⊢
   refine pure_ (i := 3) (N := some 27) (v := ?_) (a' := ?_) #[ff, ff, ff, tt, ff, ff] rfl rfl (by kernel_rfl) (fun _ _ _ h => h) (Or.inl ⟨by rfl, ?_⟩) ?_ ?_
   rotate_left
   ·intro w'
    go_simp
    with_reducible rfl
   rotate_left
   ·simp only [Act.put, sz1, sz2, sz3, i64_w, i32_w]
    rfl
   refine take_ (i := 0) (N := some 24) (v := ?_) (a' := ?_) #[tt, ff, ff, tt, ff, ff] rfl rfl (by kernel_rfl) (fun _ _ _ h => h) (Or.inl ⟨by rfl, ?_⟩) hHeld ?_ ?_
   rotate_left
   ·rintro w' ⟨s0, s1, s2, s3, s4, s5⟩
    go_simp
    with_reducible rfl
   rotate_left
   ·simp only [Act.put, sz1, sz2, sz3, i64_w, i32_w]
    rfl
   refine take_ (i := 1) (N := some 25) (v := ?_) (a' := ?_) #[tt, tt, ff, tt, ff, ff] rfl rfl (by kernel_rfl) (fun _ _ _ h => h) (Or.inl ⟨by rfl, ?_⟩) hHeld ?_ ?_
   rotate_left
   ·rintro w' ⟨s0, s1, s2, s3, s4, s5⟩
    go_simp
    with_reducible rfl
   rotate_left
   ·simp only [Act.put, sz1, sz2, sz3, i64_w, i32_w]
    rfl
   refine one_ (i := 2) (N := some 26) #[tt, tt, tt, tt, ff, ff] rfl rfl (by kernel_rfl) (by decide) (fun K hK => ?_)
   refine goes_ Tryd.func34 (by kernel_rfl) rfl #[.agg #[.int .i64 a1_0, .int .i64 a1_1]] (by rfl) rfl rfl lz ?_
   with_reducible refine (laws_toVal.calls a1_0 a1_1 t305 t306 _ A15.out).mono ?_
   rintro e w114 ⟨rfl, hb⟩
   refine ⟨_, rfl, ?_⟩
   have n0_ := qz HO279 hb
   have n1_ := qz HO282 hb
   have n2_ := qz HO285 hb
   have n3_ := qz HO288 hb
   have n4_ := qz HO294 hb
   have n5_ := qz HO297 hb
   have n6_ := qz HO300 hb
   have n7_ := qz HO303 hb
   have n8_ := Aside0.mk (blk_below (kz BK274.out) hb)
   have n9_ := Aside0.mk (blk_below (kz BK275.out) hb)
   have n10_ := Aside0.mk (blk_below (kz BK304.out) hb)
   have n11_ := Aside0.mk (below_step (bz3 HB.out GE274.out GE275.out GE304.out) hb)
   clear HO279
   clear HO282
   clear HO285
   clear HO288
   clear HO294
   clear HO297
   clear HO300
   clear HO303
   clear BK274
   clear BK275
   clear BK304
   clear HB
   have HO279 := n0_
   have HO282 := n1_
   have HO285 := n2_
   have HO288 := n3_
   have HO294 := n4_
   have HO297 := n5_
   have HO300 := n6_
   have HO303 := n7_
   have BK274 := n8_
   have BK275 := n9_
   have BK304 := n10_
   have HB := n11_
   clear n0_ n1_ n2_ n3_ n4_ n5_ n6_ n7_ n8_ n9_ n10_ n11_
   (try clear hb)
   (try clear hb2)
   (try clear hk)
   (try clear hi)
   refine hK.out _ _ ⟨(blk_cell BK304.out 0).trans rfl, (blk_cell BK304.out 1).trans rfl, (blk_cell BK304.out 2).trans rfl, (blk_cell BK304.out 3).trans rfl, (blk_cell BK275.out 0).trans rfl, (blk_cell BK275.out 1).trans rfl⟩ (fun hHeld => ?_)
   clear hK K
   refine norm_ (a' := ?_) ?_ ?_
   rotate_left
   ·show Act.put _ (some 26) _ = _
    simp only [Act.put, sz1, sz2, sz3, i64_w, i32_w]
    rfl
   refine one_ (i := 4) (N := some 28) #[tt, tt, tt, tt, tt, ff] rfl rfl (by kernel_rfl) (by decide) (fun K hK => ?_)
   refine goes_ Tryd.func16 (by kernel_rfl) rfl #[.agg #[.slice Ao105 t292.length co105, .slice Ao109 t295.length co109, .slice Ao110 t298.length co110, .slice Ao111 t301.length co111], .agg #[.int .i64 t305, .int .i64 t306], .int .i64 a2] (by rfl) rfl rfl lz ?_
   with_reducible refine (impl_ShowVal.calls k _ _ t292 _ _ t295 _ _ t298 _ _ t301 t305 t306 a2 t307 _ ?side1 ?side2 ?side3 ?side4 ?side5 ?side6 ?side7 ?side8 A16.out ?hT_).mono ?_
   (case hT_ => exact PW.below hT_ (bz3 HB.out GE274.out GE275.out GE304.out))
   (case side1 => exact cz (Kd.R_reads' HO294.out).2.2)
   (case side2 => exact (Kd.R_reads' HO294.out).2.1)
   (case side3 => exact cz (Kd.R_reads' HO297.out).2.2)
   (case side4 => exact (Kd.R_reads' HO297.out).2.1)
   (case side5 => exact cz (Kd.R_reads' HO300.out).2.2)
   (case side6 => exact (Kd.R_reads' HO300.out).2.1)
   (case side7 => exact cz (Kd.R_reads' HO303.out).2.2)
   (case side8 => exact (Kd.R_reads' HO303.out).2.1)
   rintro e w115 ⟨rfl, hb⟩
   refine ⟨_, rfl, ?_⟩
   have n0_ := qz HO279 hb
   have n1_ := qz HO282 hb
   have n2_ := qz HO285 hb
   have n3_ := qz HO288 hb
   have n4_ := qz HO294 hb
   have n5_ := qz HO297 hb
   have n6_ := qz HO300 hb
   have n7_ := qz HO303 hb
   have n8_ := Aside0.mk (blk_below (kz BK274.out) hb)
   have n9_ := Aside0.mk (blk_below (kz BK275.out) hb)
   have n10_ := Aside0.mk (blk_below (kz BK304.out) hb)
   have n11_ := Aside0.mk (below_step (bz3 HB.out GE274.out GE275.out GE304.out) hb)
   clear HO279
   clear HO282
   clear HO285
   clear HO288
   clear HO294
   clear HO297
   clear HO300
   clear HO303
   clear BK274
   clear BK275
   clear BK304
   clear HB
   have HO279 := n0_
   have HO282 := n1_
   have HO285 := n2_
   have HO288 := n3_
   have HO294 := n4_
   have HO297 := n5_
   have HO300 := n6_
   have HO303 := n7_
   have BK274 := n8_
   have BK275 := n9_
   have BK304 := n10_
   have HB := n11_
   clear n0_ n1_ n2_ n3_ n4_ n5_ n6_ n7_ n8_ n9_ n10_ n11_
   (try clear hb)
   (try clear hb2)
   (try clear hk)
   (try clear hi)
   refine hK.out _ _ ⟨(blk_cell BK304.out 0).trans rfl, (blk_cell BK304.out 1).trans rfl, (blk_cell BK304.out 2).trans rfl, (blk_cell BK304.out 3).trans rfl, (blk_cell BK275.out 0).trans rfl, (blk_cell BK275.out 1).trans rfl⟩ (fun hHeld => ?_)
   clear hK K
   refine norm_ (a' := ?_) ?_ ?_
   rotate_left
   ·show Act.put _ (some 28) _ = _
    simp only [Act.put, sz1, sz2, sz3, i64_w, i32_w]
    rfl
   refine pure_ (i := 5) (N := some 10) (v := ?_) (a' := ?_) #[tt, tt, tt, tt, tt, tt] rfl rfl (by kernel_rfl) (fun _ _ _ h => h) (Or.inl ⟨by rfl, ?_⟩) ?_ ?_
   rotate_left
   ·intro w'
    go_simp
    with_reducible rfl
   rotate_left
   ·simp only [Act.put, sz1, sz2, sz3, i64_w, i32_w]
    rfl
   refine done_ (by kernel_rfl) ?_
   try go_wp2
   go_ret
   exact ⟨gz, (bz3 HB.out GE274.out GE275.out GE304.out)⟩
end Go.Proofs.YtlhofeikcaejpaaDoor.PFnExactShowVal
