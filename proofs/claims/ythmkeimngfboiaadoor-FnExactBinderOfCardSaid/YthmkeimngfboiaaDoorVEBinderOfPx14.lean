/- PFnExactBinderOfx14, of the words and walks that the law FnExactBinderOf needs; made by this session's program out of printed texts. -/

import Derived.Test.YthmkeimngfboiaaDoorVEBinderOfPx0
import Derived.Test.YthmkeimngfboiaaDoorVEBinderOfPx1
import Derived.Test.YthmkeimngfboiaaDoorVEBinderOfPx7
import Derived.Test.YthmkeimngfboiaaDoorVEBinderOfPx11
import Derived.Test.YthmkeimngfboiaaDoorVEBinderOfPx12
import Derived.Test.YthmkeimngfboiaaDoorVEBinderOfPx13
namespace Go.Proofs.YthmkeimngfboiaaDoor.PFnExactBinderOf
open Go.RowKit Go.Proofs.YthmkeimngfboiaaDoorW.PrintWords Go.Proofs.YthmkeimngfboiaaDoorW.PrintLast Go.Proofs.YthmkeimngfboiaaDoorW.PrintMore
attribute [local go_sem] max2_int min2_int max_two min_two max_three min_three max_four min_four
set_option linter.unusedVariables false
set_option linter.unusedSimpArgs false
mutual
def impl_binderOf.l0 : Nat → List (S54) → List Int → Int → ByteArray → Option (Int × Int)
 | 0, _, _, _, _ => none
 | k + 1, x0, x1, x2, x3 => if 0 ≤ x2 then (if x2 < (x1.length : Int) then (if (rd x1 x2) ≥ 0 then (if 0 ≤ (rd x1 x2) then (if (rd x1 x2) < (x0.length : Int) then ((impl_bindsIn.f k ((rd_T54 x0 (rd x1 x2)).f0) ((rd_T54 x0 (rd x1 x2)).f1) ((rd_T54 x0 (rd x1 x2)).f2) ((rd_T54 x0 (rd x1 x2)).f3) ((rd_T54 x0 (rd x1 x2)).f4) ((rd_T54 x0 (rd x1 x2)).f5) ((rd_T54 x0 (rd x1 x2)).f6) x2).bind fun bt355 => (impl_binderOf.l1 k x0 x1 x2 x3 bt355.2 bt355.1 (bt355.1.length : Int) 0)) else (none)) else (none)) else (some ((-1), (-1)))) else (none)) else (none)
def impl_binderOf.l1 : Nat → List (S54) → List Int → Int → ByteArray → List Int → List ByteArray → Int → Int → Option (Int × Int)
 | 0, _, _, _, _, _, _, _, _ => none
 | k + 1, x0, x1, x2, x3, x10, x30, x31, x32 => if x32 < x31 then (if 0 ≤ x32 then (if x32 < (x30.length : Int) then (if (rdOf ByteArray.empty x30 x32).toList = x3.toList then (if 0 ≤ x2 then (if x2 < (x1.length : Int) then (if x32 < (x10.length : Int) then (some (rd x1 x2, rd x10 x32)) else (none)) else (none)) else (none)) else (impl_binderOf.l1 k x0 x1 x2 x3 x10 x30 x31 (wrap64 (x32 + 1)))) else (none)) else (none)) else (if 0 ≤ x2 then (if x2 < (x1.length : Int) then (impl_binderOf.l0 k x0 x1 (rd x1 x2) x3) else (none)) else (none))
end
def impl_binderOf.f (k : Nat) (l0 : List (S54)) (l1 : List Int) (a2 : Int) (a3 : ByteArray) : Option (Int × Int) := impl_binderOf.l0 k l0 l1 a2 a3
theorem impl_binderOf.mono_l : ∀ k, (∀ y0 y1 y2 y3, LeO (impl_binderOf.l0 k y0 y1 y2 y3) (impl_binderOf.l0 (k + 1) y0 y1 y2 y3)) ∧ (∀ y0 y1 y2 y3 y4 y5 y6 y7, LeO (impl_binderOf.l1 k y0 y1 y2 y3 y4 y5 y6 y7) (impl_binderOf.l1 (k + 1) y0 y1 y2 y3 y4 y5 y6 y7))
 | 0 => ⟨fun _ _ _ _ r h => by simp [impl_binderOf.l0] at h, fun _ _ _ _ _ _ _ _ r h => by simp [impl_binderOf.l1] at h⟩
 | k + 1 => by
  obtain ⟨ih0, ih1⟩ := impl_binderOf.mono_l k
  refine ⟨?_, ?_⟩
  ·intro y0 y1 y2 y3
   unfold impl_binderOf.l0
   repeat' first
   | (with_reducible exact ih0 _ _ _ _)
   | (with_reducible exact ih1 _ _ _ _ _ _ _ _)
   | (with_reducible exact impl_bindsIn.mono _ _ _ _ _ _ _ _ _)
   | (with_reducible exact LeO.refl _)
   | (with_reducible exact LeO.none _)
   | (with_reducible refine LeO.ite ?_ ?_)
   | (with_reducible refine LeO.bind ?_ (fun _ => ?_))
   | exact ih0 _ _ _ _
   | exact ih1 _ _ _ _ _ _ _ _
   | exact impl_bindsIn.mono _ _ _ _ _ _ _ _ _
   | exact LeO.none _
   | refine LeO.ite ?_ ?_
   | refine LeO.bind ?_ (fun _ => ?_)
  ·intro y0 y1 y2 y3 y4 y5 y6 y7
   unfold impl_binderOf.l1
   repeat' first
   | (with_reducible exact ih0 _ _ _ _)
   | (with_reducible exact ih1 _ _ _ _ _ _ _ _)
   | (with_reducible exact impl_bindsIn.mono _ _ _ _ _ _ _ _ _)
   | (with_reducible exact LeO.refl _)
   | (with_reducible exact LeO.none _)
   | (with_reducible refine LeO.ite ?_ ?_)
   | (with_reducible refine LeO.bind ?_ (fun _ => ?_))
   | exact ih0 _ _ _ _
   | exact ih1 _ _ _ _ _ _ _ _
   | exact impl_bindsIn.mono _ _ _ _ _ _ _ _ _
   | exact LeO.none _
   | refine LeO.ite ?_ ?_
   | refine LeO.bind ?_ (fun _ => ?_)
theorem impl_binderOf.mono : ∀ a0 a1 a2 a3 k, LeO (impl_binderOf.f k a0 a1 a2 a3) (impl_binderOf.f (k + 1) a0 a1 a2 a3) := by
 intro a0 a1 a2 a3 k
 obtain ⟨ih0, ih1⟩ := impl_binderOf.mono_l k
 unfold impl_binderOf.f
 repeat' first
   | (with_reducible exact ih0 _ _ _ _)
   | (with_reducible exact ih1 _ _ _ _ _ _ _ _)
   | (with_reducible exact impl_bindsIn.mono _ _ _ _ _ _ _ _ _)
   | (with_reducible exact LeO.refl _)
   | (with_reducible exact LeO.none _)
   | (with_reducible refine LeO.ite ?_ ?_)
   | (with_reducible refine LeO.bind ?_ (fun _ => ?_))
   | exact ih0 _ _ _ _
   | exact ih1 _ _ _ _ _ _ _ _
   | exact impl_bindsIn.mono _ _ _ _ _ _ _ _ _
   | exact LeO.none _
   | refine LeO.ite ?_ ?_
   | refine LeO.bind ?_ (fun _ => ?_)
def impl_binderOf.T7 : Bool × List (List Nat × List Nat) := (true, [([], []), ([], []), ([0, 1], [0, 1]), ([2], [2]), ([], []), ([], []), ([4, 5], [4, 5]), ([6], [6]), ([3, 7], [3, 7]), ([8, 0, 1, 2, 3, 4, 5, 6, 7, 8], [8])])
def impl_binderOf.B7 : List Nat := [0, 0, 3, 7, 0, 0, 48, 112, 255, 511]
theorem impl_binderOf.tab7 : rtab .any (opsOf Tryd.f64 7) = impl_binderOf.T7 := by kernel_rfl
theorem impl_binderOf.bits7 : waitsOk impl_binderOf.T7.2 impl_binderOf.B7 = true := by kernel_rfl
set_option maxHeartbeats 8000000 in
set_option maxRecDepth 100000 in
theorem impl_binderOf.calls (k : Nat) (A0 : Option Addr) (c0 : Nat) (l0 : List (S54)) (A1 : Option Addr) (c1 : Nat) (l1 : List Int) (a2 : Int) (a3 : ByteArray) (r1 : Int) (r2 : Int) (w : World) (hr0 : Kd.C k54 w A0 l0.length l0) (hc0 : l0.length ≤ c0) (hr1 : Kd.C (Kd.int .i64) w A1 l1.length l1) (hc1 : l1.length ≤ c1) (h : impl_binderOf.f k l0 l1 a2 a3 = some (r1, r2)) :
  Calls Tryd.prog 64 #[.slice A0 l0.length c0, .slice A1 l1.length c1, .int .i64 a2, .string a3] w fun e w' => e = .returned (.agg #[.int .i64 r1, .int .i64 r2]) ∧ Below w.heap.size w w' := by
 have hu37 := Tryd.underlying37
 have hu54 := Tryd.underlying54
 have HR0 := Aside0.mk hr0
 have HC0 := Aside0.mk hc0
 clear hr0 hc0
 have HR1 := Aside0.mk hr1
 have HC1 := Aside0.mk hc1
 clear hr1 hc1
 have HB := Aside0.mk (Below.refl w.heap.size w)
 have H : (impl_binderOf.l0 k l0 l1 a2 a3) = some (r1, r2) := h
 clear h
 have H' := Aside0.mk H
 clear H
 go_enter Tryd.func64, Tryd.ntmps64
 go_wp2_with (first | ((with_reducible refine gate_dst (N := 8) rfl ?_); refine box_event ?hg (N := 8) ?hd (cs := #[.int .i64 0, .int .i64 0]) (t := 37) ?hr ?_; (case hd => rfl); (case hg => rfl); (case hr => first | (go_simp; done) | (go_simp; rfl)); intro gb351 hg w5 hbox hb; have n0_ := Aside0.mk (below_step (bz0 HB.out) hb); have n1_ := Aside0.mk (hbox); have n2_ := Aside0.mk ((by rw [hg]; exact (below_size (bz0 HB.out)) : w.heap.size ≤ gb351)); have n3_ := Aside0.mk ((by rw [hg]; exact (below_size (bz0 HB.out)) : w.heap.size ≤ gb351)); clear HB; have HB := n0_; have BK351 := n1_; have GW351 := n2_; have GE351 := n3_; clear n0_ n1_ n2_ n3_; clear hb hbox hg))
 (try simp only [Act.put, List.setIfInBounds_toArray, List.set_cons_zero, List.set_cons_succ])
 go_loopg [2] k (fun kq v2 w' => ∃ (x2_1 : Int) (x352000_1 : Int) (x352001_1 : Int), v2 = .int .i64 x2_1 ∧ Aside0 (impl_binderOf.l0 kq l0 l1 x2_1 a3 = some (r1, r2)) ∧ Aside0 (kq ≤ k) ∧ Aside0 (w'.heap[gb351]? = some (.cells #[.int .i64 x352000_1, .int .i64 x352001_1] 37 (0, 0))) ∧ Aside0 (Below w.heap.size w w'))
 case atStart => exact ⟨(a2), (0), (0), ez, H', ⟨Nat.le_refl _⟩, ⟨by (with_reducible repeat (first | refine blk_drewN ?_ _ | refine blk_drew ?_ | refine blk_alloc ?_ _)); exact BK351.out⟩, ⟨(bz1 HB.out GE351.out)⟩⟩
 case round =>
  clear H'
  try clear c1
  try clear p2
  obtain ⟨x2_1, x352000_1, x352001_1, rfl, HA, HK1, BK351, HB⟩ := hrel
  cases gk with
  | zero => exact absurd HA.out (by simp [impl_binderOf.l0])
  | succ k1 =>
   have H := HA.out
   clear HA
   simp only [impl_binderOf.l0] at H
   by_cases c6 : 0 ≤ x2_1
   ·rw [if_pos c6] at H
    have c6b0 : decide (0 ≤ x2_1) = true := decide_eq_true c6
    clear c6
    by_cases c7 : x2_1 < (l1.length : Int)
    ·rw [if_pos c7] at H
     have c7b0 : decide (x2_1 < (l1.length : Int)) = true := decide_eq_true c7
     clear c7
     by_cases c8 : (rd l1 x2_1) ≥ 0
     ·rw [if_pos c8] at H
      have c8b0 : decide (0 ≤ (rd l1 x2_1)) = true := decide_eq_true c8
      clear c8
      by_cases c9 : 0 ≤ (rd l1 x2_1)
      ·rw [if_pos c9] at H
       have c9b0 : decide (0 ≤ (rd l1 x2_1)) = true := decide_eq_true c9
       clear c9
       by_cases c10 : (rd l1 x2_1) < (l0.length : Int)
       ·rw [if_pos c10] at H
        have c10b0 : decide ((rd l1 x2_1) < (l0.length : Int)) = true := decide_eq_true c10
        clear c10
        replace H := Option.bind_eq_some_iff.mp H
        obtain ⟨⟨t355, t358⟩, A110, H⟩ := H
        replace H : (impl_binderOf.l1 k1 l0 l1 x2_1 a3 t358 t355 (t355.length : Int) 0) = some (r1, r2) := H
        have A11 := Aside0.mk A110
        clear A110
        have H' := Aside0.mk H
        clear H
        have p352 : 0 ≤ (x2_1 : Int) := of_decide_eq_true az
        have q352 : x2_1 < (l1.length : Int) := of_decide_eq_true az
        obtain ⟨ad352, e352, hx352_0⟩ := Kd.at_int HR1.out x2_1 p352 q352
        cases e352
        replace hx352_0 := hz HB.out hx352_0
        replace p352 := eq_true p352
        replace q352 := eq_true q352
        have p353 : 0 ≤ (x2_1 : Int) := of_decide_eq_true az
        have q353 : x2_1 < (l1.length : Int) := of_decide_eq_true az
        obtain ⟨ad353, e353, hx353_0⟩ := Kd.at_int HR1.out x2_1 p353 q353
        obtain rfl : ad352 = ad353 := (by injection e353)
        replace hx353_0 := hz HB.out hx353_0
        replace p353 := eq_true p353
        replace q353 := eq_true q353
        have p354 : 0 ≤ ((rd l1 x2_1) : Int) := of_decide_eq_true az
        have q354 : (rd l1 x2_1) < (l0.length : Int) := of_decide_eq_true az
        obtain ⟨ad354, e354, hx354_0, hx354_1, hx354_2, hx354_3, hx354_4, hx354_5, hx354_6⟩ := at_T54 HR0.out (rd l1 x2_1) p354 q354
        cases e354
        replace hx354_0 := hz HB.out hx354_0
        replace hx354_1 := hz HB.out hx354_1
        replace hx354_2 := hz HB.out hx354_2
        replace hx354_3 := hz HB.out hx354_3
        replace hx354_4 := hz HB.out hx354_4
        replace hx354_5 := hz HB.out hx354_5
        replace hx354_6 := hz HB.out hx354_6
        replace p354 := eq_true p354
        replace q354 := eq_true q354
        go_wp2_with (first | ((with_reducible refine gate_callee (f := 68) rfl ?_); refine goesL_ (some 27) rfl rfl Tryd.func68 (by kernel_rfl) rfl #[.agg #[.int .i64 ((rd_T54 l0 (rd l1 x2_1)).f0), .int .i64 ((rd_T54 l0 (rd l1 x2_1)).f1), .int .i64 ((rd_T54 l0 (rd l1 x2_1)).f2), .int .i64 ((rd_T54 l0 (rd l1 x2_1)).f3), .int .i64 ((rd_T54 l0 (rd l1 x2_1)).f4), .string ((rd_T54 l0 (rd l1 x2_1)).f5), .string ((rd_T54 l0 (rd l1 x2_1)).f6)], .int .i64 x2_1] rfl lz ?_; (with_reducible refine (impl_bindsIn.calls k1 ((rd_T54 l0 (rd l1 x2_1)).f0) ((rd_T54 l0 (rd l1 x2_1)).f1) ((rd_T54 l0 (rd l1 x2_1)).f2) ((rd_T54 l0 (rd l1 x2_1)).f3) ((rd_T54 l0 (rd l1 x2_1)).f4) ((rd_T54 l0 (rd l1 x2_1)).f5) ((rd_T54 l0 (rd l1 x2_1)).f6) x2_1 t355 t358 _ A11.out).mono ?_); rintro e w12 ⟨v356, v359, rfl, ho0, ho1, hb⟩; refine ⟨_, rfl, ?_⟩; have n0_ := Aside0.mk (Kd.R_lower ho0 (below_size (bz1 HB.out GE351.out))); have n1_ := Aside0.mk (Kd.R_lower ho1 (below_size (bz1 HB.out GE351.out))); have n2_ := Aside0.mk (blk_below (g := gb351) (o := .cells #[.int .i64 x352000_1, .int .i64 x352001_1] 37 (0, 0)) (kz BK351.out) hb); have n3_ := Aside0.mk (below_step (bz1 HB.out GE351.out) hb); clear BK351; clear HB; have HO357 := n0_; have HO360 := n1_; have BK351 := n2_; have HB := n3_; clear n0_ n1_ n2_ n3_; (try clear hb); (try clear hb2); (try clear hk); (try clear hi); (try clear ho0); (try clear ho1); obtain ⟨Ao13, co13, eo13⟩ := Kd.R_slice HO357.out; subst eo13))
        go_loopg [32] k1 (fun kq v32 w' => ∃ (x32_2 : Int) (x352000_2 : Int) (x352001_2 : Int), v32 = .int .i64 x32_2 ∧ Aside0 (impl_binderOf.l1 kq l0 l1 x2_1 a3 t358 t355 (t355.length : Int) x32_2 = some (r1, r2)) ∧ Aside0 (kq ≤ k1) ∧ Aside0 (Kd.R (Kd.int .i64) 3 w' w.heap.size (fun _ => True) v359 t358) ∧ Aside0 (Kd.R Kd.string 9 w' w.heap.size (fun _ => True) (.slice Ao13 t355.length co13) t355) ∧ Aside0 (w'.heap[gb351]? = some (.cells #[.int .i64 x352000_2, .int .i64 x352001_2] 37 (0, 0))) ∧ Aside0 (Below w.heap.size w w'))
        case atStart => exact ⟨(0), (x352000_1), (x352001_1), ez, H', ⟨Nat.le_refl _⟩, ⟨by (with_reducible repeat (first | apply Kd.R_alloc | apply Kd.R_drewN | apply Kd.R_drew)); exact HO360.out⟩, ⟨by (with_reducible repeat (first | apply Kd.R_alloc | apply Kd.R_drewN | apply Kd.R_drew)); exact HO357.out⟩, ⟨by (with_reducible repeat (first | refine blk_drewN ?_ _ | refine blk_drew ?_ | refine blk_alloc ?_ _)); exact BK351.out⟩, ⟨(bz1 HB.out GE351.out)⟩⟩
        case round =>
         clear H'
         try clear c1
         try clear p2
         try clear p3
         try clear q3
         try clear hx3
         try clear c6
         try clear c6b0
         try clear c7
         try clear c7b0
         try clear c8
         try clear c8b0
         try clear c9
         try clear c9b0
         try clear c10
         try clear c10b0
         try clear hx352_0
         try clear hx353_0
         try clear hx354_0
         try clear hx354_1
         try clear hx354_2
         try clear hx354_3
         try clear hx354_4
         try clear hx354_5
         try clear hx354_6
         try clear p2
         try clear p352
         try clear p353
         try clear p354
         try clear q352
         try clear q353
         try clear q354
         obtain ⟨x32_2, x352000_2, x352001_2, rfl, HA, HK2, HO_10, HO_30, BK351, HB⟩ := hrel
         cases gk with
         | zero => exact absurd HA.out (by simp [impl_binderOf.l1])
         | succ k2 =>
          have H := HA.out
          clear HA
          simp only [impl_binderOf.l1] at H
          by_cases c14 : x32_2 < (t355.length : Int)
          ·rw [if_pos c14] at H
           have c14b0 : decide (x32_2 < (t355.length : Int)) = true := decide_eq_true c14
           clear c14
           by_cases c15 : 0 ≤ x32_2
           ·rw [if_pos c15] at H
            have c15b0 : decide (0 ≤ x32_2) = true := decide_eq_true c15
            clear c15
            by_cases c16 : x32_2 < (t355.length : Int)
            ·rw [if_pos c16] at H
             have c16b0 : decide (x32_2 < (t355.length : Int)) = true := decide_eq_true c16
             clear c16
             by_cases c17 : (rdOf ByteArray.empty t355 x32_2).toList = a3.toList
             ·rw [if_pos c17] at H
              have c17b0 : ((rdOf ByteArray.empty t355 x32_2).toList == a3.toList) = true := beq_iff_eq.mpr c17
              have c17b1 : ((rdOf ByteArray.empty t355 x32_2).toList != a3.toList) = false := bne_eq_false_iff_eq.mpr c17
              clear c17
              by_cases c18 : 0 ≤ x2_1
              ·rw [if_pos c18] at H
               have c18b0 : decide (0 ≤ x2_1) = true := decide_eq_true c18
               clear c18
               by_cases c19 : x2_1 < (l1.length : Int)
               ·rw [if_pos c19] at H
                have c19b0 : decide (x2_1 < (l1.length : Int)) = true := decide_eq_true c19
                clear c19
                by_cases c20 : x32_2 < (t358.length : Int)
                ·rw [if_pos c20] at H
                 have c20b0 : decide (x32_2 < (t358.length : Int)) = true := decide_eq_true c20
                 clear c20
                 simp only [Option.some.injEq, Prod.mk.injEq] at H
                 obtain ⟨rfl, rfl⟩ := H
                 have p361 : 0 ≤ (x32_2 : Int) := of_decide_eq_true az
                 have q361 : x32_2 < (t355.length : Int) := of_decide_eq_true az
                 obtain ⟨ad361, e361, hx361_0⟩ := Kd.at_string (Kd.R_reads' HO_30.out).2.2 x32_2 p361 q361
                 cases e361
                 replace p361 := eq_true p361
                 replace q361 := eq_true q361
                 try go_wp2
                 have n0_ := Aside0.mk (Kd.R_drew HO_10.out)
                 have n1_ := Aside0.mk (Kd.R_drew HO_30.out)
                 have n2_ := Aside0.mk (blk_drew BK351.out)
                 have n3_ := Aside0.mk (below_drew1 HB.out)
                 clear HO_10
                 clear HO_30
                 clear BK351
                 clear HB
                 have HO_10 := n0_
                 have HO_30 := n1_
                 have BK351 := n2_
                 have HB := n3_
                 clear n0_ n1_ n2_ n3_
                 have p362 : 0 ≤ (x2_1 : Int) := of_decide_eq_true az
                 have q362 : x2_1 < (l1.length : Int) := of_decide_eq_true az
                 obtain ⟨ad362, e362, hx362_0⟩ := Kd.at_int HR1.out x2_1 p362 q362
                 have hw362_0 := hx362_0
                 obtain rfl : ad352 = ad362 := (by injection e362)
                 replace hx362_0 := hz HB.out hx362_0
                 replace p362 := eq_true p362
                 replace q362 := eq_true q362
                 obtain ⟨Ao22, co22, eo22⟩ := Kd.R_slice HO_10.out
                 (first | subst eo22 | (injection eo22 with f1_ f2_ f3_; have f4_ := f1_.symm; have f5_ := f3_.symm; clear f1_ f2_ f3_; subst f4_; subst f5_))
                 have p363 : 0 ≤ (x32_2 : Int) := of_decide_eq_true az
                 have q363 : x32_2 < (t358.length : Int) := of_decide_eq_true az
                 obtain ⟨ad363, e363, hx363_0⟩ := Kd.at_int (Kd.R_reads' HO_10.out).2.2 x32_2 p363 q363
                 cases e363
                 replace p363 := eq_true p363
                 replace q363 := eq_true q363
                 refine start_ (n := 10) (S := fun w' => w'.cell? (ad352.add (x2_1).toNat) = some (.int .i64 (rd l1 x2_1)) ∧ w'.cell? (ad363.add (x32_2).toNat) = some (.int .i64 (rd t358 x32_2))) (ds := []) #[false, false, false, false, false, false, false, false, false, false] (by kernel_rfl) rfl rfl ⟨(hz HB.out hw362_0), hx363_0⟩ (fun hHeld => ?_); refine with_tabW impl_binderOf.tab7 impl_binderOf.bits7 (fun HT_ HW_ => ?_)
                 generalize wr.drew = w21 at HO_10 HO_30 BK351 HB hx362_0 hx363_0 hHeld ⊢
                 refine pure_ (i := 0) (N := some 40) (v := ?_) (a' := ?_) #[true, false, false, false, false, false, false, false, false, false] rfl rfl (any_of HT_.out (by kernel_rfl)) (fun _ _ _ h => h) (Or.inl ⟨by rfl, ?_⟩) ?_ ?_
                 rotate_left
                 ·intro w'
                  go_simp
                  with_reducible rfl
                 rotate_left
                 ·simp only [Act.put, List.setIfInBounds_toArray, List.set_cons_zero, List.set_cons_succ, i64_w, i32_w]
                  rfl
                 refine pure_ (i := 1) (N := some 41) (v := ?_) (a' := ?_) #[true, true, false, false, false, false, false, false, false, false] rfl rfl (any_of HT_.out (by kernel_rfl)) (fun _ _ _ h => h) (Or.inl ⟨by rfl, ?_⟩) ?_ ?_
                 rotate_left
                 ·intro w'
                  go_simp
                  with_reducible rfl
                 rotate_left
                 ·simp only [Act.put, List.setIfInBounds_toArray, List.set_cons_zero, List.set_cons_succ, i64_w, i32_w]
                  rfl
                 refine pure_ (i := 2) (N := some 42) (v := ?_) (a' := ?_) #[true, true, true, false, false, false, false, false, false, false] rfl rfl (any_of HT_.out (by kernel_rfl)) (fun _ _ _ h => h) (Or.inl ⟨by rfl, ?_⟩) ?_ ?_
                 rotate_left
                 ·intro w'
                  go_simp
                  with_reducible rfl
                 rotate_left
                 ·simp only [Act.put, List.setIfInBounds_toArray, List.set_cons_zero, List.set_cons_succ, i64_w, i32_w]
                  rfl
                 refine pure_ (i := 4) (N := some 44) (v := ?_) (a' := ?_) #[true, true, true, false, true, false, false, false, false, false] rfl rfl (any_of HT_.out (by kernel_rfl)) (fun _ _ _ h => h) (Or.inl ⟨by rfl, ?_⟩) ?_ ?_
                 rotate_left
                 ·intro w'
                  go_simp
                  with_reducible rfl
                 rotate_left
                 ·simp only [Act.put, List.setIfInBounds_toArray, List.set_cons_zero, List.set_cons_succ, i64_w, i32_w]
                  rfl
                 refine pure_ (i := 5) (N := some 45) (v := ?_) (a' := ?_) #[true, true, true, false, true, true, false, false, false, false] rfl rfl (any_of HT_.out (by kernel_rfl)) (fun _ _ _ h => h) (Or.inl ⟨by rfl, ?_⟩) ?_ ?_
                 rotate_left
                 ·intro w'
                  go_simp
                  with_reducible rfl
                 rotate_left
                 ·simp only [Act.put, List.setIfInBounds_toArray, List.set_cons_zero, List.set_cons_succ, i64_w, i32_w]
                  rfl
                 refine pure_ (i := 6) (N := some 46) (v := ?_) (a' := ?_) #[true, true, true, false, true, true, true, false, false, false] rfl rfl (any_of HT_.out (by kernel_rfl)) (fun _ _ _ h => h) (Or.inl ⟨by rfl, ?_⟩) ?_ ?_
                 rotate_left
                 ·intro w'
                  go_simp
                  with_reducible rfl
                 rotate_left
                 ·simp only [Act.put, List.setIfInBounds_toArray, List.set_cons_zero, List.set_cons_succ, i64_w, i32_w]
                  rfl
                 refine take_ (i := 3) (N := some 43) (v := ?_) (a' := ?_) #[true, true, true, true, true, true, true, false, false, false] rfl rfl (take_ofW HT_.out HW_.out (by kernel_rfl)) (fun _ _ _ h => h) (Or.inl ⟨by rfl, ?_⟩) hHeld ?_ ?_
                 rotate_left
                 ·rintro w' ⟨s0, s1⟩
                  go_simp
                  with_reducible rfl
                 rotate_left
                 ·simp only [Act.put, List.setIfInBounds_toArray, List.set_cons_zero, List.set_cons_succ, i64_w, i32_w]
                  rfl
                 refine take_ (i := 7) (N := some 47) (v := ?_) (a' := ?_) #[true, true, true, true, true, true, true, true, false, false] rfl rfl (take_ofW HT_.out HW_.out (by kernel_rfl)) (fun _ _ _ h => h) (Or.inl ⟨by rfl, ?_⟩) hHeld ?_ ?_
                 rotate_left
                 ·rintro w' ⟨s0, s1⟩
                  go_simp
                  with_reducible rfl
                 rotate_left
                 ·simp only [Act.put, List.setIfInBounds_toArray, List.set_cons_zero, List.set_cons_succ, i64_w, i32_w]
                  rfl
                 refine pure_ (i := 8) (N := some 48) (v := ?_) (a' := ?_) #[true, true, true, true, true, true, true, true, true, false] rfl rfl (any_of HT_.out (by kernel_rfl)) (fun _ _ _ h => h) (Or.inl ⟨by rfl, ?_⟩) ?_ ?_
                 rotate_left
                 ·intro w'
                  go_simp
                  with_reducible rfl
                 rotate_left
                 ·simp only [Act.put, List.setIfInBounds_toArray, List.set_cons_zero, List.set_cons_succ, i64_w, i32_w]
                  rfl
                 refine one_ (i := 9) (N := none) #[true, true, true, true, true, true, true, true, true, true] rfl rfl (one_of HT_.out (by kernel_rfl)) (by decide) (fun K hK => ?_)
                 have hs23 : w21.cell? ⟨gb351, 0, none⟩ = some (.int .i64 x352000_2) := (blk_cell BK351.out 0).trans rfl
                 have hfs23 := blk_frozen BK351.out 0
                 have hs24 : w21.cell? ⟨gb351, 1, none⟩ = some (.int .i64 x352001_2) := (blk_cell BK351.out 1).trans rfl
                 have hfs24 := blk_frozen BK351.out 1
                 refine skip_ (w1 := ?_) (by rfl) rfl ?_ ?_
                 rotate_left
                 ·go_simp
                  rfl
                 refine hK.out _ _ ⟨((cell_far (p := ⟨gb351, _, none⟩) (by first | exact Nat.ne_of_lt (Nat.lt_of_lt_of_le (by have := World.block_lt_of_cell? _ _ hw362_0; first | rwa [add_block] at this | exact this) GW351.out) | (rw [add_block]; exact Nat.ne_of_lt (Nat.lt_of_lt_of_le (by have := World.block_lt_of_cell? _ _ hw362_0; first | rwa [add_block] at this | exact this) GW351.out)) | (show (Addr.add _ _).block ≠ _; rw [add_block]; exact Nat.ne_of_lt (Nat.lt_of_lt_of_le (by have := World.block_lt_of_cell? _ _ hw362_0; first | rwa [add_block] at this | exact this) GW351.out)) | (dsimp only; exact Nat.ne_of_lt (Nat.lt_of_lt_of_le (by have := World.block_lt_of_cell? _ _ hw362_0; first | rwa [add_block] at this | exact this) GW351.out))) _).trans (((cell_far (p := ⟨gb351, _, none⟩) (by first | exact Nat.ne_of_lt (Nat.lt_of_lt_of_le (by have := World.block_lt_of_cell? _ _ hw362_0; first | rwa [add_block] at this | exact this) GW351.out) | (rw [add_block]; exact Nat.ne_of_lt (Nat.lt_of_lt_of_le (by have := World.block_lt_of_cell? _ _ hw362_0; first | rwa [add_block] at this | exact this) GW351.out)) | (show (Addr.add _ _).block ≠ _; rw [add_block]; exact Nat.ne_of_lt (Nat.lt_of_lt_of_le (by have := World.block_lt_of_cell? _ _ hw362_0; first | rwa [add_block] at this | exact this) GW351.out)) | (dsimp only; exact Nat.ne_of_lt (Nat.lt_of_lt_of_le (by have := World.block_lt_of_cell? _ _ hw362_0; first | rwa [add_block] at this | exact this) GW351.out))) _).trans (hHeld.1)))), ((cell_far (p := ⟨gb351, _, none⟩) (by first | exact Kd.own_blk (Kd.R_ne HO_10.out BK351.out (by decide)) | (rw [add_block]; exact Kd.own_blk (Kd.R_ne HO_10.out BK351.out (by decide))) | (show (Addr.add _ _).block ≠ _; rw [add_block]; exact Kd.own_blk (Kd.R_ne HO_10.out BK351.out (by decide))) | (dsimp only; exact Kd.own_blk (Kd.R_ne HO_10.out BK351.out (by decide)))) _).trans (((cell_far (p := ⟨gb351, _, none⟩) (by first | exact Kd.own_blk (Kd.R_ne HO_10.out BK351.out (by decide)) | (rw [add_block]; exact Kd.own_blk (Kd.R_ne HO_10.out BK351.out (by decide))) | (show (Addr.add _ _).block ≠ _; rw [add_block]; exact Kd.own_blk (Kd.R_ne HO_10.out BK351.out (by decide))) | (dsimp only; exact Kd.own_blk (Kd.R_ne HO_10.out BK351.out (by decide)))) _).trans (hHeld.2))))⟩ (fun hHeld => ?_)
                 clear hK K
                 refine done_ (done_of HT_.out (by kernel_rfl)) ?_
                 try go_wp2
                 refine bodyPost_ret (results_cell_row rfl _ _ gb351 37 #[.int .i64 (rd l1 x2_1), .int .i64 (rd t358 x32_2)] (0, 0) _ rfl (by (with_reducible repeat (first | refine blk_drewN ?_ _ | refine blk_drew ?_ | refine blk_alloc ?_ _)); refine blk_put (cs := #[.int .i64 (rd l1 x2_1), .int .i64 x352001_2]) ?_ 1 _ rfl; (with_reducible repeat (first | refine blk_drewN ?_ _ | refine blk_drew ?_ | refine blk_alloc ?_ _)); refine blk_put (cs := #[.int .i64 x352000_2, .int .i64 x352001_2]) ?_ 0 _ rfl; (with_reducible repeat (first | refine blk_drewN ?_ _ | refine blk_drew ?_ | refine blk_alloc ?_ _)); exact BK351.out) Tryd.underlying37 rfl (by kernel_rfl)) rfl ?_
                 exact ⟨gz, (bz1 HB.out GE351.out)⟩
                ·rw [if_neg c20] at H
                 exact absurd H (by simp)
               ·rw [if_neg c19] at H
                exact absurd H (by simp)
              ·rw [if_neg c18] at H
               exact absurd H (by simp)
             ·rw [if_neg c17] at H
              have c17b0 : ((rdOf ByteArray.empty t355 x32_2).toList == a3.toList) = false := beq_eq_false_iff_ne.mpr c17
              have c17b1 : ((rdOf ByteArray.empty t355 x32_2).toList != a3.toList) = true := bne_iff_ne.mpr c17
              have H' := Aside0.mk H
              clear H
              have p361 : 0 ≤ (x32_2 : Int) := of_decide_eq_true az
              have q361 : x32_2 < (t355.length : Int) := of_decide_eq_true az
              obtain ⟨ad361, e361, hx361_0⟩ := Kd.at_string (Kd.R_reads' HO_30.out).2.2 x32_2 p361 q361
              cases e361
              replace p361 := eq_true p361
              replace q361 := eq_true q361
              go_wp2
              go_roundg k2
              case measure => have := HK1.out; have := HK2.out; omega
              case rel => exact ⟨(wrap64 (x32_2 + 1)), (x352000_2), (x352001_2), ez, H', ⟨by have := HK1.out; have := HK2.out; omega⟩, ⟨by (with_reducible repeat (first | apply Kd.R_alloc | apply Kd.R_drewN | apply Kd.R_drew)); exact HO_10.out⟩, ⟨by (with_reducible repeat (first | apply Kd.R_alloc | apply Kd.R_drewN | apply Kd.R_drew)); exact HO_30.out⟩, ⟨by (with_reducible repeat (first | refine blk_drewN ?_ _ | refine blk_drew ?_ | refine blk_alloc ?_ _)); exact BK351.out⟩, ⟨(bz1 HB.out GE351.out)⟩⟩
            ·rw [if_neg c16] at H
             exact absurd H (by simp)
           ·rw [if_neg c15] at H
            exact absurd H (by simp)
          ·rw [if_neg c14] at H
           have c14b0 : decide (x32_2 < (t355.length : Int)) = false := decide_eq_false c14
           clear c14
           by_cases c25 : 0 ≤ x2_1
           ·rw [if_pos c25] at H
            have c25b0 : decide (0 ≤ x2_1) = true := decide_eq_true c25
            clear c25
            by_cases c26 : x2_1 < (l1.length : Int)
            ·rw [if_pos c26] at H
             have c26b0 : decide (x2_1 < (l1.length : Int)) = true := decide_eq_true c26
             clear c26
             have H' := Aside0.mk H
             clear H
             have p364 : 0 ≤ (x2_1 : Int) := of_decide_eq_true az
             have q364 : x2_1 < (l1.length : Int) := of_decide_eq_true az
             obtain ⟨ad364, e364, hx364_0⟩ := Kd.at_int HR1.out x2_1 p364 q364
             obtain rfl : ad352 = ad364 := (by injection e364)
             replace hx364_0 := hz HB.out hx364_0
             replace p364 := eq_true p364
             replace q364 := eq_true q364
             go_wp2
             go_roundg k2
             case measure => have := HK1.out; have := HK2.out; omega
             case rel => exact ⟨(rd l1 x2_1), (x352000_2), (x352001_2), ez, H', ⟨by have := HK1.out; have := HK2.out; omega⟩, ⟨by (with_reducible repeat (first | refine blk_drewN ?_ _ | refine blk_drew ?_ | refine blk_alloc ?_ _)); exact BK351.out⟩, ⟨(bz1 HB.out GE351.out)⟩⟩
            ·rw [if_neg c26] at H
             exact absurd H (by simp)
           ·rw [if_neg c25] at H
            exact absurd H (by simp)
       ·rw [if_neg c10] at H
        exact absurd H (by simp)
      ·rw [if_neg c9] at H
       exact absurd H (by simp)
     ·rw [if_neg c8] at H
      have c8b0 : decide (0 ≤ (rd l1 x2_1)) = false := decide_eq_false c8
      clear c8
      simp only [Option.some.injEq, Prod.mk.injEq] at H
      obtain ⟨rfl, rfl⟩ := H
      have p352 : 0 ≤ (x2_1 : Int) := of_decide_eq_true az
      have q352 : x2_1 < (l1.length : Int) := of_decide_eq_true az
      obtain ⟨ad352, e352, hx352_0⟩ := Kd.at_int HR1.out x2_1 p352 q352
      cases e352
      replace hx352_0 := hz HB.out hx352_0
      replace p352 := eq_true p352
      replace q352 := eq_true q352
      have hcz27_0 : wr.cell? ⟨gb351, 0, none⟩ = some (.int .i64 x352000_1) := (blk_cell BK351.out 0).trans rfl
      have hcz27_1 : wr.cell? ⟨gb351, 1, none⟩ = some (.int .i64 x352001_1) := (blk_cell BK351.out 1).trans rfl
      have hfz27_0 := blk_frozen BK351.out 0
      have hfz27_1 := blk_frozen BK351.out 1
      go_wp2
      refine bodyPost_ret (results_cell_row rfl _ _ gb351 37 #[.int .i64 (-1), .int .i64 (-1)] (0, 0) _ rfl (by (with_reducible repeat (first | refine blk_drewN ?_ _ | refine blk_drew ?_ | refine blk_alloc ?_ _)); refine blk_put (cs := #[.int .i64 (-1), .int .i64 x352001_1]) ?_ 1 _ rfl; (with_reducible repeat (first | refine blk_drewN ?_ _ | refine blk_drew ?_ | refine blk_alloc ?_ _)); refine blk_put (cs := #[.int .i64 x352000_1, .int .i64 x352001_1]) ?_ 0 _ rfl; (with_reducible repeat (first | refine blk_drewN ?_ _ | refine blk_drew ?_ | refine blk_alloc ?_ _)); exact BK351.out) Tryd.underlying37 rfl (by kernel_rfl)) rfl ?_
      exact ⟨gz, (bz1 HB.out GE351.out)⟩
    ·rw [if_neg c7] at H
     exact absurd H (by simp)
   ·rw [if_neg c6] at H
    exact absurd H (by simp)
def impl_binders.l0 : Nat → List (S54) → List Int → List (S37) → List (S54) → Int → Int → Option ((List (S37)))
 | 0, _, _, _, _, _, _ => none
 | k + 1, x0, x3, x4, x10, x11, x12 => if x12 < x11 then (if 0 ≤ x12 then (if x12 < (x10.length : Int) then (if ((rd_T54 x10 x12).f0) = 1 then ((impl_binderOf.f k x0 x3 x12 ((rd_T54 x10 x12).f5)).bind fun bt371 => (if x4.length < 8796093022208 then (impl_binders.l0 k x0 x3 (x4 ++ [(⟨bt371.1, bt371.2⟩ : S37)]) x10 x11 (wrap64 (x12 + 1))) else (none))) else (if x4.length < 8796093022208 then (impl_binders.l0 k x0 x3 (x4 ++ [(⟨(-1), (-1)⟩ : S37)]) x10 x11 (wrap64 (x12 + 1))) else (none))) else (none)) else (none)) else (some x4)
def impl_binders.f (k : Nat) (l0 : List (S54)) : Option ((List (S37))) := (impl_parents.f k l0).bind fun t365 => (impl_binders.l0 k l0 t365 ([] : List (S37)) l0 (l0.length : Int) 0)
theorem impl_binders.mono_l : ∀ k, (∀ y0 y1 y2 y3 y4 y5, LeO (impl_binders.l0 k y0 y1 y2 y3 y4 y5) (impl_binders.l0 (k + 1) y0 y1 y2 y3 y4 y5))
 | 0 => fun _ _ _ _ _ _ r h => by simp [impl_binders.l0] at h
 | k + 1 => by
  have ih0 := impl_binders.mono_l k
  ·intro y0 y1 y2 y3 y4 y5
   unfold impl_binders.l0
   repeat' first
   | (with_reducible exact ih0 _ _ _ _ _ _)
   | (with_reducible exact impl_binderOf.mono _ _ _ _ _)
   | (with_reducible exact impl_parents.mono _ _)
   | (with_reducible exact LeO.refl _)
   | (with_reducible exact LeO.none _)
   | (with_reducible refine LeO.ite ?_ ?_)
   | (with_reducible refine LeO.bind ?_ (fun _ => ?_))
   | exact ih0 _ _ _ _ _ _
   | exact impl_binderOf.mono _ _ _ _ _
   | exact impl_parents.mono _ _
   | exact LeO.none _
   | refine LeO.ite ?_ ?_
   | refine LeO.bind ?_ (fun _ => ?_)
theorem impl_binders.mono : ∀ a0 k, LeO (impl_binders.f k a0) (impl_binders.f (k + 1) a0) := by
 intro a0 k
 have ih0 := impl_binders.mono_l k
 unfold impl_binders.f
 repeat' first
   | (with_reducible exact ih0 _ _ _ _ _ _)
   | (with_reducible exact impl_binderOf.mono _ _ _ _ _)
   | (with_reducible exact impl_parents.mono _ _)
   | (with_reducible exact LeO.refl _)
   | (with_reducible exact LeO.none _)
   | (with_reducible refine LeO.ite ?_ ?_)
   | (with_reducible refine LeO.bind ?_ (fun _ => ?_))
   | exact ih0 _ _ _ _ _ _
   | exact impl_binderOf.mono _ _ _ _ _
   | exact impl_parents.mono _ _
   | exact LeO.none _
   | refine LeO.ite ?_ ?_
   | refine LeO.bind ?_ (fun _ => ?_)
set_option maxHeartbeats 8000000 in
set_option maxRecDepth 100000 in
theorem impl_binders.calls (k : Nat) (A0 : Option Addr) (c0 : Nat) (l0 : List (S54)) (r : List (S37)) (w : World) (hr0 : Kd.C k54 w A0 l0.length l0) (hc0 : l0.length ≤ c0) (h : impl_binders.f k l0 = some r) :
  Calls Tryd.prog 57 #[.slice A0 l0.length c0] w fun e w' => ∃ v0_ : Value, e = .returned (v0_) ∧ Kd.R k37 37 w' w.heap.size (fun _ => True) v0_ r ∧ Below w.heap.size w w' := by
 have hu54 := Tryd.underlying54
 have hu37 := Tryd.underlying37
 have HR0 := Aside0.mk hr0
 have HC0 := Aside0.mk hc0
 clear hr0 hc0
 have HB := Aside0.mk (Below.refl w.heap.size w)
 have H : ((impl_parents.f k l0).bind fun t365 => (impl_binders.l0 k l0 t365 ([] : List (S37)) l0 (l0.length : Int) 0)) = some r := h
 clear h
 replace H := Option.bind_eq_some_iff.mp H
 obtain ⟨t365, A20, H⟩ := H
 replace H : (impl_binders.l0 k l0 t365 ([] : List (S37)) l0 (l0.length : Int) 0) = some r := H
 have A2 := Aside0.mk A20
 clear A20
 have H' := Aside0.mk H
 clear H
 go_enter Tryd.func57, Tryd.ntmps57
 go_wp2_with (first | ((with_reducible refine gate_callee (f := 53) rfl ?_); refine goesL_ (some 9) rfl rfl Tryd.func53 (by kernel_rfl) rfl #[.slice A0 l0.length c0] rfl lz ?_; (with_reducible refine (impl_parents.calls k _ _ l0 t365 _ ?side1 ?side2 A2.out).mono ?_); (case side1 => repeat (first | exact HR0.out | (with_reducible refine Kd.C_alloc ?_ _) | (with_reducible refine Kd.C_drewN ?_ _) | (with_reducible refine Kd.C_drew ?_))); (case side2 => exact HC0.out); rintro e w3 ⟨v366, rfl, ho0, hb⟩; refine ⟨_, rfl, ?_⟩; have n0_ := Aside0.mk (Kd.R_lower ho0 (below_size (bz0 HB.out))); have n1_ := Aside0.mk (below_step (bz0 HB.out) hb); clear HB; have HO367 := n0_; have HB := n1_; clear n0_ n1_; (try clear hb); (try clear hb2); (try clear hk); (try clear hi); (try clear ho0)))
 go_loopg [4, 12] k (fun kq v4 v12 w' => ∃ (x4_1 : List (S37)) (x12_1 : Int), v12 = .int .i64 x12_1 ∧ Aside0 (impl_binders.l0 kq l0 t365 x4_1 l0 (l0.length : Int) x12_1 = some r) ∧ Aside0 (kq ≤ k) ∧ Aside0 (Kd.R (Kd.int .i64) 3 w' w.heap.size (fun _ => True) v366 t365) ∧ Aside0 (Kd.R k37 37 w' w.heap.size (fun _ => True) v4 x4_1) ∧ Aside0 (Below w.heap.size w w'))
 case atStart => exact ⟨(([] : List (S37))), (0), ez, H', ⟨Nat.le_refl _⟩, ⟨by (with_reducible repeat (first | apply Kd.R_alloc | apply Kd.R_drewN | apply Kd.R_drew)); exact HO367.out⟩, ⟨by first | exact Kd.R_nil _ _ _ _ _ | exact Kd.N_nil _ _ _ _ _ | exact Kd.V_nil _ _ _ _ _ | exact Kd.Q_nil _ _ _ _ _ | exact Kd.S_nil _ _ _ _ _⟩, ⟨(bz0 HB.out)⟩⟩
 case round =>
  clear H'
  try clear p2
  obtain ⟨x4_1, x12_1, rfl, HA, HK1, HO_3, HO_4, HB⟩ := hrel
  cases gk with
  | zero => exact absurd HA.out (by simp [impl_binders.l0])
  | succ k1 =>
   have H := HA.out
   clear HA
   simp only [impl_binders.l0] at H
   by_cases c4 : x12_1 < (l0.length : Int)
   ·rw [if_pos c4] at H
    have c4b0 : decide (x12_1 < (l0.length : Int)) = true := decide_eq_true c4
    clear c4
    by_cases c5 : 0 ≤ x12_1
    ·rw [if_pos c5] at H
     have c5b0 : decide (0 ≤ x12_1) = true := decide_eq_true c5
     clear c5
     by_cases c6 : x12_1 < (l0.length : Int)
     ·rw [if_pos c6] at H
      have c6b0 : decide (x12_1 < (l0.length : Int)) = true := decide_eq_true c6
      clear c6
      by_cases c7 : ((rd_T54 l0 x12_1).f0) = 1
      ·rw [if_pos c7] at H
       have c7b0 : (((rd_T54 l0 x12_1).f0) == 1) = true := beq_iff_eq.mpr c7
       have c7b1 : (((rd_T54 l0 x12_1).f0) != 1) = false := bne_eq_false_iff_eq.mpr c7
       clear c7
       replace H := Option.bind_eq_some_iff.mp H
       obtain ⟨⟨t371, t372⟩, A80, H⟩ := H
       replace H : (if x4_1.length < 8796093022208 then (impl_binders.l0 k1 l0 t365 (x4_1 ++ [(⟨t371, t372⟩ : S37)]) l0 (l0.length : Int) (wrap64 (x12_1 + 1))) else (none)) = some r := H
       have A8 := Aside0.mk A80
       clear A80
       by_cases c9 : x4_1.length < 8796093022208
       ·rw [if_pos c9] at H
        have LMc9 := Aside0.mk c9
        clear c9
        obtain ⟨y373, hy373⟩ : ∃ y_ : List (S37), y_ = (x4_1 ++ [(⟨t371, t372⟩ : S37)]) := ⟨_, rfl⟩
        replace H : (impl_binders.l0 k1 l0 t365 y373 l0 (l0.length : Int) (wrap64 (x12_1 + 1))) = some r := by first | (rw [hy373]; with_reducible exact H) | (have H2_ := (Option.bind_some _ _).symm.trans H; rw [hy373]; with_reducible exact H2_) | (have H2_ := (Option.bind_some _ _).symm.trans H; with_reducible exact H2_) | with_reducible exact H | (rw [hy373]; exact H) | exact H
        have Ny373 := Aside0.mk hy373
        clear hy373
        have H' := Aside0.mk H
        clear H
        have p368 : 0 ≤ (x12_1 : Int) := of_decide_eq_true az
        have q368 : x12_1 < (l0.length : Int) := of_decide_eq_true az
        obtain ⟨ad368, e368, hx368_0, hx368_1, hx368_2, hx368_3, hx368_4, hx368_5, hx368_6⟩ := at_T54 HR0.out x12_1 p368 q368
        cases e368
        replace hx368_0 := hz HB.out hx368_0
        replace hx368_1 := hz HB.out hx368_1
        replace hx368_2 := hz HB.out hx368_2
        replace hx368_3 := hz HB.out hx368_3
        replace hx368_4 := hz HB.out hx368_4
        replace hx368_5 := hz HB.out hx368_5
        replace hx368_6 := hz HB.out hx368_6
        replace p368 := eq_true p368
        replace q368 := eq_true q368
        go_wp2_with (first | ((with_reducible refine gate_dst (N := 6) rfl ?_); refine box_event ?hg (N := 6) ?hd (cs := #[.int .i64 0, .int .i64 0, .int .i64 0, .int .i64 0, .int .i64 0, .string (⟨#[]⟩ : ByteArray), .string (⟨#[]⟩ : ByteArray)]) (t := 54) ?hr ?_; (case hd => rfl); (case hg => rfl); (case hr => first | (go_simp; done) | (go_simp; rfl)); intro gb369 hg w10 hbox hb; have n0_ := Aside0.mk (Kd.R_below (rz HO_3.out) hb); have n1_ := Aside0.mk (Kd.R_below (rz HO_4.out) hb); have n2_ := Aside0.mk (below_step (bz0 HB.out) hb); have n3_ := Aside0.mk (hbox); have n4_ := Aside0.mk ((by rw [hg]; exact (below_size (bz0 HB.out)) : w.heap.size ≤ gb369)); have n5_ := Aside0.mk ((by rw [hg]; exact (below_size (bz0 HB.out)) : w.heap.size ≤ gb369)); clear HO_3; clear HO_4; clear HB; have HO_3 := n0_; have HO_4 := n1_; have HB := n2_; have BK369 := n3_; have GW369 := n4_; have GE369 := n5_; clear n0_ n1_ n2_ n3_ n4_ n5_; clear hb hbox hg; have hcz11_0 : w10.cell? ⟨gb369, 0, none⟩ = some (.int .i64 0) := (blk_cell BK369.out 0).trans rfl; have hcz11_1 : w10.cell? ⟨gb369, 1, none⟩ = some (.int .i64 0) := (blk_cell BK369.out 1).trans rfl; have hcz11_2 : w10.cell? ⟨gb369, 2, none⟩ = some (.int .i64 0) := (blk_cell BK369.out 2).trans rfl; have hcz11_3 : w10.cell? ⟨gb369, 3, none⟩ = some (.int .i64 0) := (blk_cell BK369.out 3).trans rfl; have hcz11_4 : w10.cell? ⟨gb369, 4, none⟩ = some (.int .i64 0) := (blk_cell BK369.out 4).trans rfl; have hcz11_5 : w10.cell? ⟨gb369, 5, none⟩ = some (.string (⟨#[]⟩ : ByteArray)) := (blk_cell BK369.out 5).trans rfl; have hcz11_6 : w10.cell? ⟨gb369, 6, none⟩ = some (.string (⟨#[]⟩ : ByteArray)) := (blk_cell BK369.out 6).trans rfl; have hfz11_0 := blk_frozen BK369.out 0; have hfz11_1 := blk_frozen BK369.out 1; have hfz11_2 := blk_frozen BK369.out 2; have hfz11_3 := blk_frozen BK369.out 3; have hfz11_4 := blk_frozen BK369.out 4; have hfz11_5 := blk_frozen BK369.out 5; have hfz11_6 := blk_frozen BK369.out 6) | ((with_reducible refine gate_dst (N := 7) rfl ?_); refine box_event ?hg (N := 7) ?hd (cs := #[.int .i64 0, .int .i64 0]) (t := 37) ?hr ?_; (case hd => rfl); (case hg => rfl); (case hr => first | (go_simp; done) | (go_simp; rfl)); intro gb370 hg w12 hbox hb; have n0_ := Aside0.mk (Kd.R_below (by (with_reducible repeat (first | apply Kd.R_alloc | apply Kd.R_drewN | apply Kd.R_drew)); exact (Kd.R_mono (Kd.R_far (p := ⟨gb369, 6, none⟩) (Kd.R_far (p := ⟨gb369, 5, none⟩) (Kd.R_far (p := ⟨gb369, 4, none⟩) (Kd.R_far (p := ⟨gb369, 3, none⟩) (Kd.R_far (p := ⟨gb369, 2, none⟩) (Kd.R_far (p := ⟨gb369, 1, none⟩) (Kd.R_far (p := ⟨gb369, 0, none⟩) (Kd.R_types HO_3.out BK369.out (by decide)) (fun _ hk => hk.2) (.int .i64 ((rd_T54 l0 x12_1).f0))) (fun _ hk => hk.2) (.int .i64 ((rd_T54 l0 x12_1).f1))) (fun _ hk => hk.2) (.int .i64 ((rd_T54 l0 x12_1).f2))) (fun _ hk => hk.2) (.int .i64 ((rd_T54 l0 x12_1).f3))) (fun _ hk => hk.2) (.int .i64 ((rd_T54 l0 x12_1).f4))) (fun _ hk => hk.2) (.string ((rd_T54 l0 x12_1).f5))) (fun _ hk => hk.2) (.string ((rd_T54 l0 x12_1).f6))) (fun _ h_ => h_.1))) hb); have n1_ := Aside0.mk (Kd.R_below (Kd.R_elderB (by (with_reducible repeat (first | apply Kd.R_alloc | apply Kd.R_drewN | apply Kd.R_drew)); exact (Kd.R_mono (Kd.R_far (p := ⟨gb369, 6, none⟩) (Kd.R_far (p := ⟨gb369, 5, none⟩) (Kd.R_far (p := ⟨gb369, 4, none⟩) (Kd.R_far (p := ⟨gb369, 3, none⟩) (Kd.R_far (p := ⟨gb369, 2, none⟩) (Kd.R_far (p := ⟨gb369, 1, none⟩) (Kd.R_far (p := ⟨gb369, 0, none⟩) (Kd.R_types HO_4.out BK369.out (by decide)) (fun _ hk => hk.2) (.int .i64 ((rd_T54 l0 x12_1).f0))) (fun _ hk => hk.2) (.int .i64 ((rd_T54 l0 x12_1).f1))) (fun _ hk => hk.2) (.int .i64 ((rd_T54 l0 x12_1).f2))) (fun _ hk => hk.2) (.int .i64 ((rd_T54 l0 x12_1).f3))) (fun _ hk => hk.2) (.int .i64 ((rd_T54 l0 x12_1).f4))) (fun _ hk => hk.2) (.string ((rd_T54 l0 x12_1).f5))) (fun _ hk => hk.2) (.string ((rd_T54 l0 x12_1).f6))) (fun _ h_ => h_.1))) gb370 (Nat.le_of_eq hg.symm)) hb); have n2_ := Aside0.mk (blk_below (g := gb369) (o := .cells #[.int .i64 ((rd_T54 l0 x12_1).f0), .int .i64 ((rd_T54 l0 x12_1).f1), .int .i64 ((rd_T54 l0 x12_1).f2), .int .i64 ((rd_T54 l0 x12_1).f3), .int .i64 ((rd_T54 l0 x12_1).f4), .string ((rd_T54 l0 x12_1).f5), .string ((rd_T54 l0 x12_1).f6)] 54 (0, 0)) (by (with_reducible repeat (first | refine blk_drewN ?_ _ | refine blk_drew ?_ | refine blk_alloc ?_ _)); refine blk_put (cs := #[.int .i64 ((rd_T54 l0 x12_1).f0), .int .i64 ((rd_T54 l0 x12_1).f1), .int .i64 ((rd_T54 l0 x12_1).f2), .int .i64 ((rd_T54 l0 x12_1).f3), .int .i64 ((rd_T54 l0 x12_1).f4), .string ((rd_T54 l0 x12_1).f5), .string (⟨#[]⟩ : ByteArray)]) ?_ 6 _ rfl; (with_reducible repeat (first | refine blk_drewN ?_ _ | refine blk_drew ?_ | refine blk_alloc ?_ _)); refine blk_put (cs := #[.int .i64 ((rd_T54 l0 x12_1).f0), .int .i64 ((rd_T54 l0 x12_1).f1), .int .i64 ((rd_T54 l0 x12_1).f2), .int .i64 ((rd_T54 l0 x12_1).f3), .int .i64 ((rd_T54 l0 x12_1).f4), .string (⟨#[]⟩ : ByteArray), .string (⟨#[]⟩ : ByteArray)]) ?_ 5 _ rfl; (with_reducible repeat (first | refine blk_drewN ?_ _ | refine blk_drew ?_ | refine blk_alloc ?_ _)); refine blk_put (cs := #[.int .i64 ((rd_T54 l0 x12_1).f0), .int .i64 ((rd_T54 l0 x12_1).f1), .int .i64 ((rd_T54 l0 x12_1).f2), .int .i64 ((rd_T54 l0 x12_1).f3), .int .i64 0, .string (⟨#[]⟩ : ByteArray), .string (⟨#[]⟩ : ByteArray)]) ?_ 4 _ rfl; (with_reducible repeat (first | refine blk_drewN ?_ _ | refine blk_drew ?_ | refine blk_alloc ?_ _)); refine blk_put (cs := #[.int .i64 ((rd_T54 l0 x12_1).f0), .int .i64 ((rd_T54 l0 x12_1).f1), .int .i64 ((rd_T54 l0 x12_1).f2), .int .i64 0, .int .i64 0, .string (⟨#[]⟩ : ByteArray), .string (⟨#[]⟩ : ByteArray)]) ?_ 3 _ rfl; (with_reducible repeat (first | refine blk_drewN ?_ _ | refine blk_drew ?_ | refine blk_alloc ?_ _)); refine blk_put (cs := #[.int .i64 ((rd_T54 l0 x12_1).f0), .int .i64 ((rd_T54 l0 x12_1).f1), .int .i64 0, .int .i64 0, .int .i64 0, .string (⟨#[]⟩ : ByteArray), .string (⟨#[]⟩ : ByteArray)]) ?_ 2 _ rfl; (with_reducible repeat (first | refine blk_drewN ?_ _ | refine blk_drew ?_ | refine blk_alloc ?_ _)); refine blk_put (cs := #[.int .i64 ((rd_T54 l0 x12_1).f0), .int .i64 0, .int .i64 0, .int .i64 0, .int .i64 0, .string (⟨#[]⟩ : ByteArray), .string (⟨#[]⟩ : ByteArray)]) ?_ 1 _ rfl; (with_reducible repeat (first | refine blk_drewN ?_ _ | refine blk_drew ?_ | refine blk_alloc ?_ _)); refine blk_put (cs := #[.int .i64 0, .int .i64 0, .int .i64 0, .int .i64 0, .int .i64 0, .string (⟨#[]⟩ : ByteArray), .string (⟨#[]⟩ : ByteArray)]) ?_ 0 _ rfl; (with_reducible repeat (first | refine blk_drewN ?_ _ | refine blk_drew ?_ | refine blk_alloc ?_ _)); exact BK369.out) hb); have n3_ := Aside0.mk (below_step (bz1 HB.out GE369.out) hb); have n4_ := Aside0.mk (hbox); have n5_ := Aside0.mk ((by rw [hg]; exact (below_size (bz1 HB.out GE369.out)) : w.heap.size ≤ gb370)); have n6_ := Aside0.mk ((by rw [hg]; exact (below_size (bz1 HB.out GE369.out)) : w.heap.size ≤ gb370)); have n7_ := Aside0.mk ((by rw [hg]; exact Nat.ne_of_lt (blk_lt (g := gb369) (o := .cells #[.int .i64 ((rd_T54 l0 x12_1).f0), .int .i64 ((rd_T54 l0 x12_1).f1), .int .i64 ((rd_T54 l0 x12_1).f2), .int .i64 ((rd_T54 l0 x12_1).f3), .int .i64 ((rd_T54 l0 x12_1).f4), .string ((rd_T54 l0 x12_1).f5), .string ((rd_T54 l0 x12_1).f6)] 54 (0, 0)) (by (with_reducible repeat (first | refine blk_drewN ?_ _ | refine blk_drew ?_ | refine blk_alloc ?_ _)); refine blk_put (cs := #[.int .i64 ((rd_T54 l0 x12_1).f0), .int .i64 ((rd_T54 l0 x12_1).f1), .int .i64 ((rd_T54 l0 x12_1).f2), .int .i64 ((rd_T54 l0 x12_1).f3), .int .i64 ((rd_T54 l0 x12_1).f4), .string ((rd_T54 l0 x12_1).f5), .string (⟨#[]⟩ : ByteArray)]) ?_ 6 _ rfl; (with_reducible repeat (first | refine blk_drewN ?_ _ | refine blk_drew ?_ | refine blk_alloc ?_ _)); refine blk_put (cs := #[.int .i64 ((rd_T54 l0 x12_1).f0), .int .i64 ((rd_T54 l0 x12_1).f1), .int .i64 ((rd_T54 l0 x12_1).f2), .int .i64 ((rd_T54 l0 x12_1).f3), .int .i64 ((rd_T54 l0 x12_1).f4), .string (⟨#[]⟩ : ByteArray), .string (⟨#[]⟩ : ByteArray)]) ?_ 5 _ rfl; (with_reducible repeat (first | refine blk_drewN ?_ _ | refine blk_drew ?_ | refine blk_alloc ?_ _)); refine blk_put (cs := #[.int .i64 ((rd_T54 l0 x12_1).f0), .int .i64 ((rd_T54 l0 x12_1).f1), .int .i64 ((rd_T54 l0 x12_1).f2), .int .i64 ((rd_T54 l0 x12_1).f3), .int .i64 0, .string (⟨#[]⟩ : ByteArray), .string (⟨#[]⟩ : ByteArray)]) ?_ 4 _ rfl; (with_reducible repeat (first | refine blk_drewN ?_ _ | refine blk_drew ?_ | refine blk_alloc ?_ _)); refine blk_put (cs := #[.int .i64 ((rd_T54 l0 x12_1).f0), .int .i64 ((rd_T54 l0 x12_1).f1), .int .i64 ((rd_T54 l0 x12_1).f2), .int .i64 0, .int .i64 0, .string (⟨#[]⟩ : ByteArray), .string (⟨#[]⟩ : ByteArray)]) ?_ 3 _ rfl; (with_reducible repeat (first | refine blk_drewN ?_ _ | refine blk_drew ?_ | refine blk_alloc ?_ _)); refine blk_put (cs := #[.int .i64 ((rd_T54 l0 x12_1).f0), .int .i64 ((rd_T54 l0 x12_1).f1), .int .i64 0, .int .i64 0, .int .i64 0, .string (⟨#[]⟩ : ByteArray), .string (⟨#[]⟩ : ByteArray)]) ?_ 2 _ rfl; (with_reducible repeat (first | refine blk_drewN ?_ _ | refine blk_drew ?_ | refine blk_alloc ?_ _)); refine blk_put (cs := #[.int .i64 ((rd_T54 l0 x12_1).f0), .int .i64 0, .int .i64 0, .int .i64 0, .int .i64 0, .string (⟨#[]⟩ : ByteArray), .string (⟨#[]⟩ : ByteArray)]) ?_ 1 _ rfl; (with_reducible repeat (first | refine blk_drewN ?_ _ | refine blk_drew ?_ | refine blk_alloc ?_ _)); refine blk_put (cs := #[.int .i64 0, .int .i64 0, .int .i64 0, .int .i64 0, .int .i64 0, .string (⟨#[]⟩ : ByteArray), .string (⟨#[]⟩ : ByteArray)]) ?_ 0 _ rfl; (with_reducible repeat (first | refine blk_drewN ?_ _ | refine blk_drew ?_ | refine blk_alloc ?_ _)); exact BK369.out)) : gb369 ≠ gb370)); have n8_ := Aside0.mk ((by rw [hg]; exact Nat.ne_of_gt (blk_lt (g := gb369) (o := .cells #[.int .i64 ((rd_T54 l0 x12_1).f0), .int .i64 ((rd_T54 l0 x12_1).f1), .int .i64 ((rd_T54 l0 x12_1).f2), .int .i64 ((rd_T54 l0 x12_1).f3), .int .i64 ((rd_T54 l0 x12_1).f4), .string ((rd_T54 l0 x12_1).f5), .string ((rd_T54 l0 x12_1).f6)] 54 (0, 0)) (by (with_reducible repeat (first | refine blk_drewN ?_ _ | refine blk_drew ?_ | refine blk_alloc ?_ _)); refine blk_put (cs := #[.int .i64 ((rd_T54 l0 x12_1).f0), .int .i64 ((rd_T54 l0 x12_1).f1), .int .i64 ((rd_T54 l0 x12_1).f2), .int .i64 ((rd_T54 l0 x12_1).f3), .int .i64 ((rd_T54 l0 x12_1).f4), .string ((rd_T54 l0 x12_1).f5), .string (⟨#[]⟩ : ByteArray)]) ?_ 6 _ rfl; (with_reducible repeat (first | refine blk_drewN ?_ _ | refine blk_drew ?_ | refine blk_alloc ?_ _)); refine blk_put (cs := #[.int .i64 ((rd_T54 l0 x12_1).f0), .int .i64 ((rd_T54 l0 x12_1).f1), .int .i64 ((rd_T54 l0 x12_1).f2), .int .i64 ((rd_T54 l0 x12_1).f3), .int .i64 ((rd_T54 l0 x12_1).f4), .string (⟨#[]⟩ : ByteArray), .string (⟨#[]⟩ : ByteArray)]) ?_ 5 _ rfl; (with_reducible repeat (first | refine blk_drewN ?_ _ | refine blk_drew ?_ | refine blk_alloc ?_ _)); refine blk_put (cs := #[.int .i64 ((rd_T54 l0 x12_1).f0), .int .i64 ((rd_T54 l0 x12_1).f1), .int .i64 ((rd_T54 l0 x12_1).f2), .int .i64 ((rd_T54 l0 x12_1).f3), .int .i64 0, .string (⟨#[]⟩ : ByteArray), .string (⟨#[]⟩ : ByteArray)]) ?_ 4 _ rfl; (with_reducible repeat (first | refine blk_drewN ?_ _ | refine blk_drew ?_ | refine blk_alloc ?_ _)); refine blk_put (cs := #[.int .i64 ((rd_T54 l0 x12_1).f0), .int .i64 ((rd_T54 l0 x12_1).f1), .int .i64 ((rd_T54 l0 x12_1).f2), .int .i64 0, .int .i64 0, .string (⟨#[]⟩ : ByteArray), .string (⟨#[]⟩ : ByteArray)]) ?_ 3 _ rfl; (with_reducible repeat (first | refine blk_drewN ?_ _ | refine blk_drew ?_ | refine blk_alloc ?_ _)); refine blk_put (cs := #[.int .i64 ((rd_T54 l0 x12_1).f0), .int .i64 ((rd_T54 l0 x12_1).f1), .int .i64 0, .int .i64 0, .int .i64 0, .string (⟨#[]⟩ : ByteArray), .string (⟨#[]⟩ : ByteArray)]) ?_ 2 _ rfl; (with_reducible repeat (first | refine blk_drewN ?_ _ | refine blk_drew ?_ | refine blk_alloc ?_ _)); refine blk_put (cs := #[.int .i64 ((rd_T54 l0 x12_1).f0), .int .i64 0, .int .i64 0, .int .i64 0, .int .i64 0, .string (⟨#[]⟩ : ByteArray), .string (⟨#[]⟩ : ByteArray)]) ?_ 1 _ rfl; (with_reducible repeat (first | refine blk_drewN ?_ _ | refine blk_drew ?_ | refine blk_alloc ?_ _)); refine blk_put (cs := #[.int .i64 0, .int .i64 0, .int .i64 0, .int .i64 0, .int .i64 0, .string (⟨#[]⟩ : ByteArray), .string (⟨#[]⟩ : ByteArray)]) ?_ 0 _ rfl; (with_reducible repeat (first | refine blk_drewN ?_ _ | refine blk_drew ?_ | refine blk_alloc ?_ _)); exact BK369.out)) : gb370 ≠ gb369)); clear HO_3; clear HO_4; clear BK369; clear HB; have HO_3 := n0_; have HO_4 := n1_; have BK369 := n2_; have HB := n3_; have BK370 := n4_; have GW370 := n5_; have GE370 := n6_; have NB369_370 := n7_; have NB370_369 := n8_; clear n0_ n1_ n2_ n3_ n4_ n5_ n6_ n7_ n8_; clear hb hbox hg; have hnb13 := NB370_369.out; have hnc13 := NB369_370.out; have hcz14_0 : w12.cell? ⟨gb370, 0, none⟩ = some (.int .i64 0) := (blk_cell BK370.out 0).trans rfl; have hcz14_1 : w12.cell? ⟨gb370, 1, none⟩ = some (.int .i64 0) := (blk_cell BK370.out 1).trans rfl; have hfz14_0 := blk_frozen BK370.out 0; have hfz14_1 := blk_frozen BK370.out 1; have hcz15_0 : w12.cell? ⟨gb369, 0, none⟩ = some (.int .i64 ((rd_T54 l0 x12_1).f0)) := (blk_cell BK369.out 0).trans rfl; have hcz15_1 : w12.cell? ⟨gb369, 1, none⟩ = some (.int .i64 ((rd_T54 l0 x12_1).f1)) := (blk_cell BK369.out 1).trans rfl; have hcz15_2 : w12.cell? ⟨gb369, 2, none⟩ = some (.int .i64 ((rd_T54 l0 x12_1).f2)) := (blk_cell BK369.out 2).trans rfl; have hcz15_3 : w12.cell? ⟨gb369, 3, none⟩ = some (.int .i64 ((rd_T54 l0 x12_1).f3)) := (blk_cell BK369.out 3).trans rfl; have hcz15_4 : w12.cell? ⟨gb369, 4, none⟩ = some (.int .i64 ((rd_T54 l0 x12_1).f4)) := (blk_cell BK369.out 4).trans rfl; have hcz15_5 : w12.cell? ⟨gb369, 5, none⟩ = some (.string ((rd_T54 l0 x12_1).f5)) := (blk_cell BK369.out 5).trans rfl; have hcz15_6 : w12.cell? ⟨gb369, 6, none⟩ = some (.string ((rd_T54 l0 x12_1).f6)) := (blk_cell BK369.out 6).trans rfl; have hfz15_0 := blk_frozen BK369.out 0; have hfz15_1 := blk_frozen BK369.out 1; have hfz15_2 := blk_frozen BK369.out 2; have hfz15_3 := blk_frozen BK369.out 3; have hfz15_4 := blk_frozen BK369.out 4; have hfz15_5 := blk_frozen BK369.out 5; have hfz15_6 := blk_frozen BK369.out 6; obtain ⟨Ao16, co16, eo16⟩ := Kd.R_slice HO_3.out; subst eo16) | ((with_reducible refine gate_callee (f := 64) rfl ?_); refine goesL_ (some 26) rfl rfl Tryd.func64 (by kernel_rfl) rfl #[.slice (some ad368) l0.length c0, .slice Ao16 t365.length co16, .int .i64 x12_1, .string ((rd_T54 l0 x12_1).f5)] rfl lz ?_; (with_reducible refine (impl_binderOf.calls k1 _ _ l0 _ _ t365 x12_1 ((rd_T54 l0 x12_1).f5) t371 t372 _ ?side1 ?side2 ?side3 ?side4 A8.out).mono ?_); (case side1 => exact Kd.C_below HR0.out (bz2 HB.out GE369.out GE370.out)); (case side2 => exact HC0.out); (case side3 => refine (Kd.R_reads' (e := 3) (base := w.heap.size) (ok := fun k_ => True) (n := t365.length) (c := co16) ?_).2.2; exact (by (with_reducible repeat (first | apply Kd.R_alloc | apply Kd.R_drewN | apply Kd.R_drew)); exact (Kd.R_mono (Kd.R_far (p := ⟨gb370, 1, none⟩) (Kd.R_far (p := ⟨gb370, 0, none⟩) (Kd.R_types HO_3.out BK370.out (by decide)) (fun _ hk => hk.2) (.int .i64 (-1))) (fun _ hk => hk.2) (.int .i64 (-1))) (fun _ h_ => h_.1)))); (case side4 => exact (Kd.R_reads' HO_3.out).2.1); rintro e w17 ⟨rfl, hb⟩; refine ⟨_, rfl, ?_⟩; have n0_ := Aside0.mk (Kd.R_below (by (with_reducible repeat (first | apply Kd.R_alloc | apply Kd.R_drewN | apply Kd.R_drew)); exact (Kd.R_mono (Kd.R_far (p := ⟨gb370, 1, none⟩) (Kd.R_far (p := ⟨gb370, 0, none⟩) (Kd.R_types HO_3.out BK370.out (by decide)) (fun _ hk => hk.2) (.int .i64 (-1))) (fun _ hk => hk.2) (.int .i64 (-1))) (fun _ h_ => h_.1))) hb); have n1_ := Aside0.mk (Kd.R_below (by (with_reducible repeat (first | apply Kd.R_alloc | apply Kd.R_drewN | apply Kd.R_drew)); exact (Kd.R_mono (Kd.R_far (p := ⟨gb370, 1, none⟩) (Kd.R_far (p := ⟨gb370, 0, none⟩) (Kd.R_mono HO_4.out (fun k_ hk => (⟨hk, hk.2⟩ : _ ∧ k_ ≠ gb370))) (fun _ hk => hk.2) (.int .i64 (-1))) (fun _ hk => hk.2) (.int .i64 (-1))) (fun _ h_ => h_.1))) hb); have n2_ := Aside0.mk (blk_below (g := gb369) (o := .cells #[.int .i64 ((rd_T54 l0 x12_1).f0), .int .i64 ((rd_T54 l0 x12_1).f1), .int .i64 ((rd_T54 l0 x12_1).f2), .int .i64 ((rd_T54 l0 x12_1).f3), .int .i64 ((rd_T54 l0 x12_1).f4), .string ((rd_T54 l0 x12_1).f5), .string ((rd_T54 l0 x12_1).f6)] 54 (0, 0)) (by (with_reducible repeat (first | refine blk_drewN ?_ _ | refine blk_drew ?_ | refine blk_alloc ?_ _)); refine blk_far ?_ NB369_370.out _; (with_reducible repeat (first | refine blk_drewN ?_ _ | refine blk_drew ?_ | refine blk_alloc ?_ _)); refine blk_far ?_ NB369_370.out _; (with_reducible repeat (first | refine blk_drewN ?_ _ | refine blk_drew ?_ | refine blk_alloc ?_ _)); exact BK369.out) hb); have n3_ := Aside0.mk (blk_below (g := gb370) (o := .cells #[.int .i64 (-1), .int .i64 (-1)] 37 (0, 0)) (by (with_reducible repeat (first | refine blk_drewN ?_ _ | refine blk_drew ?_ | refine blk_alloc ?_ _)); refine blk_put (cs := #[.int .i64 (-1), .int .i64 0]) ?_ 1 _ rfl; (with_reducible repeat (first | refine blk_drewN ?_ _ | refine blk_drew ?_ | refine blk_alloc ?_ _)); refine blk_put (cs := #[.int .i64 0, .int .i64 0]) ?_ 0 _ rfl; (with_reducible repeat (first | refine blk_drewN ?_ _ | refine blk_drew ?_ | refine blk_alloc ?_ _)); exact BK370.out) hb); have n4_ := Aside0.mk (below_step (bz2 HB.out GE369.out GE370.out) hb); clear HO_3; clear HO_4; clear BK369; clear BK370; clear HB; have HO_3 := n0_; have HO_4 := n1_; have BK369 := n2_; have BK370 := n3_; have HB := n4_; clear n0_ n1_ n2_ n3_ n4_; (try clear hb); (try clear hb2); (try clear hk); (try clear hi); have hcz18_0 : w17.cell? ⟨gb370, 0, none⟩ = some (.int .i64 (-1)) := (blk_cell BK370.out 0).trans rfl; have hcz18_1 : w17.cell? ⟨gb370, 1, none⟩ = some (.int .i64 (-1)) := (blk_cell BK370.out 1).trans rfl; have hfz18_0 := blk_frozen BK370.out 0; have hfz18_1 := blk_frozen BK370.out 1) | ((with_reducible refine gate_builtin (b := .append) (xs := #[.tmp 27, .tmp 29]) rfl ?_); at_builtin; refine Kd.R_append k37 (w0 := w) w.heap.size rfl (.tmp 27) (.tmp 29) 32 37 (.agg #[(.int .i64 0), (.int .i64 0)]) 16 rfl Tryd.underlying32 info37 rfl (by decide) (by omega) u4 x4_1 (⟨t371, t372⟩ : S37) [.int .i64 t371, .int .i64 t372] (fun k_ => k_ ≠ gb370) (fun _ => False) rfl (by first | (go_simp; done) | (go_simp; rfl)) ?aP (fun _ hk => hk.elim) ?aF ?aO ?aB ?aS ?aL ?_; (case aP => exact k37_mkM _ _ _ (⟨t371, t372⟩ : S37)); (case aB => exact (bz2 HB.out GE369.out GE370.out)); (case aF => exact (fun k_ hk => Kd.freshB (g := gb370) (o := .cells #[.int .i64 t371, .int .i64 t372] 37 (0, 0)) (by (with_reducible repeat (first | refine blk_drewN ?_ _ | refine blk_drew ?_ | refine blk_alloc ?_ _)); refine blk_put (cs := #[.int .i64 t371, .int .i64 (-1)]) ?_ 1 _ rfl; (with_reducible repeat (first | refine blk_drewN ?_ _ | refine blk_drew ?_ | refine blk_alloc ?_ _)); refine blk_put (cs := #[.int .i64 (-1), .int .i64 (-1)]) ?_ 0 _ rfl; (with_reducible repeat (first | refine blk_drewN ?_ _ | refine blk_drew ?_ | refine blk_alloc ?_ _)); exact BK370.out) k_ hk)); (case aO => exact (by (with_reducible repeat (first | apply Kd.R_alloc | apply Kd.R_drewN | apply Kd.R_drew)); first | (with_reducible exact Kd.R_mono (Kd.R_far (p := ⟨gb370, 1, none⟩) (Kd.R_far (p := ⟨gb370, 0, none⟩) (Kd.R_mono HO_4.out (fun k_ hk => (⟨hk, hk.2⟩ : _ ∧ k_ ≠ gb370))) (fun _ hk => hk.2) (.int .i64 t371)) (fun _ hk => hk.2) (.int .i64 t372)) (fun _ hk => hk.1.2)) | (with_reducible exact Kd.R_mono (Kd.R_far (p := ⟨gb370, 1, none⟩) (Kd.R_drewN (Kd.R_far (p := ⟨gb370, 0, none⟩) (Kd.R_mono HO_4.out (fun k_ hk => (⟨hk, hk.2⟩ : _ ∧ k_ ≠ gb370))) (fun _ hk => hk.2) (.int .i64 t371)) _) (fun _ hk => hk.2) (.int .i64 t372)) (fun _ hk => hk.1.2)) | exact Kd.R_mono (Kd.R_far (p := ⟨gb370, 1, none⟩) (Kd.R_drewN (Kd.R_far (p := ⟨gb370, 0, none⟩) (Kd.R_mono HO_4.out (fun k_ hk => (⟨hk, hk.2⟩ : _ ∧ k_ ≠ gb370))) (fun _ hk => hk.2) (.int .i64 t371)) _) (fun _ hk => hk.2) (.int .i64 t372)) (fun _ hk => hk.1.2))); (case aS => exact (below_size (bz2 HB.out GE369.out GE370.out))); (case aL => have := LMc9.out; omega); intro v374 w19 ho hb hg hat; rw [← Ny373.out] at ho; have n0_ := Aside0.mk (Kd.R_over' (by (with_reducible repeat (first | apply Kd.R_alloc | apply Kd.R_drewN | apply Kd.R_drew)); exact (Kd.R_mono (Kd.R_far (p := ⟨gb370, 1, none⟩) (Kd.R_far (p := ⟨gb370, 0, none⟩) (Kd.R_types HO_3.out BK370.out (by decide)) (fun _ hk => hk.2) (.int .i64 t371)) (fun _ hk => hk.2) (.int .i64 t372)) (fun _ h_ => h_.1))) (Kd.R_typed (by (with_reducible repeat (first | apply Kd.R_alloc | apply Kd.R_drewN | apply Kd.R_drew)); exact (Kd.R_mono (Kd.R_far (p := ⟨gb370, 1, none⟩) (Kd.R_far (p := ⟨gb370, 0, none⟩) (Kd.R_mono HO_4.out (fun k_ hk => (⟨hk, hk.2⟩ : _ ∧ k_ ≠ gb370))) (fun _ hk => hk.2) (.int .i64 t371)) (fun _ hk => hk.2) (.int .i64 t372)) (fun _ h_ => h_.1)))) (by decide) hg); have n1_ := Aside0.mk (blk_grown (g := gb369) (o := .cells #[.int .i64 ((rd_T54 l0 x12_1).f0), .int .i64 ((rd_T54 l0 x12_1).f1), .int .i64 ((rd_T54 l0 x12_1).f2), .int .i64 ((rd_T54 l0 x12_1).f3), .int .i64 ((rd_T54 l0 x12_1).f4), .string ((rd_T54 l0 x12_1).f5), .string ((rd_T54 l0 x12_1).f6)] 54 (0, 0)) (by (with_reducible repeat (first | refine blk_drewN ?_ _ | refine blk_drew ?_ | refine blk_alloc ?_ _)); refine blk_far ?_ NB369_370.out _; (with_reducible repeat (first | refine blk_drewN ?_ _ | refine blk_drew ?_ | refine blk_alloc ?_ _)); refine blk_far ?_ NB369_370.out _; (with_reducible repeat (first | refine blk_drewN ?_ _ | refine blk_drew ?_ | refine blk_alloc ?_ _)); exact BK369.out) hg (Kd.R_ne HO_4.out BK369.out (by decide))); have n2_ := Aside0.mk (blk_grown (g := gb370) (o := .cells #[.int .i64 t371, .int .i64 t372] 37 (0, 0)) (by (with_reducible repeat (first | refine blk_drewN ?_ _ | refine blk_drew ?_ | refine blk_alloc ?_ _)); refine blk_put (cs := #[.int .i64 t371, .int .i64 (-1)]) ?_ 1 _ rfl; (with_reducible repeat (first | refine blk_drewN ?_ _ | refine blk_drew ?_ | refine blk_alloc ?_ _)); refine blk_put (cs := #[.int .i64 (-1), .int .i64 (-1)]) ?_ 0 _ rfl; (with_reducible repeat (first | refine blk_drewN ?_ _ | refine blk_drew ?_ | refine blk_alloc ?_ _)); exact BK370.out) hg (Kd.R_away HO_4.out (fun _ hk => hk.2))); have n3_ := Aside0.mk (hb); have n4_ := Aside0.mk (ho); clear HO_3; clear BK369; clear BK370; clear HB; clear HO_4; have HO_3 := n0_; have BK369 := n1_; have BK370 := n2_; have HB := n3_; have HO375 := n4_; clear n0_ n1_ n2_ n3_ n4_; clear ho hb hg hat))
        go_roundg k1
        case measure => have := HK1.out; omega
        case rel => exact ⟨(y373), (wrap64 (x12_1 + 1)), ez, H', ⟨by have := HK1.out; omega⟩, ⟨by (with_reducible repeat (first | apply Kd.R_alloc | apply Kd.R_drewN | apply Kd.R_drew)); exact HO_3.out⟩, ⟨by (with_reducible repeat (first | apply Kd.R_alloc | apply Kd.R_drewN | apply Kd.R_drew)); exact Kd.R_mono HO375.out (fun _ hk => trivial)⟩, ⟨(bz2 HB.out GE369.out GE370.out)⟩⟩
       ·rw [if_neg c9] at H
        exact absurd H (by simp)
      ·rw [if_neg c7] at H
       have c7b0 : (((rd_T54 l0 x12_1).f0) == 1) = false := beq_eq_false_iff_ne.mpr c7
       have c7b1 : (((rd_T54 l0 x12_1).f0) != 1) = true := bne_iff_ne.mpr c7
       by_cases c20 : x4_1.length < 8796093022208
       ·rw [if_pos c20] at H
        have LMc20 := Aside0.mk c20
        clear c20
        obtain ⟨y376, hy376⟩ : ∃ y_ : List (S37), y_ = (x4_1 ++ [(⟨(-1), (-1)⟩ : S37)]) := ⟨_, rfl⟩
        replace H : (impl_binders.l0 k1 l0 t365 y376 l0 (l0.length : Int) (wrap64 (x12_1 + 1))) = some r := by first | (rw [hy376]; with_reducible exact H) | (have H2_ := (Option.bind_some _ _).symm.trans H; rw [hy376]; with_reducible exact H2_) | (have H2_ := (Option.bind_some _ _).symm.trans H; with_reducible exact H2_) | with_reducible exact H | (rw [hy376]; exact H) | exact H
        have Ny376 := Aside0.mk hy376
        clear hy376
        have H' := Aside0.mk H
        clear H
        have p368 : 0 ≤ (x12_1 : Int) := of_decide_eq_true az
        have q368 : x12_1 < (l0.length : Int) := of_decide_eq_true az
        obtain ⟨ad368, e368, hx368_0, hx368_1, hx368_2, hx368_3, hx368_4, hx368_5, hx368_6⟩ := at_T54 HR0.out x12_1 p368 q368
        cases e368
        replace hx368_0 := hz HB.out hx368_0
        replace hx368_1 := hz HB.out hx368_1
        replace hx368_2 := hz HB.out hx368_2
        replace hx368_3 := hz HB.out hx368_3
        replace hx368_4 := hz HB.out hx368_4
        replace hx368_5 := hz HB.out hx368_5
        replace hx368_6 := hz HB.out hx368_6
        replace p368 := eq_true p368
        replace q368 := eq_true q368
        go_wp2_with (first | ((with_reducible refine gate_dst (N := 6) rfl ?_); refine box_event ?hg (N := 6) ?hd (cs := #[.int .i64 0, .int .i64 0, .int .i64 0, .int .i64 0, .int .i64 0, .string (⟨#[]⟩ : ByteArray), .string (⟨#[]⟩ : ByteArray)]) (t := 54) ?hr ?_; (case hd => rfl); (case hg => rfl); (case hr => first | (go_simp; done) | (go_simp; rfl)); intro gb369 hg w21 hbox hb; have n0_ := Aside0.mk (Kd.R_below (rz HO_3.out) hb); have n1_ := Aside0.mk (Kd.R_below (rz HO_4.out) hb); have n2_ := Aside0.mk (below_step (bz0 HB.out) hb); have n3_ := Aside0.mk (hbox); have n4_ := Aside0.mk ((by rw [hg]; exact (below_size (bz0 HB.out)) : w.heap.size ≤ gb369)); have n5_ := Aside0.mk ((by rw [hg]; exact (below_size (bz0 HB.out)) : w.heap.size ≤ gb369)); clear HO_3; clear HO_4; clear HB; have HO_3 := n0_; have HO_4 := n1_; have HB := n2_; have BK369 := n3_; have GW369 := n4_; have GE369 := n5_; clear n0_ n1_ n2_ n3_ n4_ n5_; clear hb hbox hg; have hcz22_0 : w21.cell? ⟨gb369, 0, none⟩ = some (.int .i64 0) := (blk_cell BK369.out 0).trans rfl; have hcz22_1 : w21.cell? ⟨gb369, 1, none⟩ = some (.int .i64 0) := (blk_cell BK369.out 1).trans rfl; have hcz22_2 : w21.cell? ⟨gb369, 2, none⟩ = some (.int .i64 0) := (blk_cell BK369.out 2).trans rfl; have hcz22_3 : w21.cell? ⟨gb369, 3, none⟩ = some (.int .i64 0) := (blk_cell BK369.out 3).trans rfl; have hcz22_4 : w21.cell? ⟨gb369, 4, none⟩ = some (.int .i64 0) := (blk_cell BK369.out 4).trans rfl; have hcz22_5 : w21.cell? ⟨gb369, 5, none⟩ = some (.string (⟨#[]⟩ : ByteArray)) := (blk_cell BK369.out 5).trans rfl; have hcz22_6 : w21.cell? ⟨gb369, 6, none⟩ = some (.string (⟨#[]⟩ : ByteArray)) := (blk_cell BK369.out 6).trans rfl; have hfz22_0 := blk_frozen BK369.out 0; have hfz22_1 := blk_frozen BK369.out 1; have hfz22_2 := blk_frozen BK369.out 2; have hfz22_3 := blk_frozen BK369.out 3; have hfz22_4 := blk_frozen BK369.out 4; have hfz22_5 := blk_frozen BK369.out 5; have hfz22_6 := blk_frozen BK369.out 6) | ((with_reducible refine gate_dst (N := 7) rfl ?_); refine box_event ?hg (N := 7) ?hd (cs := #[.int .i64 0, .int .i64 0]) (t := 37) ?hr ?_; (case hd => rfl); (case hg => rfl); (case hr => first | (go_simp; done) | (go_simp; rfl)); intro gb370 hg w23 hbox hb; have n0_ := Aside0.mk (Kd.R_below (by (with_reducible repeat (first | apply Kd.R_alloc | apply Kd.R_drewN | apply Kd.R_drew)); exact (Kd.R_mono (Kd.R_far (p := ⟨gb369, 6, none⟩) (Kd.R_far (p := ⟨gb369, 5, none⟩) (Kd.R_far (p := ⟨gb369, 4, none⟩) (Kd.R_far (p := ⟨gb369, 3, none⟩) (Kd.R_far (p := ⟨gb369, 2, none⟩) (Kd.R_far (p := ⟨gb369, 1, none⟩) (Kd.R_far (p := ⟨gb369, 0, none⟩) (Kd.R_types HO_3.out BK369.out (by decide)) (fun _ hk => hk.2) (.int .i64 ((rd_T54 l0 x12_1).f0))) (fun _ hk => hk.2) (.int .i64 ((rd_T54 l0 x12_1).f1))) (fun _ hk => hk.2) (.int .i64 ((rd_T54 l0 x12_1).f2))) (fun _ hk => hk.2) (.int .i64 ((rd_T54 l0 x12_1).f3))) (fun _ hk => hk.2) (.int .i64 ((rd_T54 l0 x12_1).f4))) (fun _ hk => hk.2) (.string ((rd_T54 l0 x12_1).f5))) (fun _ hk => hk.2) (.string ((rd_T54 l0 x12_1).f6))) (fun _ h_ => h_.1))) hb); have n1_ := Aside0.mk (Kd.R_below (Kd.R_elderB (by (with_reducible repeat (first | apply Kd.R_alloc | apply Kd.R_drewN | apply Kd.R_drew)); exact (Kd.R_mono (Kd.R_far (p := ⟨gb369, 6, none⟩) (Kd.R_far (p := ⟨gb369, 5, none⟩) (Kd.R_far (p := ⟨gb369, 4, none⟩) (Kd.R_far (p := ⟨gb369, 3, none⟩) (Kd.R_far (p := ⟨gb369, 2, none⟩) (Kd.R_far (p := ⟨gb369, 1, none⟩) (Kd.R_far (p := ⟨gb369, 0, none⟩) (Kd.R_types HO_4.out BK369.out (by decide)) (fun _ hk => hk.2) (.int .i64 ((rd_T54 l0 x12_1).f0))) (fun _ hk => hk.2) (.int .i64 ((rd_T54 l0 x12_1).f1))) (fun _ hk => hk.2) (.int .i64 ((rd_T54 l0 x12_1).f2))) (fun _ hk => hk.2) (.int .i64 ((rd_T54 l0 x12_1).f3))) (fun _ hk => hk.2) (.int .i64 ((rd_T54 l0 x12_1).f4))) (fun _ hk => hk.2) (.string ((rd_T54 l0 x12_1).f5))) (fun _ hk => hk.2) (.string ((rd_T54 l0 x12_1).f6))) (fun _ h_ => h_.1))) gb370 (Nat.le_of_eq hg.symm)) hb); have n2_ := Aside0.mk (blk_below (g := gb369) (o := .cells #[.int .i64 ((rd_T54 l0 x12_1).f0), .int .i64 ((rd_T54 l0 x12_1).f1), .int .i64 ((rd_T54 l0 x12_1).f2), .int .i64 ((rd_T54 l0 x12_1).f3), .int .i64 ((rd_T54 l0 x12_1).f4), .string ((rd_T54 l0 x12_1).f5), .string ((rd_T54 l0 x12_1).f6)] 54 (0, 0)) (by (with_reducible repeat (first | refine blk_drewN ?_ _ | refine blk_drew ?_ | refine blk_alloc ?_ _)); refine blk_put (cs := #[.int .i64 ((rd_T54 l0 x12_1).f0), .int .i64 ((rd_T54 l0 x12_1).f1), .int .i64 ((rd_T54 l0 x12_1).f2), .int .i64 ((rd_T54 l0 x12_1).f3), .int .i64 ((rd_T54 l0 x12_1).f4), .string ((rd_T54 l0 x12_1).f5), .string (⟨#[]⟩ : ByteArray)]) ?_ 6 _ rfl; (with_reducible repeat (first | refine blk_drewN ?_ _ | refine blk_drew ?_ | refine blk_alloc ?_ _)); refine blk_put (cs := #[.int .i64 ((rd_T54 l0 x12_1).f0), .int .i64 ((rd_T54 l0 x12_1).f1), .int .i64 ((rd_T54 l0 x12_1).f2), .int .i64 ((rd_T54 l0 x12_1).f3), .int .i64 ((rd_T54 l0 x12_1).f4), .string (⟨#[]⟩ : ByteArray), .string (⟨#[]⟩ : ByteArray)]) ?_ 5 _ rfl; (with_reducible repeat (first | refine blk_drewN ?_ _ | refine blk_drew ?_ | refine blk_alloc ?_ _)); refine blk_put (cs := #[.int .i64 ((rd_T54 l0 x12_1).f0), .int .i64 ((rd_T54 l0 x12_1).f1), .int .i64 ((rd_T54 l0 x12_1).f2), .int .i64 ((rd_T54 l0 x12_1).f3), .int .i64 0, .string (⟨#[]⟩ : ByteArray), .string (⟨#[]⟩ : ByteArray)]) ?_ 4 _ rfl; (with_reducible repeat (first | refine blk_drewN ?_ _ | refine blk_drew ?_ | refine blk_alloc ?_ _)); refine blk_put (cs := #[.int .i64 ((rd_T54 l0 x12_1).f0), .int .i64 ((rd_T54 l0 x12_1).f1), .int .i64 ((rd_T54 l0 x12_1).f2), .int .i64 0, .int .i64 0, .string (⟨#[]⟩ : ByteArray), .string (⟨#[]⟩ : ByteArray)]) ?_ 3 _ rfl; (with_reducible repeat (first | refine blk_drewN ?_ _ | refine blk_drew ?_ | refine blk_alloc ?_ _)); refine blk_put (cs := #[.int .i64 ((rd_T54 l0 x12_1).f0), .int .i64 ((rd_T54 l0 x12_1).f1), .int .i64 0, .int .i64 0, .int .i64 0, .string (⟨#[]⟩ : ByteArray), .string (⟨#[]⟩ : ByteArray)]) ?_ 2 _ rfl; (with_reducible repeat (first | refine blk_drewN ?_ _ | refine blk_drew ?_ | refine blk_alloc ?_ _)); refine blk_put (cs := #[.int .i64 ((rd_T54 l0 x12_1).f0), .int .i64 0, .int .i64 0, .int .i64 0, .int .i64 0, .string (⟨#[]⟩ : ByteArray), .string (⟨#[]⟩ : ByteArray)]) ?_ 1 _ rfl; (with_reducible repeat (first | refine blk_drewN ?_ _ | refine blk_drew ?_ | refine blk_alloc ?_ _)); refine blk_put (cs := #[.int .i64 0, .int .i64 0, .int .i64 0, .int .i64 0, .int .i64 0, .string (⟨#[]⟩ : ByteArray), .string (⟨#[]⟩ : ByteArray)]) ?_ 0 _ rfl; (with_reducible repeat (first | refine blk_drewN ?_ _ | refine blk_drew ?_ | refine blk_alloc ?_ _)); exact BK369.out) hb); have n3_ := Aside0.mk (below_step (bz1 HB.out GE369.out) hb); have n4_ := Aside0.mk (hbox); have n5_ := Aside0.mk ((by rw [hg]; exact (below_size (bz1 HB.out GE369.out)) : w.heap.size ≤ gb370)); have n6_ := Aside0.mk ((by rw [hg]; exact (below_size (bz1 HB.out GE369.out)) : w.heap.size ≤ gb370)); have n7_ := Aside0.mk ((by rw [hg]; exact Nat.ne_of_lt (blk_lt (g := gb369) (o := .cells #[.int .i64 ((rd_T54 l0 x12_1).f0), .int .i64 ((rd_T54 l0 x12_1).f1), .int .i64 ((rd_T54 l0 x12_1).f2), .int .i64 ((rd_T54 l0 x12_1).f3), .int .i64 ((rd_T54 l0 x12_1).f4), .string ((rd_T54 l0 x12_1).f5), .string ((rd_T54 l0 x12_1).f6)] 54 (0, 0)) (by (with_reducible repeat (first | refine blk_drewN ?_ _ | refine blk_drew ?_ | refine blk_alloc ?_ _)); refine blk_put (cs := #[.int .i64 ((rd_T54 l0 x12_1).f0), .int .i64 ((rd_T54 l0 x12_1).f1), .int .i64 ((rd_T54 l0 x12_1).f2), .int .i64 ((rd_T54 l0 x12_1).f3), .int .i64 ((rd_T54 l0 x12_1).f4), .string ((rd_T54 l0 x12_1).f5), .string (⟨#[]⟩ : ByteArray)]) ?_ 6 _ rfl; (with_reducible repeat (first | refine blk_drewN ?_ _ | refine blk_drew ?_ | refine blk_alloc ?_ _)); refine blk_put (cs := #[.int .i64 ((rd_T54 l0 x12_1).f0), .int .i64 ((rd_T54 l0 x12_1).f1), .int .i64 ((rd_T54 l0 x12_1).f2), .int .i64 ((rd_T54 l0 x12_1).f3), .int .i64 ((rd_T54 l0 x12_1).f4), .string (⟨#[]⟩ : ByteArray), .string (⟨#[]⟩ : ByteArray)]) ?_ 5 _ rfl; (with_reducible repeat (first | refine blk_drewN ?_ _ | refine blk_drew ?_ | refine blk_alloc ?_ _)); refine blk_put (cs := #[.int .i64 ((rd_T54 l0 x12_1).f0), .int .i64 ((rd_T54 l0 x12_1).f1), .int .i64 ((rd_T54 l0 x12_1).f2), .int .i64 ((rd_T54 l0 x12_1).f3), .int .i64 0, .string (⟨#[]⟩ : ByteArray), .string (⟨#[]⟩ : ByteArray)]) ?_ 4 _ rfl; (with_reducible repeat (first | refine blk_drewN ?_ _ | refine blk_drew ?_ | refine blk_alloc ?_ _)); refine blk_put (cs := #[.int .i64 ((rd_T54 l0 x12_1).f0), .int .i64 ((rd_T54 l0 x12_1).f1), .int .i64 ((rd_T54 l0 x12_1).f2), .int .i64 0, .int .i64 0, .string (⟨#[]⟩ : ByteArray), .string (⟨#[]⟩ : ByteArray)]) ?_ 3 _ rfl; (with_reducible repeat (first | refine blk_drewN ?_ _ | refine blk_drew ?_ | refine blk_alloc ?_ _)); refine blk_put (cs := #[.int .i64 ((rd_T54 l0 x12_1).f0), .int .i64 ((rd_T54 l0 x12_1).f1), .int .i64 0, .int .i64 0, .int .i64 0, .string (⟨#[]⟩ : ByteArray), .string (⟨#[]⟩ : ByteArray)]) ?_ 2 _ rfl; (with_reducible repeat (first | refine blk_drewN ?_ _ | refine blk_drew ?_ | refine blk_alloc ?_ _)); refine blk_put (cs := #[.int .i64 ((rd_T54 l0 x12_1).f0), .int .i64 0, .int .i64 0, .int .i64 0, .int .i64 0, .string (⟨#[]⟩ : ByteArray), .string (⟨#[]⟩ : ByteArray)]) ?_ 1 _ rfl; (with_reducible repeat (first | refine blk_drewN ?_ _ | refine blk_drew ?_ | refine blk_alloc ?_ _)); refine blk_put (cs := #[.int .i64 0, .int .i64 0, .int .i64 0, .int .i64 0, .int .i64 0, .string (⟨#[]⟩ : ByteArray), .string (⟨#[]⟩ : ByteArray)]) ?_ 0 _ rfl; (with_reducible repeat (first | refine blk_drewN ?_ _ | refine blk_drew ?_ | refine blk_alloc ?_ _)); exact BK369.out)) : gb369 ≠ gb370)); have n8_ := Aside0.mk ((by rw [hg]; exact Nat.ne_of_gt (blk_lt (g := gb369) (o := .cells #[.int .i64 ((rd_T54 l0 x12_1).f0), .int .i64 ((rd_T54 l0 x12_1).f1), .int .i64 ((rd_T54 l0 x12_1).f2), .int .i64 ((rd_T54 l0 x12_1).f3), .int .i64 ((rd_T54 l0 x12_1).f4), .string ((rd_T54 l0 x12_1).f5), .string ((rd_T54 l0 x12_1).f6)] 54 (0, 0)) (by (with_reducible repeat (first | refine blk_drewN ?_ _ | refine blk_drew ?_ | refine blk_alloc ?_ _)); refine blk_put (cs := #[.int .i64 ((rd_T54 l0 x12_1).f0), .int .i64 ((rd_T54 l0 x12_1).f1), .int .i64 ((rd_T54 l0 x12_1).f2), .int .i64 ((rd_T54 l0 x12_1).f3), .int .i64 ((rd_T54 l0 x12_1).f4), .string ((rd_T54 l0 x12_1).f5), .string (⟨#[]⟩ : ByteArray)]) ?_ 6 _ rfl; (with_reducible repeat (first | refine blk_drewN ?_ _ | refine blk_drew ?_ | refine blk_alloc ?_ _)); refine blk_put (cs := #[.int .i64 ((rd_T54 l0 x12_1).f0), .int .i64 ((rd_T54 l0 x12_1).f1), .int .i64 ((rd_T54 l0 x12_1).f2), .int .i64 ((rd_T54 l0 x12_1).f3), .int .i64 ((rd_T54 l0 x12_1).f4), .string (⟨#[]⟩ : ByteArray), .string (⟨#[]⟩ : ByteArray)]) ?_ 5 _ rfl; (with_reducible repeat (first | refine blk_drewN ?_ _ | refine blk_drew ?_ | refine blk_alloc ?_ _)); refine blk_put (cs := #[.int .i64 ((rd_T54 l0 x12_1).f0), .int .i64 ((rd_T54 l0 x12_1).f1), .int .i64 ((rd_T54 l0 x12_1).f2), .int .i64 ((rd_T54 l0 x12_1).f3), .int .i64 0, .string (⟨#[]⟩ : ByteArray), .string (⟨#[]⟩ : ByteArray)]) ?_ 4 _ rfl; (with_reducible repeat (first | refine blk_drewN ?_ _ | refine blk_drew ?_ | refine blk_alloc ?_ _)); refine blk_put (cs := #[.int .i64 ((rd_T54 l0 x12_1).f0), .int .i64 ((rd_T54 l0 x12_1).f1), .int .i64 ((rd_T54 l0 x12_1).f2), .int .i64 0, .int .i64 0, .string (⟨#[]⟩ : ByteArray), .string (⟨#[]⟩ : ByteArray)]) ?_ 3 _ rfl; (with_reducible repeat (first | refine blk_drewN ?_ _ | refine blk_drew ?_ | refine blk_alloc ?_ _)); refine blk_put (cs := #[.int .i64 ((rd_T54 l0 x12_1).f0), .int .i64 ((rd_T54 l0 x12_1).f1), .int .i64 0, .int .i64 0, .int .i64 0, .string (⟨#[]⟩ : ByteArray), .string (⟨#[]⟩ : ByteArray)]) ?_ 2 _ rfl; (with_reducible repeat (first | refine blk_drewN ?_ _ | refine blk_drew ?_ | refine blk_alloc ?_ _)); refine blk_put (cs := #[.int .i64 ((rd_T54 l0 x12_1).f0), .int .i64 0, .int .i64 0, .int .i64 0, .int .i64 0, .string (⟨#[]⟩ : ByteArray), .string (⟨#[]⟩ : ByteArray)]) ?_ 1 _ rfl; (with_reducible repeat (first | refine blk_drewN ?_ _ | refine blk_drew ?_ | refine blk_alloc ?_ _)); refine blk_put (cs := #[.int .i64 0, .int .i64 0, .int .i64 0, .int .i64 0, .int .i64 0, .string (⟨#[]⟩ : ByteArray), .string (⟨#[]⟩ : ByteArray)]) ?_ 0 _ rfl; (with_reducible repeat (first | refine blk_drewN ?_ _ | refine blk_drew ?_ | refine blk_alloc ?_ _)); exact BK369.out)) : gb370 ≠ gb369)); clear HO_3; clear HO_4; clear BK369; clear HB; have HO_3 := n0_; have HO_4 := n1_; have BK369 := n2_; have HB := n3_; have BK370 := n4_; have GW370 := n5_; have GE370 := n6_; have NB369_370 := n7_; have NB370_369 := n8_; clear n0_ n1_ n2_ n3_ n4_ n5_ n6_ n7_ n8_; clear hb hbox hg; have hnb24 := NB370_369.out; have hnc24 := NB369_370.out; have hcz25_0 : w23.cell? ⟨gb370, 0, none⟩ = some (.int .i64 0) := (blk_cell BK370.out 0).trans rfl; have hcz25_1 : w23.cell? ⟨gb370, 1, none⟩ = some (.int .i64 0) := (blk_cell BK370.out 1).trans rfl; have hfz25_0 := blk_frozen BK370.out 0; have hfz25_1 := blk_frozen BK370.out 1; have hcz26_0 : w23.cell? ⟨gb369, 0, none⟩ = some (.int .i64 ((rd_T54 l0 x12_1).f0)) := (blk_cell BK369.out 0).trans rfl; have hcz26_1 : w23.cell? ⟨gb369, 1, none⟩ = some (.int .i64 ((rd_T54 l0 x12_1).f1)) := (blk_cell BK369.out 1).trans rfl; have hcz26_2 : w23.cell? ⟨gb369, 2, none⟩ = some (.int .i64 ((rd_T54 l0 x12_1).f2)) := (blk_cell BK369.out 2).trans rfl; have hcz26_3 : w23.cell? ⟨gb369, 3, none⟩ = some (.int .i64 ((rd_T54 l0 x12_1).f3)) := (blk_cell BK369.out 3).trans rfl; have hcz26_4 : w23.cell? ⟨gb369, 4, none⟩ = some (.int .i64 ((rd_T54 l0 x12_1).f4)) := (blk_cell BK369.out 4).trans rfl; have hcz26_5 : w23.cell? ⟨gb369, 5, none⟩ = some (.string ((rd_T54 l0 x12_1).f5)) := (blk_cell BK369.out 5).trans rfl; have hcz26_6 : w23.cell? ⟨gb369, 6, none⟩ = some (.string ((rd_T54 l0 x12_1).f6)) := (blk_cell BK369.out 6).trans rfl; have hfz26_0 := blk_frozen BK369.out 0; have hfz26_1 := blk_frozen BK369.out 1; have hfz26_2 := blk_frozen BK369.out 2; have hfz26_3 := blk_frozen BK369.out 3; have hfz26_4 := blk_frozen BK369.out 4; have hfz26_5 := blk_frozen BK369.out 5; have hfz26_6 := blk_frozen BK369.out 6) | ((with_reducible refine gate_builtin (b := .append) (xs := #[.tmp 27, .tmp 29]) rfl ?_); at_builtin; refine Kd.R_append k37 (w0 := w) w.heap.size rfl (.tmp 27) (.tmp 29) 32 37 (.agg #[(.int .i64 0), (.int .i64 0)]) 16 rfl Tryd.underlying32 info37 rfl (by decide) (by omega) u4 x4_1 (⟨(-1), (-1)⟩ : S37) [.int .i64 (-1), .int .i64 (-1)] (fun k_ => k_ ≠ gb370) (fun _ => False) rfl (by first | (go_simp; done) | (go_simp; rfl)) ?aP (fun _ hk => hk.elim) ?aF ?aO ?aB ?aS ?aL ?_; (case aP => exact k37_mkM _ _ _ (⟨(-1), (-1)⟩ : S37)); (case aB => exact (bz2 HB.out GE369.out GE370.out)); (case aF => exact (fun k_ hk => Kd.freshB (g := gb370) (o := .cells #[.int .i64 (-1), .int .i64 (-1)] 37 (0, 0)) (by (with_reducible repeat (first | refine blk_drewN ?_ _ | refine blk_drew ?_ | refine blk_alloc ?_ _)); refine blk_put (cs := #[.int .i64 (-1), .int .i64 0]) ?_ 1 _ rfl; (with_reducible repeat (first | refine blk_drewN ?_ _ | refine blk_drew ?_ | refine blk_alloc ?_ _)); refine blk_put (cs := #[.int .i64 0, .int .i64 0]) ?_ 0 _ rfl; (with_reducible repeat (first | refine blk_drewN ?_ _ | refine blk_drew ?_ | refine blk_alloc ?_ _)); exact BK370.out) k_ hk)); (case aO => exact (by (with_reducible repeat (first | apply Kd.R_alloc | apply Kd.R_drewN | apply Kd.R_drew)); first | (with_reducible exact Kd.R_mono (Kd.R_far (p := ⟨gb370, 1, none⟩) (Kd.R_far (p := ⟨gb370, 0, none⟩) (Kd.R_mono HO_4.out (fun k_ hk => (⟨hk, hk.2⟩ : _ ∧ k_ ≠ gb370))) (fun _ hk => hk.2) (.int .i64 (-1))) (fun _ hk => hk.2) (.int .i64 (-1))) (fun _ hk => hk.1.2)) | (with_reducible exact Kd.R_mono (Kd.R_far (p := ⟨gb370, 1, none⟩) (Kd.R_drewN (Kd.R_far (p := ⟨gb370, 0, none⟩) (Kd.R_mono HO_4.out (fun k_ hk => (⟨hk, hk.2⟩ : _ ∧ k_ ≠ gb370))) (fun _ hk => hk.2) (.int .i64 (-1))) _) (fun _ hk => hk.2) (.int .i64 (-1))) (fun _ hk => hk.1.2)) | exact Kd.R_mono (Kd.R_far (p := ⟨gb370, 1, none⟩) (Kd.R_drewN (Kd.R_far (p := ⟨gb370, 0, none⟩) (Kd.R_mono HO_4.out (fun k_ hk => (⟨hk, hk.2⟩ : _ ∧ k_ ≠ gb370))) (fun _ hk => hk.2) (.int .i64 (-1))) _) (fun _ hk => hk.2) (.int .i64 (-1))) (fun _ hk => hk.1.2))); (case aS => exact (below_size (bz2 HB.out GE369.out GE370.out))); (case aL => have := LMc20.out; omega); intro v377 w27 ho hb hg hat; rw [← Ny376.out] at ho; have n0_ := Aside0.mk (Kd.R_over' (by (with_reducible repeat (first | apply Kd.R_alloc | apply Kd.R_drewN | apply Kd.R_drew)); exact (Kd.R_mono (Kd.R_far (p := ⟨gb370, 1, none⟩) (Kd.R_far (p := ⟨gb370, 0, none⟩) (Kd.R_types HO_3.out BK370.out (by decide)) (fun _ hk => hk.2) (.int .i64 (-1))) (fun _ hk => hk.2) (.int .i64 (-1))) (fun _ h_ => h_.1))) (Kd.R_typed (by (with_reducible repeat (first | apply Kd.R_alloc | apply Kd.R_drewN | apply Kd.R_drew)); exact (Kd.R_mono (Kd.R_far (p := ⟨gb370, 1, none⟩) (Kd.R_far (p := ⟨gb370, 0, none⟩) (Kd.R_mono HO_4.out (fun k_ hk => (⟨hk, hk.2⟩ : _ ∧ k_ ≠ gb370))) (fun _ hk => hk.2) (.int .i64 (-1))) (fun _ hk => hk.2) (.int .i64 (-1))) (fun _ h_ => h_.1)))) (by decide) hg); have n1_ := Aside0.mk (blk_grown (g := gb369) (o := .cells #[.int .i64 ((rd_T54 l0 x12_1).f0), .int .i64 ((rd_T54 l0 x12_1).f1), .int .i64 ((rd_T54 l0 x12_1).f2), .int .i64 ((rd_T54 l0 x12_1).f3), .int .i64 ((rd_T54 l0 x12_1).f4), .string ((rd_T54 l0 x12_1).f5), .string ((rd_T54 l0 x12_1).f6)] 54 (0, 0)) (by (with_reducible repeat (first | refine blk_drewN ?_ _ | refine blk_drew ?_ | refine blk_alloc ?_ _)); refine blk_far ?_ NB369_370.out _; (with_reducible repeat (first | refine blk_drewN ?_ _ | refine blk_drew ?_ | refine blk_alloc ?_ _)); refine blk_far ?_ NB369_370.out _; (with_reducible repeat (first | refine blk_drewN ?_ _ | refine blk_drew ?_ | refine blk_alloc ?_ _)); exact BK369.out) hg (Kd.R_ne HO_4.out BK369.out (by decide))); have n2_ := Aside0.mk (blk_grown (g := gb370) (o := .cells #[.int .i64 (-1), .int .i64 (-1)] 37 (0, 0)) (by (with_reducible repeat (first | refine blk_drewN ?_ _ | refine blk_drew ?_ | refine blk_alloc ?_ _)); refine blk_put (cs := #[.int .i64 (-1), .int .i64 0]) ?_ 1 _ rfl; (with_reducible repeat (first | refine blk_drewN ?_ _ | refine blk_drew ?_ | refine blk_alloc ?_ _)); refine blk_put (cs := #[.int .i64 0, .int .i64 0]) ?_ 0 _ rfl; (with_reducible repeat (first | refine blk_drewN ?_ _ | refine blk_drew ?_ | refine blk_alloc ?_ _)); exact BK370.out) hg (Kd.R_away HO_4.out (fun _ hk => hk.2))); have n3_ := Aside0.mk (hb); have n4_ := Aside0.mk (ho); clear HO_3; clear BK369; clear BK370; clear HB; clear HO_4; have HO_3 := n0_; have BK369 := n1_; have BK370 := n2_; have HB := n3_; have HO378 := n4_; clear n0_ n1_ n2_ n3_ n4_; clear ho hb hg hat))
        go_roundg k1
        case measure => have := HK1.out; omega
        case rel => exact ⟨(y376), (wrap64 (x12_1 + 1)), ez, H', ⟨by have := HK1.out; omega⟩, ⟨by (with_reducible repeat (first | apply Kd.R_alloc | apply Kd.R_drewN | apply Kd.R_drew)); exact HO_3.out⟩, ⟨by (with_reducible repeat (first | apply Kd.R_alloc | apply Kd.R_drewN | apply Kd.R_drew)); exact Kd.R_mono HO378.out (fun _ hk => trivial)⟩, ⟨(bz2 HB.out GE369.out GE370.out)⟩⟩
       ·rw [if_neg c20] at H
        exact absurd H (by simp)
     ·rw [if_neg c6] at H
      exact absurd H (by simp)
    ·rw [if_neg c5] at H
     exact absurd H (by simp)
   ·rw [if_neg c4] at H
    have c4b0 : decide (x12_1 < (l0.length : Int)) = false := decide_eq_false c4
    clear c4
    obtain rfl := Option.some.inj H
    go_wp2
    go_ret
    exact ⟨_, gz, by (with_reducible repeat (first | apply Kd.R_alloc | apply Kd.R_drewN | apply Kd.R_drew)); exact HO_4.out, (bz0 HB.out)⟩
def impl_BinderOf.f (k : Nat) (l0 : List (S54)) (a1 : Int) : Option (Int × Int) := (impl_NodesOk.f k l0).bind fun t380 => (if t380 = true then ((impl_in.f a1 0 (wrap64 ((l0.length : Int) - 1))).bind fun t381 => (if t381 = true then ((impl_binders.f k l0).bind fun t382 => (if 0 ≤ a1 then (if a1 < (t382.length : Int) then (some ((rd_T37 t382 a1).f0, (rd_T37 t382 a1).f1)) else (none)) else (none))) else (some ((-1), (-1))))) else (some ((-1), (-1))))
theorem impl_BinderOf.mono : ∀ a0 a1 k, LeO (impl_BinderOf.f k a0 a1) (impl_BinderOf.f (k + 1) a0 a1) := by
 intro a0 a1 k
 unfold impl_BinderOf.f
 repeat' first
   | (with_reducible exact impl_NodesOk.mono _ _)
   | (with_reducible exact impl_binders.mono _ _)
   | (with_reducible exact LeO.refl _)
   | (with_reducible exact LeO.none _)
   | (with_reducible refine LeO.ite ?_ ?_)
   | (with_reducible refine LeO.bind ?_ (fun _ => ?_))
   | exact impl_NodesOk.mono _ _
   | exact impl_binders.mono _ _
   | exact LeO.none _
   | refine LeO.ite ?_ ?_
   | refine LeO.bind ?_ (fun _ => ?_)
set_option maxHeartbeats 8000000 in
set_option maxRecDepth 100000 in
theorem impl_BinderOf.calls (k : Nat) (A0 : Option Addr) (c0 : Nat) (l0 : List (S54)) (a1 : Int) (r1 : Int) (r2 : Int) (w : World) (hr0 : Kd.C k54 w A0 l0.length l0) (hc0 : l0.length ≤ c0) (h : impl_BinderOf.f k l0 a1 = some (r1, r2)) :
  Calls Tryd.prog 29 #[.slice A0 l0.length c0, .int .i64 a1] w fun e w' => e = .returned (.agg #[.int .i64 r1, .int .i64 r2]) ∧ Below w.heap.size w w' := by
 have hu37 := Tryd.underlying37
 have HR0 := Aside0.mk hr0
 have HC0 := Aside0.mk hc0
 clear hr0 hc0
 have HB := Aside0.mk (Below.refl w.heap.size w)
 have H : ((impl_NodesOk.f k l0).bind fun t380 => (if t380 = true then ((impl_in.f a1 0 (wrap64 ((l0.length : Int) - 1))).bind fun t381 => (if t381 = true then ((impl_binders.f k l0).bind fun t382 => (if 0 ≤ a1 then (if a1 < (t382.length : Int) then (some ((rd_T37 t382 a1).f0, (rd_T37 t382 a1).f1)) else (none)) else (none))) else (some ((-1), (-1))))) else (some ((-1), (-1))))) = some (r1, r2) := h
 clear h
 replace H := Option.bind_eq_some_iff.mp H
 obtain ⟨t380, A30, H⟩ := H
 replace H : (if t380 = true then ((impl_in.f a1 0 (wrap64 ((l0.length : Int) - 1))).bind fun t381 => (if t381 = true then ((impl_binders.f k l0).bind fun t382 => (if 0 ≤ a1 then (if a1 < (t382.length : Int) then (some ((rd_T37 t382 a1).f0, (rd_T37 t382 a1).f1)) else (none)) else (none))) else (some ((-1), (-1))))) else (some ((-1), (-1)))) = some (r1, r2) := H
 have A3 := Aside0.mk A30
 clear A30
 by_cases c4 : t380 = true
 ·subst c4
  have H1 : ((impl_in.f a1 0 (wrap64 ((l0.length : Int) - 1))).bind fun t381 => (if t381 = true then ((impl_binders.f k l0).bind fun t382 => (if 0 ≤ a1 then (if a1 < (t382.length : Int) then (some ((rd_T37 t382 a1).f0, (rd_T37 t382 a1).f1)) else (none)) else (none))) else (some ((-1), (-1))))) = some (r1, r2) := by rw [if_pos rfl] at H; exact H
  clear H
  have H := H1
  clear H1
  replace H := Option.bind_eq_some_iff.mp H
  obtain ⟨t381, A50, H⟩ := H
  replace H : (if t381 = true then ((impl_binders.f k l0).bind fun t382 => (if 0 ≤ a1 then (if a1 < (t382.length : Int) then (some ((rd_T37 t382 a1).f0, (rd_T37 t382 a1).f1)) else (none)) else (none))) else (some ((-1), (-1)))) = some (r1, r2) := H
  have A5 := Aside0.mk A50
  clear A50
  by_cases c6 : t381 = true
  ·subst c6
   have H1 : ((impl_binders.f k l0).bind fun t382 => (if 0 ≤ a1 then (if a1 < (t382.length : Int) then (some ((rd_T37 t382 a1).f0, (rd_T37 t382 a1).f1)) else (none)) else (none))) = some (r1, r2) := by rw [if_pos rfl] at H; exact H
   clear H
   have H := H1
   clear H1
   replace H := Option.bind_eq_some_iff.mp H
   obtain ⟨t382, A70, H⟩ := H
   replace H : (if 0 ≤ a1 then (if a1 < (t382.length : Int) then (some ((rd_T37 t382 a1).f0, (rd_T37 t382 a1).f1)) else (none)) else (none)) = some (r1, r2) := H
   have A7 := Aside0.mk A70
   clear A70
   by_cases c8 : 0 ≤ a1
   ·rw [if_pos c8] at H
    have c8b0 : decide (0 ≤ a1) = true := decide_eq_true c8
    clear c8
    by_cases c9 : a1 < (t382.length : Int)
    ·rw [if_pos c9] at H
     have c9b0 : decide (a1 < (t382.length : Int)) = true := decide_eq_true c9
     clear c9
     simp only [Option.some.injEq, Prod.mk.injEq] at H
     obtain ⟨rfl, rfl⟩ := H
     go_enter Tryd.func29, Tryd.ntmps29
     go_wp2_with (first | ((with_reducible refine gate_dst (N := 4) rfl ?_); (try (refine gate_guard (by rfl) ?_; dsimp only)); refine box_event ?hg (N := 4) ?hd (cs := #[.int .i64 0, .int .i64 0]) (t := 37) ?hr ?_; (case hd => rfl); (case hg => rfl); (case hr => first | (go_simp; done) | (go_simp; rfl)); intro gb379 hg w10 hbox hb; have n0_ := Aside0.mk (below_step (bz0 HB.out) hb); have n1_ := Aside0.mk (hbox); have n2_ := Aside0.mk ((by rw [hg]; exact (below_size (bz0 HB.out)) : w.heap.size ≤ gb379)); have n3_ := Aside0.mk ((by rw [hg]; exact (below_size (bz0 HB.out)) : w.heap.size ≤ gb379)); clear HB; have HB := n0_; have BK379 := n1_; have GW379 := n2_; have GE379 := n3_; clear n0_ n1_ n2_ n3_; clear hb hbox hg) | ((with_reducible refine gate_callee (f := 14) rfl ?_); refine goesL_ (some 6) rfl rfl Tryd.func14 (by kernel_rfl) rfl #[.slice A0 l0.length c0] rfl lz ?_; (with_reducible refine (impl_NodesOk.calls k _ _ l0 true _ ?side1 ?side2 A3.out).mono ?_); (case side1 => exact cz (Kd.C_below HR0.out HB.out)); (case side2 => exact HC0.out); rintro e w11 ⟨rfl, hb⟩; refine ⟨_, rfl, ?_⟩; have n0_ := Aside0.mk (blk_below (g := gb379) (o := .cells #[.int .i64 0, .int .i64 0] 37 (0, 0)) (kz BK379.out) hb); have n1_ := Aside0.mk (below_step (bz1 HB.out GE379.out) hb); clear BK379; clear HB; have BK379 := n0_; have HB := n1_; clear n0_ n1_; (try clear hb); (try clear hb2); (try clear hk); (try clear hi)) | (go_at_call 44; (with_reducible refine (impl_in.calls a1 0 (wrap64 ((l0.length : Int) - 1)) true _ A5.out).mono ?_); rintro e w' ⟨rfl, ⟨nd, rfl⟩⟩; (try (rw [drewN_self w11]; generalize hq_ : World.drewN w11 _ = w11; have n0_ : Aside0 (w11.heap[gb379]? = some (.cells #[.int .i64 0, .int .i64 0] 37 (0, 0))) := ⟨by rw [← hq_]; exact (kz BK379.out)⟩; have n1_ : Aside0 (Below w.heap.size w w11) := ⟨by rw [← hq_]; exact (bz1 HB.out GE379.out)⟩; clear BK379 HB hq_; have BK379 := n0_; have HB := n1_; clear n0_ n1_))) | ((with_reducible refine gate_callee (f := 57) rfl ?_); refine goesL_ (some 18) rfl rfl Tryd.func57 (by kernel_rfl) rfl #[.slice A0 l0.length c0] rfl lz ?_; (with_reducible refine (impl_binders.calls k _ _ l0 t382 _ ?side1 ?side2 A7.out).mono ?_); (case side1 => exact cz (Kd.C_below HR0.out HB.out)); (case side2 => exact HC0.out); rintro e w12 ⟨v383, rfl, ho0, hb⟩; refine ⟨_, rfl, ?_⟩; have n0_ := Aside0.mk (Kd.R_lower (Kd.R_newB ho0 (g := gb379) (o := .cells #[.int .i64 0, .int .i64 0] 37 (0, 0)) (kz BK379.out)) (below_size (bz1 HB.out GE379.out))); have n1_ := Aside0.mk (blk_below (g := gb379) (o := .cells #[.int .i64 0, .int .i64 0] 37 (0, 0)) (kz BK379.out) hb); have n2_ := Aside0.mk (below_step (bz1 HB.out GE379.out) hb); clear BK379; clear HB; have HO384 := n0_; have BK379 := n1_; have HB := n2_; clear n0_ n1_ n2_; (try clear hb); (try clear hb2); (try clear hk); (try clear hi); (try clear ho0); obtain ⟨Ao13, co13, eo13⟩ := Kd.R_slice HO384.out; subst eo13; have p385 : 0 ≤ (a1 : Int) := of_decide_eq_true az; have q385 : a1 < (t382.length : Int) := of_decide_eq_true az; obtain ⟨ad385, e385, hx385_0, hx385_1⟩ := at_T37 (Kd.R_reads' HO384.out).2.2 a1 p385 q385; cases e385; replace p385 := eq_true p385; replace q385 := eq_true q385; have hcz14_0 : w12.cell? ⟨gb379, 0, none⟩ = some (.int .i64 0) := (blk_cell BK379.out 0).trans rfl; have hcz14_1 : w12.cell? ⟨gb379, 1, none⟩ = some (.int .i64 0) := (blk_cell BK379.out 1).trans rfl; have hfz14_0 := blk_frozen BK379.out 0; have hfz14_1 := blk_frozen BK379.out 1))
     refine bodyPost_ret (results_cell_row rfl _ _ gb379 37 #[.int .i64 ((rd_T37 t382 a1).f0), .int .i64 ((rd_T37 t382 a1).f1)] (0, 0) _ rfl (by (with_reducible repeat (first | refine blk_drewN ?_ _ | refine blk_drew ?_ | refine blk_alloc ?_ _)); refine blk_put (cs := #[.int .i64 ((rd_T37 t382 a1).f0), .int .i64 0]) ?_ 1 _ rfl; (with_reducible repeat (first | refine blk_drewN ?_ _ | refine blk_drew ?_ | refine blk_alloc ?_ _)); refine blk_put (cs := #[.int .i64 0, .int .i64 0]) ?_ 0 _ rfl; (with_reducible repeat (first | refine blk_drewN ?_ _ | refine blk_drew ?_ | refine blk_alloc ?_ _)); exact BK379.out) Tryd.underlying37 rfl (by kernel_rfl)) rfl ?_
     exact ⟨gz, (bz1 HB.out GE379.out)⟩
    ·rw [if_neg c9] at H
     exact absurd H (by simp)
   ·rw [if_neg c8] at H
    exact absurd H (by simp)
  ·replace c6 := Bool.eq_false_iff.mpr c6
   subst c6
   have H1 : (some ((-1), (-1))) = some (r1, r2) := by rw [if_neg (show ¬ (false = true) by decide)] at H; exact H
   clear H
   have H := H1
   clear H1
   simp only [Option.some.injEq, Prod.mk.injEq] at H
   obtain ⟨rfl, rfl⟩ := H
   go_enter Tryd.func29, Tryd.ntmps29
   go_wp2_with (first | ((with_reducible refine gate_dst (N := 4) rfl ?_); (try (refine gate_guard (by rfl) ?_; dsimp only)); refine box_event ?hg (N := 4) ?hd (cs := #[.int .i64 0, .int .i64 0]) (t := 37) ?hr ?_; (case hd => rfl); (case hg => rfl); (case hr => first | (go_simp; done) | (go_simp; rfl)); intro gb379 hg w15 hbox hb; have n0_ := Aside0.mk (below_step (bz0 HB.out) hb); have n1_ := Aside0.mk (hbox); have n2_ := Aside0.mk ((by rw [hg]; exact (below_size (bz0 HB.out)) : w.heap.size ≤ gb379)); have n3_ := Aside0.mk ((by rw [hg]; exact (below_size (bz0 HB.out)) : w.heap.size ≤ gb379)); clear HB; have HB := n0_; have BK379 := n1_; have GW379 := n2_; have GE379 := n3_; clear n0_ n1_ n2_ n3_; clear hb hbox hg) | ((with_reducible refine gate_callee (f := 14) rfl ?_); refine goesL_ (some 6) rfl rfl Tryd.func14 (by kernel_rfl) rfl #[.slice A0 l0.length c0] rfl lz ?_; (with_reducible refine (impl_NodesOk.calls k _ _ l0 true _ ?side1 ?side2 A3.out).mono ?_); (case side1 => exact cz (Kd.C_below HR0.out HB.out)); (case side2 => exact HC0.out); rintro e w16 ⟨rfl, hb⟩; refine ⟨_, rfl, ?_⟩; have n0_ := Aside0.mk (blk_below (g := gb379) (o := .cells #[.int .i64 0, .int .i64 0] 37 (0, 0)) (kz BK379.out) hb); have n1_ := Aside0.mk (below_step (bz1 HB.out GE379.out) hb); clear BK379; clear HB; have BK379 := n0_; have HB := n1_; clear n0_ n1_; (try clear hb); (try clear hb2); (try clear hk); (try clear hi)) | (go_at_call 44; (with_reducible refine (impl_in.calls a1 0 (wrap64 ((l0.length : Int) - 1)) false _ A5.out).mono ?_); rintro e w' ⟨rfl, ⟨nd, rfl⟩⟩; (try (rw [drewN_self w16]; generalize hq_ : World.drewN w16 _ = w16; have n0_ : Aside0 (w16.heap[gb379]? = some (.cells #[.int .i64 0, .int .i64 0] 37 (0, 0))) := ⟨by rw [← hq_]; exact (kz BK379.out)⟩; have n1_ : Aside0 (Below w.heap.size w w16) := ⟨by rw [← hq_]; exact (bz1 HB.out GE379.out)⟩; clear BK379 HB hq_; have BK379 := n0_; have HB := n1_; clear n0_ n1_)); have hcz17_0 : w16.cell? ⟨gb379, 0, none⟩ = some (.int .i64 0) := (blk_cell BK379.out 0).trans rfl; have hcz17_1 : w16.cell? ⟨gb379, 1, none⟩ = some (.int .i64 0) := (blk_cell BK379.out 1).trans rfl; have hfz17_0 := blk_frozen BK379.out 0; have hfz17_1 := blk_frozen BK379.out 1))
   refine bodyPost_ret (results_cell_row rfl _ _ gb379 37 #[.int .i64 (-1), .int .i64 (-1)] (0, 0) _ rfl (by (with_reducible repeat (first | refine blk_drewN ?_ _ | refine blk_drew ?_ | refine blk_alloc ?_ _)); refine blk_put (cs := #[.int .i64 (-1), .int .i64 0]) ?_ 1 _ rfl; (with_reducible repeat (first | refine blk_drewN ?_ _ | refine blk_drew ?_ | refine blk_alloc ?_ _)); refine blk_put (cs := #[.int .i64 0, .int .i64 0]) ?_ 0 _ rfl; (with_reducible repeat (first | refine blk_drewN ?_ _ | refine blk_drew ?_ | refine blk_alloc ?_ _)); exact BK379.out) Tryd.underlying37 rfl (by kernel_rfl)) rfl ?_
   exact ⟨gz, (bz1 HB.out GE379.out)⟩
 ·replace c4 := Bool.eq_false_iff.mpr c4
  subst c4
  have H1 : (some ((-1), (-1))) = some (r1, r2) := by rw [if_neg (show ¬ (false = true) by decide)] at H; exact H
  clear H
  have H := H1
  clear H1
  simp only [Option.some.injEq, Prod.mk.injEq] at H
  obtain ⟨rfl, rfl⟩ := H
  go_enter Tryd.func29, Tryd.ntmps29
  go_wp2_with (first | ((with_reducible refine gate_dst (N := 4) rfl ?_); (try (refine gate_guard (by rfl) ?_; dsimp only)); refine box_event ?hg (N := 4) ?hd (cs := #[.int .i64 0, .int .i64 0]) (t := 37) ?hr ?_; (case hd => rfl); (case hg => rfl); (case hr => first | (go_simp; done) | (go_simp; rfl)); intro gb379 hg w18 hbox hb; have n0_ := Aside0.mk (below_step (bz0 HB.out) hb); have n1_ := Aside0.mk (hbox); have n2_ := Aside0.mk ((by rw [hg]; exact (below_size (bz0 HB.out)) : w.heap.size ≤ gb379)); have n3_ := Aside0.mk ((by rw [hg]; exact (below_size (bz0 HB.out)) : w.heap.size ≤ gb379)); clear HB; have HB := n0_; have BK379 := n1_; have GW379 := n2_; have GE379 := n3_; clear n0_ n1_ n2_ n3_; clear hb hbox hg) | ((with_reducible refine gate_callee (f := 14) rfl ?_); refine goesL_ (some 6) rfl rfl Tryd.func14 (by kernel_rfl) rfl #[.slice A0 l0.length c0] rfl lz ?_; (with_reducible refine (impl_NodesOk.calls k _ _ l0 false _ ?side1 ?side2 A3.out).mono ?_); (case side1 => exact cz (Kd.C_below HR0.out HB.out)); (case side2 => exact HC0.out); rintro e w19 ⟨rfl, hb⟩; refine ⟨_, rfl, ?_⟩; have n0_ := Aside0.mk (blk_below (g := gb379) (o := .cells #[.int .i64 0, .int .i64 0] 37 (0, 0)) (kz BK379.out) hb); have n1_ := Aside0.mk (below_step (bz1 HB.out GE379.out) hb); clear BK379; clear HB; have BK379 := n0_; have HB := n1_; clear n0_ n1_; (try clear hb); (try clear hb2); (try clear hk); (try clear hi); have hcz20_0 : w19.cell? ⟨gb379, 0, none⟩ = some (.int .i64 0) := (blk_cell BK379.out 0).trans rfl; have hcz20_1 : w19.cell? ⟨gb379, 1, none⟩ = some (.int .i64 0) := (blk_cell BK379.out 1).trans rfl; have hfz20_0 := blk_frozen BK379.out 0; have hfz20_1 := blk_frozen BK379.out 1))
  refine bodyPost_ret (results_cell_row rfl _ _ gb379 37 #[.int .i64 (-1), .int .i64 (-1)] (0, 0) _ rfl (by (with_reducible repeat (first | refine blk_drewN ?_ _ | refine blk_drew ?_ | refine blk_alloc ?_ _)); refine blk_put (cs := #[.int .i64 (-1), .int .i64 0]) ?_ 1 _ rfl; (with_reducible repeat (first | refine blk_drewN ?_ _ | refine blk_drew ?_ | refine blk_alloc ?_ _)); refine blk_put (cs := #[.int .i64 0, .int .i64 0]) ?_ 0 _ rfl; (with_reducible repeat (first | refine blk_drewN ?_ _ | refine blk_drew ?_ | refine blk_alloc ?_ _)); exact BK379.out) Tryd.underlying37 rfl (by kernel_rfl)) rfl ?_
  exact ⟨gz, (bz1 HB.out GE379.out)⟩
def laws_eqBind.f (a0_0 : Int) (a0_1 : Int) (a1_0 : Int) (a1_1 : Int) : Option (Bool) := if a0_0 = a1_0 then (if a0_1 = a1_1 then (some true) else (some false)) else (some false)
set_option maxHeartbeats 8000000 in
set_option maxRecDepth 100000 in
theorem laws_eqBind.calls (a0_0 : Int) (a0_1 : Int) (a1_0 : Int) (a1_1 : Int) (r : Bool) (w : World) (h : laws_eqBind.f a0_0 a0_1 a1_0 a1_1 = some r) :
  Calls Tryd.prog 30 #[.agg #[.int .i64 a0_0, .int .i64 a0_1], .agg #[.int .i64 a1_0, .int .i64 a1_1]] w fun e w' => e = .returned (.bool r) ∧ Below w.heap.size w w' := by
 have hu37 := Tryd.underlying37
 have HB := Aside0.mk (Below.refl w.heap.size w)
 have H : (if a0_0 = a1_0 then (if a0_1 = a1_1 then (some true) else (some false)) else (some false)) = some r := h
 clear h
 by_cases c3 : a0_0 = a1_0
 ·rw [if_pos c3] at H
  have c3b0 : (a0_0 == a1_0) = true := beq_iff_eq.mpr c3
  have c3b1 : (a0_0 != a1_0) = false := bne_eq_false_iff_eq.mpr c3
  clear c3
  by_cases c4 : a0_1 = a1_1
  ·rw [if_pos c4] at H
   have c4b0 : (a0_1 == a1_1) = true := beq_iff_eq.mpr c4
   have c4b1 : (a0_1 != a1_1) = false := bne_eq_false_iff_eq.mpr c4
   clear c4
   obtain rfl := Option.some.inj H
   go_enter Tryd.func30, Tryd.ntmps30
   go_wp2_with (first | ((with_reducible refine gate_dst (N := 2) rfl ?_); refine box_event ?hg (N := 2) ?hd (cs := #[.int .i64 a0_0, .int .i64 a0_1]) (t := 37) ?hr ?_; (case hd => rfl); (case hg => rfl); (case hr => first | (go_simp; done) | (go_simp; rfl)); intro gb386 hg w5 hbox hb; have n0_ := Aside0.mk (below_step (bz0 HB.out) hb); have n1_ := Aside0.mk (hbox); have n2_ := Aside0.mk ((by rw [hg]; exact (below_size (bz0 HB.out)) : w.heap.size ≤ gb386)); have n3_ := Aside0.mk ((by rw [hg]; exact (below_size (bz0 HB.out)) : w.heap.size ≤ gb386)); clear HB; have HB := n0_; have BK386 := n1_; have GW386 := n2_; have GE386 := n3_; clear n0_ n1_ n2_ n3_; clear hb hbox hg) | ((with_reducible refine gate_dst (N := 3) rfl ?_); refine box_event ?hg (N := 3) ?hd (cs := #[.int .i64 a1_0, .int .i64 a1_1]) (t := 37) ?hr ?_; (case hd => rfl); (case hg => rfl); (case hr => first | (go_simp; done) | (go_simp; rfl)); intro gb387 hg w6 hbox hb; have n0_ := Aside0.mk (blk_below (g := gb386) (o := .cells #[.int .i64 a0_0, .int .i64 a0_1] 37 (0, 0)) (kz BK386.out) hb); have n1_ := Aside0.mk (below_step (bz1 HB.out GE386.out) hb); have n2_ := Aside0.mk (hbox); have n3_ := Aside0.mk ((by rw [hg]; exact (below_size (bz1 HB.out GE386.out)) : w.heap.size ≤ gb387)); have n4_ := Aside0.mk ((by rw [hg]; exact (below_size (bz1 HB.out GE386.out)) : w.heap.size ≤ gb387)); have n5_ := Aside0.mk ((by rw [hg]; exact Nat.ne_of_lt (blk_lt (g := gb386) (o := .cells #[.int .i64 a0_0, .int .i64 a0_1] 37 (0, 0)) (kz BK386.out)) : gb386 ≠ gb387)); have n6_ := Aside0.mk ((by rw [hg]; exact Nat.ne_of_gt (blk_lt (g := gb386) (o := .cells #[.int .i64 a0_0, .int .i64 a0_1] 37 (0, 0)) (kz BK386.out)) : gb387 ≠ gb386)); clear BK386; clear HB; have BK386 := n0_; have HB := n1_; have BK387 := n2_; have GW387 := n3_; have GE387 := n4_; have NB386_387 := n5_; have NB387_386 := n6_; clear n0_ n1_ n2_ n3_ n4_ n5_ n6_; clear hb hbox hg; have hnb7 := NB386_387.out; have hnc7 := NB387_386.out; have hcz8_0 : w6.cell? ⟨gb386, 0, none⟩ = some (.int .i64 a0_0) := (blk_cell BK386.out 0).trans rfl; have hcz8_1 : w6.cell? ⟨gb386, 1, none⟩ = some (.int .i64 a0_1) := (blk_cell BK386.out 1).trans rfl; have hfz8_0 := blk_frozen BK386.out 0; have hfz8_1 := blk_frozen BK386.out 1; have hcz9_0 : w6.cell? ⟨gb387, 0, none⟩ = some (.int .i64 a1_0) := (blk_cell BK387.out 0).trans rfl; have hcz9_1 : w6.cell? ⟨gb387, 1, none⟩ = some (.int .i64 a1_1) := (blk_cell BK387.out 1).trans rfl; have hfz9_0 := blk_frozen BK387.out 0; have hfz9_1 := blk_frozen BK387.out 1))
   go_ret
   exact ⟨gz, (bz2 HB.out GE386.out GE387.out)⟩
  ·rw [if_neg c4] at H
   have c4b0 : (a0_1 == a1_1) = false := beq_eq_false_iff_ne.mpr c4
   have c4b1 : (a0_1 != a1_1) = true := bne_iff_ne.mpr c4
   obtain rfl := Option.some.inj H
   go_enter Tryd.func30, Tryd.ntmps30
   go_wp2_with (first | ((with_reducible refine gate_dst (N := 2) rfl ?_); refine box_event ?hg (N := 2) ?hd (cs := #[.int .i64 a0_0, .int .i64 a0_1]) (t := 37) ?hr ?_; (case hd => rfl); (case hg => rfl); (case hr => first | (go_simp; done) | (go_simp; rfl)); intro gb386 hg w10 hbox hb; have n0_ := Aside0.mk (below_step (bz0 HB.out) hb); have n1_ := Aside0.mk (hbox); have n2_ := Aside0.mk ((by rw [hg]; exact (below_size (bz0 HB.out)) : w.heap.size ≤ gb386)); have n3_ := Aside0.mk ((by rw [hg]; exact (below_size (bz0 HB.out)) : w.heap.size ≤ gb386)); clear HB; have HB := n0_; have BK386 := n1_; have GW386 := n2_; have GE386 := n3_; clear n0_ n1_ n2_ n3_; clear hb hbox hg) | ((with_reducible refine gate_dst (N := 3) rfl ?_); refine box_event ?hg (N := 3) ?hd (cs := #[.int .i64 a1_0, .int .i64 a1_1]) (t := 37) ?hr ?_; (case hd => rfl); (case hg => rfl); (case hr => first | (go_simp; done) | (go_simp; rfl)); intro gb387 hg w11 hbox hb; have n0_ := Aside0.mk (blk_below (g := gb386) (o := .cells #[.int .i64 a0_0, .int .i64 a0_1] 37 (0, 0)) (kz BK386.out) hb); have n1_ := Aside0.mk (below_step (bz1 HB.out GE386.out) hb); have n2_ := Aside0.mk (hbox); have n3_ := Aside0.mk ((by rw [hg]; exact (below_size (bz1 HB.out GE386.out)) : w.heap.size ≤ gb387)); have n4_ := Aside0.mk ((by rw [hg]; exact (below_size (bz1 HB.out GE386.out)) : w.heap.size ≤ gb387)); have n5_ := Aside0.mk ((by rw [hg]; exact Nat.ne_of_lt (blk_lt (g := gb386) (o := .cells #[.int .i64 a0_0, .int .i64 a0_1] 37 (0, 0)) (kz BK386.out)) : gb386 ≠ gb387)); have n6_ := Aside0.mk ((by rw [hg]; exact Nat.ne_of_gt (blk_lt (g := gb386) (o := .cells #[.int .i64 a0_0, .int .i64 a0_1] 37 (0, 0)) (kz BK386.out)) : gb387 ≠ gb386)); clear BK386; clear HB; have BK386 := n0_; have HB := n1_; have BK387 := n2_; have GW387 := n3_; have GE387 := n4_; have NB386_387 := n5_; have NB387_386 := n6_; clear n0_ n1_ n2_ n3_ n4_ n5_ n6_; clear hb hbox hg; have hnb12 := NB386_387.out; have hnc12 := NB387_386.out; have hcz13_0 : w11.cell? ⟨gb386, 0, none⟩ = some (.int .i64 a0_0) := (blk_cell BK386.out 0).trans rfl; have hcz13_1 : w11.cell? ⟨gb386, 1, none⟩ = some (.int .i64 a0_1) := (blk_cell BK386.out 1).trans rfl; have hfz13_0 := blk_frozen BK386.out 0; have hfz13_1 := blk_frozen BK386.out 1; have hcz14_0 : w11.cell? ⟨gb387, 0, none⟩ = some (.int .i64 a1_0) := (blk_cell BK387.out 0).trans rfl; have hcz14_1 : w11.cell? ⟨gb387, 1, none⟩ = some (.int .i64 a1_1) := (blk_cell BK387.out 1).trans rfl; have hfz14_0 := blk_frozen BK387.out 0; have hfz14_1 := blk_frozen BK387.out 1))
   go_ret
   exact ⟨gz, (bz2 HB.out GE386.out GE387.out)⟩
 ·rw [if_neg c3] at H
  have c3b0 : (a0_0 == a1_0) = false := beq_eq_false_iff_ne.mpr c3
  have c3b1 : (a0_0 != a1_0) = true := bne_iff_ne.mpr c3
  obtain rfl := Option.some.inj H
  go_enter Tryd.func30, Tryd.ntmps30
  go_wp2_with (first | ((with_reducible refine gate_dst (N := 2) rfl ?_); refine box_event ?hg (N := 2) ?hd (cs := #[.int .i64 a0_0, .int .i64 a0_1]) (t := 37) ?hr ?_; (case hd => rfl); (case hg => rfl); (case hr => first | (go_simp; done) | (go_simp; rfl)); intro gb386 hg w15 hbox hb; have n0_ := Aside0.mk (below_step (bz0 HB.out) hb); have n1_ := Aside0.mk (hbox); have n2_ := Aside0.mk ((by rw [hg]; exact (below_size (bz0 HB.out)) : w.heap.size ≤ gb386)); have n3_ := Aside0.mk ((by rw [hg]; exact (below_size (bz0 HB.out)) : w.heap.size ≤ gb386)); clear HB; have HB := n0_; have BK386 := n1_; have GW386 := n2_; have GE386 := n3_; clear n0_ n1_ n2_ n3_; clear hb hbox hg) | ((with_reducible refine gate_dst (N := 3) rfl ?_); refine box_event ?hg (N := 3) ?hd (cs := #[.int .i64 a1_0, .int .i64 a1_1]) (t := 37) ?hr ?_; (case hd => rfl); (case hg => rfl); (case hr => first | (go_simp; done) | (go_simp; rfl)); intro gb387 hg w16 hbox hb; have n0_ := Aside0.mk (blk_below (g := gb386) (o := .cells #[.int .i64 a0_0, .int .i64 a0_1] 37 (0, 0)) (kz BK386.out) hb); have n1_ := Aside0.mk (below_step (bz1 HB.out GE386.out) hb); have n2_ := Aside0.mk (hbox); have n3_ := Aside0.mk ((by rw [hg]; exact (below_size (bz1 HB.out GE386.out)) : w.heap.size ≤ gb387)); have n4_ := Aside0.mk ((by rw [hg]; exact (below_size (bz1 HB.out GE386.out)) : w.heap.size ≤ gb387)); have n5_ := Aside0.mk ((by rw [hg]; exact Nat.ne_of_lt (blk_lt (g := gb386) (o := .cells #[.int .i64 a0_0, .int .i64 a0_1] 37 (0, 0)) (kz BK386.out)) : gb386 ≠ gb387)); have n6_ := Aside0.mk ((by rw [hg]; exact Nat.ne_of_gt (blk_lt (g := gb386) (o := .cells #[.int .i64 a0_0, .int .i64 a0_1] 37 (0, 0)) (kz BK386.out)) : gb387 ≠ gb386)); clear BK386; clear HB; have BK386 := n0_; have HB := n1_; have BK387 := n2_; have GW387 := n3_; have GE387 := n4_; have NB386_387 := n5_; have NB387_386 := n6_; clear n0_ n1_ n2_ n3_ n4_ n5_ n6_; clear hb hbox hg; have hnb17 := NB386_387.out; have hnc17 := NB387_386.out; have hcz18_0 : w16.cell? ⟨gb386, 0, none⟩ = some (.int .i64 a0_0) := (blk_cell BK386.out 0).trans rfl; have hcz18_1 : w16.cell? ⟨gb386, 1, none⟩ = some (.int .i64 a0_1) := (blk_cell BK386.out 1).trans rfl; have hfz18_0 := blk_frozen BK386.out 0; have hfz18_1 := blk_frozen BK386.out 1; have hcz19_0 : w16.cell? ⟨gb387, 0, none⟩ = some (.int .i64 a1_0) := (blk_cell BK387.out 0).trans rfl; have hcz19_1 : w16.cell? ⟨gb387, 1, none⟩ = some (.int .i64 a1_1) := (blk_cell BK387.out 1).trans rfl; have hfz19_0 := blk_frozen BK387.out 0; have hfz19_1 := blk_frozen BK387.out 1))
  go_ret
  exact ⟨gz, (bz2 HB.out GE386.out GE387.out)⟩
def laws_FnExactBinderOf.f (k : Nat) (l0 : List (S50)) (a1 : Int) : Option (Bool) := (laws_szNodeS.f k l0 1048576).bind fun t388 => (if t388 < 0 then (some true) else ((laws_toNodeS.f k l0).bind fun t389 => ((spec_BinderOf.f k t389 a1).bind fun bt392 => ((laws_toNodeS.f k l0).bind fun t395 => ((impl_BinderOf.f k t395 a1).bind fun bt398 => ((laws_eqBind.f bt398.1 bt398.2 bt392.1 bt392.2).bind fun t401 => (if t401 = true then ((laws_toNodeS.f k l0).bind fun t402 => ((laws_eqNodeS.f k t395 t402).bind fun t405 => (if t405 = true then (some true) else (some false)))) else (some false))))))))
theorem laws_FnExactBinderOf.mono : ∀ a0 a1 k, LeO (laws_FnExactBinderOf.f k a0 a1) (laws_FnExactBinderOf.f (k + 1) a0 a1) := by
 intro a0 a1 k
 unfold laws_FnExactBinderOf.f
 repeat' first
   | (with_reducible exact impl_BinderOf.mono _ _ _)
   | (with_reducible exact laws_eqNodeS.mono _ _ _)
   | (with_reducible exact laws_szNodeS.mono _ _ _)
   | (with_reducible exact laws_toNodeS.mono _ _)
   | (with_reducible exact spec_BinderOf.mono _ _ _)
   | (with_reducible exact LeO.refl _)
   | (with_reducible exact LeO.none _)
   | (with_reducible refine LeO.ite ?_ ?_)
   | (with_reducible refine LeO.bind ?_ (fun _ => ?_))
   | exact impl_BinderOf.mono _ _ _
   | exact laws_eqNodeS.mono _ _ _
   | exact laws_szNodeS.mono _ _ _
   | exact laws_toNodeS.mono _ _
   | exact spec_BinderOf.mono _ _ _
   | exact LeO.none _
   | refine LeO.ite ?_ ?_
   | refine LeO.bind ?_ (fun _ => ?_)
set_option maxHeartbeats 8000000 in
set_option maxRecDepth 100000 in
theorem laws_FnExactBinderOf.calls (k : Nat) (A0 : Option Addr) (c0 : Nat) (l0 : List (S50)) (a1 : Int) (r : Bool) (w : World) (hr0 : Kd.C k50 w A0 l0.length l0) (hc0 : l0.length ≤ c0) (h : laws_FnExactBinderOf.f k l0 a1 = some r) :
  Calls Tryd.prog 8 #[.slice A0 l0.length c0, .int .i64 a1] w fun e w' => e = .returned (.bool r) ∧ Below w.heap.size w w' := by
 have hu37 := Tryd.underlying37
 have HR0 := Aside0.mk hr0
 have HC0 := Aside0.mk hc0
 clear hr0 hc0
 have HB := Aside0.mk (Below.refl w.heap.size w)
 have H : ((laws_szNodeS.f k l0 1048576).bind fun t388 => (if t388 < 0 then (some true) else ((laws_toNodeS.f k l0).bind fun t389 => ((spec_BinderOf.f k t389 a1).bind fun bt392 => ((laws_toNodeS.f k l0).bind fun t395 => ((impl_BinderOf.f k t395 a1).bind fun bt398 => ((laws_eqBind.f bt398.1 bt398.2 bt392.1 bt392.2).bind fun t401 => (if t401 = true then ((laws_toNodeS.f k l0).bind fun t402 => ((laws_eqNodeS.f k t395 t402).bind fun t405 => (if t405 = true then (some true) else (some false)))) else (some false))))))))) = some r := h
 clear h
 replace H := Option.bind_eq_some_iff.mp H
 obtain ⟨t388, A30, H⟩ := H
 replace H : (if t388 < 0 then (some true) else ((laws_toNodeS.f k l0).bind fun t389 => ((spec_BinderOf.f k t389 a1).bind fun bt392 => ((laws_toNodeS.f k l0).bind fun t395 => ((impl_BinderOf.f k t395 a1).bind fun bt398 => ((laws_eqBind.f bt398.1 bt398.2 bt392.1 bt392.2).bind fun t401 => (if t401 = true then ((laws_toNodeS.f k l0).bind fun t402 => ((laws_eqNodeS.f k t395 t402).bind fun t405 => (if t405 = true then (some true) else (some false)))) else (some false)))))))) = some r := H
 have A3 := Aside0.mk A30
 clear A30
 by_cases c4 : t388 < 0
 ·rw [if_pos c4] at H
  have c4b0 : decide (t388 < 0) = true := decide_eq_true c4
  clear c4
  obtain rfl := Option.some.inj H
  go_enter Tryd.func8, Tryd.ntmps8
  go_wp2_with (first | ((with_reducible refine gate_callee (f := 11) rfl ?_); refine goesL_ (some 11) rfl rfl Tryd.func11 (by kernel_rfl) rfl #[.slice A0 l0.length c0, .int .i64 1048576] rfl lz ?_; (with_reducible refine (laws_szNodeS.calls k _ _ l0 1048576 t388 _ ?side1 ?side2 A3.out).mono ?_); (case side1 => repeat (first | exact HR0.out | (with_reducible refine Kd.C_alloc ?_ _) | (with_reducible refine Kd.C_drewN ?_ _) | (with_reducible refine Kd.C_drew ?_))); (case side2 => exact HC0.out); rintro e w5 ⟨rfl, hb⟩; refine ⟨_, rfl, ?_⟩; have n0_ := Aside0.mk (below_step (bz0 HB.out) hb); clear HB; have HB := n0_; clear n0_; (try clear hb); (try clear hb2); (try clear hk); (try clear hi)))
  go_ret
  exact ⟨gz, (bz0 HB.out)⟩
 ·rw [if_neg c4] at H
  have c4b0 : decide (t388 < 0) = false := decide_eq_false c4
  clear c4
  replace H := Option.bind_eq_some_iff.mp H
  obtain ⟨t389, A60, H⟩ := H
  replace H : ((spec_BinderOf.f k t389 a1).bind fun bt392 => ((laws_toNodeS.f k l0).bind fun t395 => ((impl_BinderOf.f k t395 a1).bind fun bt398 => ((laws_eqBind.f bt398.1 bt398.2 bt392.1 bt392.2).bind fun t401 => (if t401 = true then ((laws_toNodeS.f k l0).bind fun t402 => ((laws_eqNodeS.f k t395 t402).bind fun t405 => (if t405 = true then (some true) else (some false)))) else (some false)))))) = some r := H
  have A6 := Aside0.mk A60
  clear A60
  replace H := Option.bind_eq_some_iff.mp H
  obtain ⟨⟨t392, t393⟩, A70, H⟩ := H
  replace H : ((laws_toNodeS.f k l0).bind fun t395 => ((impl_BinderOf.f k t395 a1).bind fun bt398 => ((laws_eqBind.f bt398.1 bt398.2 t392 t393).bind fun t401 => (if t401 = true then ((laws_toNodeS.f k l0).bind fun t402 => ((laws_eqNodeS.f k t395 t402).bind fun t405 => (if t405 = true then (some true) else (some false)))) else (some false))))) = some r := H
  have A7 := Aside0.mk A70
  clear A70
  replace H := Option.bind_eq_some_iff.mp H
  obtain ⟨t395, A80, H⟩ := H
  replace H : ((impl_BinderOf.f k t395 a1).bind fun bt398 => ((laws_eqBind.f bt398.1 bt398.2 t392 t393).bind fun t401 => (if t401 = true then ((laws_toNodeS.f k l0).bind fun t402 => ((laws_eqNodeS.f k t395 t402).bind fun t405 => (if t405 = true then (some true) else (some false)))) else (some false)))) = some r := H
  have A8 := Aside0.mk A80
  clear A80
  replace H := Option.bind_eq_some_iff.mp H
  obtain ⟨⟨t398, t399⟩, A90, H⟩ := H
  replace H : ((laws_eqBind.f t398 t399 t392 t393).bind fun t401 => (if t401 = true then ((laws_toNodeS.f k l0).bind fun t402 => ((laws_eqNodeS.f k t395 t402).bind fun t405 => (if t405 = true then (some true) else (some false)))) else (some false))) = some r := H
  have A9 := Aside0.mk A90
  clear A90
  replace H := Option.bind_eq_some_iff.mp H
  obtain ⟨t401, A100, H⟩ := H
  replace H : (if t401 = true then ((laws_toNodeS.f k l0).bind fun t402 => ((laws_eqNodeS.f k t395 t402).bind fun t405 => (if t405 = true then (some true) else (some false)))) else (some false)) = some r := H
  have A10 := Aside0.mk A100
  clear A100
  by_cases c11 : t401 = true
  ·subst c11
   have H1 : ((laws_toNodeS.f k l0).bind fun t402 => ((laws_eqNodeS.f k t395 t402).bind fun t405 => (if t405 = true then (some true) else (some false)))) = some r := by rw [if_pos rfl] at H; exact H
   clear H
   have H := H1
   clear H1
   replace H := Option.bind_eq_some_iff.mp H
   obtain ⟨t402, A120, H⟩ := H
   replace H : ((laws_eqNodeS.f k t395 t402).bind fun t405 => (if t405 = true then (some true) else (some false))) = some r := H
   have A12 := Aside0.mk A120
   clear A120
   replace H := Option.bind_eq_some_iff.mp H
   obtain ⟨t405, A130, H⟩ := H
   replace H : (if t405 = true then (some true) else (some false)) = some r := H
   have A13 := Aside0.mk A130
   clear A130
   by_cases c14 : t405 = true
   ·subst c14
    have H1 : (some true) = some r := by rw [if_pos rfl] at H; exact H
    clear H
    have H := H1
    clear H1
    obtain rfl := Option.some.inj H
    go_enter Tryd.func8, Tryd.ntmps8
    go_wp2_with (first | ((with_reducible refine gate_callee (f := 11) rfl ?_); refine goesL_ (some 11) rfl rfl Tryd.func11 (by kernel_rfl) rfl #[.slice A0 l0.length c0, .int .i64 1048576] rfl lz ?_; (with_reducible refine (laws_szNodeS.calls k _ _ l0 1048576 t388 _ ?side1 ?side2 A3.out).mono ?_); (case side1 => repeat (first | exact HR0.out | (with_reducible refine Kd.C_alloc ?_ _) | (with_reducible refine Kd.C_drewN ?_ _) | (with_reducible refine Kd.C_drew ?_))); (case side2 => exact HC0.out); rintro e w15 ⟨rfl, hb⟩; refine ⟨_, rfl, ?_⟩; have n0_ := Aside0.mk (below_step (bz0 HB.out) hb); clear HB; have HB := n0_; clear n0_; (try clear hb); (try clear hb2); (try clear hk); (try clear hi)) | ((with_reducible refine gate_callee (f := 13) rfl ?_); refine goesL_ (some 15) rfl rfl Tryd.func13 (by kernel_rfl) rfl #[.slice A0 l0.length c0] rfl lz ?_; (with_reducible refine (laws_toNodeS.calls k _ _ l0 t389 _ ?side1 ?side2 A6.out).mono ?_); (case side1 => exact cz (Kd.C_below HR0.out HB.out)); (case side2 => exact HC0.out); rintro e w16 ⟨v390, rfl, ho0, hb⟩; refine ⟨_, rfl, ?_⟩; have n0_ := Aside0.mk (Kd.R_lower ho0 (below_size (bz0 HB.out))); have n1_ := Aside0.mk (below_step (bz0 HB.out) hb); clear HB; have HO391 := n0_; have HB := n1_; clear n0_ n1_; (try clear hb); (try clear hb2); (try clear hk); (try clear hi); (try clear ho0); obtain ⟨Ao17, co17, eo17⟩ := Kd.R_slice HO391.out; subst eo17) | ((with_reducible refine gate_callee (f := 28) rfl ?_); refine goesL_ (some 17) rfl rfl Tryd.func28 (by kernel_rfl) rfl #[.slice Ao17 t389.length co17, .int .i64 a1] rfl lz ?_; (with_reducible refine (spec_BinderOf.calls k _ _ t389 a1 t392 t393 _ ?side1 ?side2 A7.out).mono ?_); (case side1 => exact cz (Kd.R_reads' HO391.out).2.2); (case side2 => exact (Kd.R_reads' HO391.out).2.1); rintro e w18 ⟨rfl, hb⟩; refine ⟨_, rfl, ?_⟩; have n0_ := Aside0.mk (Kd.R_below (rz HO391.out) hb); have n1_ := Aside0.mk (below_step (bz0 HB.out) hb); clear HO391; clear HB; have HO391 := n0_; have HB := n1_; clear n0_ n1_; (try clear hb); (try clear hb2); (try clear hk); (try clear hi)) | ((with_reducible refine gate_dst (N := 6) rfl ?_); refine box_event ?hg (N := 6) ?hd (cs := #[.int .i64 0, .int .i64 0]) (t := 37) ?hr ?_; (case hd => rfl); (case hg => rfl); (case hr => first | (go_simp; done) | (go_simp; rfl)); intro gb394 hg w19 hbox hb; have n0_ := Aside0.mk (Kd.R_below (rz HO391.out) hb); have n1_ := Aside0.mk (below_step (bz0 HB.out) hb); have n2_ := Aside0.mk (hbox); have n3_ := Aside0.mk ((by rw [hg]; exact (below_size (bz0 HB.out)) : w.heap.size ≤ gb394)); have n4_ := Aside0.mk ((by rw [hg]; exact (below_size (bz0 HB.out)) : w.heap.size ≤ gb394)); clear HO391; clear HB; have HO391 := n0_; have HB := n1_; have BK394 := n2_; have GW394 := n3_; have GE394 := n4_; clear n0_ n1_ n2_ n3_ n4_; clear hb hbox hg; have hcz20_0 : w19.cell? ⟨gb394, 0, none⟩ = some (.int .i64 0) := (blk_cell BK394.out 0).trans rfl; have hcz20_1 : w19.cell? ⟨gb394, 1, none⟩ = some (.int .i64 0) := (blk_cell BK394.out 1).trans rfl; have hfz20_0 := blk_frozen BK394.out 0; have hfz20_1 := blk_frozen BK394.out 1) | ((with_reducible refine gate_callee (f := 13) rfl ?_); refine goesL_ (some 19) rfl rfl Tryd.func13 (by kernel_rfl) rfl #[.slice A0 l0.length c0] rfl lz ?_; (with_reducible refine (laws_toNodeS.calls k _ _ l0 t395 _ ?side1 ?side2 A8.out).mono ?_); (case side1 => exact Kd.C_below HR0.out (bz1 HB.out GE394.out)); (case side2 => exact HC0.out); rintro e w21 ⟨v396, rfl, ho0, hb⟩; refine ⟨_, rfl, ?_⟩; have n0_ := Aside0.mk (Kd.R_elder' (by (with_reducible repeat (first | apply Kd.R_alloc | apply Kd.R_drewN | apply Kd.R_drew)); exact (Kd.R_mono (Kd.R_far (p := ⟨gb394, 1, none⟩) (Kd.R_far (p := ⟨gb394, 0, none⟩) (Kd.R_types HO391.out BK394.out (by decide)) (fun _ hk => hk.2) (.int .i64 t392)) (fun _ hk => hk.2) (.int .i64 t393)) (fun _ h_ => h_.1))) (Kd.R_base ho0) hb); have n1_ := Aside0.mk (Kd.R_lower (Kd.R_new' ho0 (Kd.R_lt (by (with_reducible repeat (first | apply Kd.R_alloc | apply Kd.R_drewN | apply Kd.R_drew)); exact (Kd.R_mono (Kd.R_far (p := ⟨gb394, 1, none⟩) (Kd.R_far (p := ⟨gb394, 0, none⟩) (Kd.R_types HO391.out BK394.out (by decide)) (fun _ hk => hk.2) (.int .i64 t392)) (fun _ hk => hk.2) (.int .i64 t393)) (fun _ h_ => h_.1))))) (below_size (bz1 HB.out GE394.out))); have n2_ := Aside0.mk (blk_below (g := gb394) (o := .cells #[.int .i64 t392, .int .i64 t393] 37 (0, 0)) (by (with_reducible repeat (first | refine blk_drewN ?_ _ | refine blk_drew ?_ | refine blk_alloc ?_ _)); refine blk_put (cs := #[.int .i64 t392, .int .i64 0]) ?_ 1 _ rfl; (with_reducible repeat (first | refine blk_drewN ?_ _ | refine blk_drew ?_ | refine blk_alloc ?_ _)); refine blk_put (cs := #[.int .i64 0, .int .i64 0]) ?_ 0 _ rfl; (with_reducible repeat (first | refine blk_drewN ?_ _ | refine blk_drew ?_ | refine blk_alloc ?_ _)); exact BK394.out) hb); have n3_ := Aside0.mk (below_step (bz1 HB.out GE394.out) hb); clear HO391; clear BK394; clear HB; have HO391 := n0_; have HO397 := n1_; have BK394 := n2_; have HB := n3_; clear n0_ n1_ n2_ n3_; (try clear hb); (try clear hb2); (try clear hk); (try clear hi); (try clear ho0); obtain ⟨Ao22, co22, eo22⟩ := Kd.R_slice HO397.out; subst eo22) | ((with_reducible refine gate_callee (f := 29) rfl ?_); refine goesL_ (some 22) rfl rfl Tryd.func29 (by kernel_rfl) rfl #[.slice Ao22 t395.length co22, .int .i64 a1] rfl lz ?_; (with_reducible refine (impl_BinderOf.calls k _ _ t395 a1 t398 t399 _ ?side1 ?side2 A9.out).mono ?_); (case side1 => exact cz (Kd.R_reads' HO397.out).2.2); (case side2 => exact (Kd.R_reads' HO397.out).2.1); rintro e w23 ⟨rfl, hb⟩; refine ⟨_, rfl, ?_⟩; have n0_ := Aside0.mk (Kd.R_below (rz HO391.out) hb); have n1_ := Aside0.mk (Kd.R_below (rz HO397.out) hb); have n2_ := Aside0.mk (blk_below (g := gb394) (o := .cells #[.int .i64 t392, .int .i64 t393] 37 (0, 0)) (kz BK394.out) hb); have n3_ := Aside0.mk (below_step (bz1 HB.out GE394.out) hb); clear HO391; clear HO397; clear BK394; clear HB; have HO391 := n0_; have HO397 := n1_; have BK394 := n2_; have HB := n3_; clear n0_ n1_ n2_ n3_; (try clear hb); (try clear hb2); (try clear hk); (try clear hi)) | ((with_reducible refine gate_dst (N := 8) rfl ?_); refine box_event ?hg (N := 8) ?hd (cs := #[.int .i64 0, .int .i64 0]) (t := 37) ?hr ?_; (case hd => rfl); (case hg => rfl); (case hr => first | (go_simp; done) | (go_simp; rfl)); intro gb400 hg w24 hbox hb; have n0_ := Aside0.mk (Kd.R_below (rz HO391.out) hb); have n1_ := Aside0.mk (Kd.R_below (rz HO397.out) hb); have n2_ := Aside0.mk (blk_below (g := gb394) (o := .cells #[.int .i64 t392, .int .i64 t393] 37 (0, 0)) (kz BK394.out) hb); have n3_ := Aside0.mk (below_step (bz1 HB.out GE394.out) hb); have n4_ := Aside0.mk (hbox); have n5_ := Aside0.mk ((by rw [hg]; exact (below_size (bz1 HB.out GE394.out)) : w.heap.size ≤ gb400)); have n6_ := Aside0.mk ((by rw [hg]; exact (below_size (bz1 HB.out GE394.out)) : w.heap.size ≤ gb400)); have n7_ := Aside0.mk ((by rw [hg]; exact Nat.ne_of_lt (blk_lt (g := gb394) (o := .cells #[.int .i64 t392, .int .i64 t393] 37 (0, 0)) (kz BK394.out)) : gb394 ≠ gb400)); have n8_ := Aside0.mk ((by rw [hg]; exact Nat.ne_of_gt (blk_lt (g := gb394) (o := .cells #[.int .i64 t392, .int .i64 t393] 37 (0, 0)) (kz BK394.out)) : gb400 ≠ gb394)); clear HO391; clear HO397; clear BK394; clear HB; have HO391 := n0_; have HO397 := n1_; have BK394 := n2_; have HB := n3_; have BK400 := n4_; have GW400 := n5_; have GE400 := n6_; have NB394_400 := n7_; have NB400_394 := n8_; clear n0_ n1_ n2_ n3_ n4_ n5_ n6_ n7_ n8_; clear hb hbox hg; have hnb25 := NB400_394.out; have hnc25 := NB394_400.out; have hcz26_0 : w24.cell? ⟨gb400, 0, none⟩ = some (.int .i64 0) := (blk_cell BK400.out 0).trans rfl; have hcz26_1 : w24.cell? ⟨gb400, 1, none⟩ = some (.int .i64 0) := (blk_cell BK400.out 1).trans rfl; have hfz26_0 := blk_frozen BK400.out 0; have hfz26_1 := blk_frozen BK400.out 1; have hcz27_0 : w24.cell? ⟨gb394, 0, none⟩ = some (.int .i64 t392) := (blk_cell BK394.out 0).trans rfl; have hcz27_1 : w24.cell? ⟨gb394, 1, none⟩ = some (.int .i64 t393) := (blk_cell BK394.out 1).trans rfl; have hfz27_0 := blk_frozen BK394.out 0; have hfz27_1 := blk_frozen BK394.out 1) | ((with_reducible refine gate_callee (f := 30) rfl ?_); refine goesL_ (some 25) rfl rfl Tryd.func30 (by kernel_rfl) rfl #[.agg #[.int .i64 t398, .int .i64 t399], .agg #[.int .i64 t392, .int .i64 t393]] rfl lz ?_; (with_reducible refine (laws_eqBind.calls t398 t399 t392 t393 true _ A10.out).mono ?_); rintro e w28 ⟨rfl, hb⟩; refine ⟨_, rfl, ?_⟩; have n0_ := Aside0.mk (Kd.R_below (by (with_reducible repeat (first | apply Kd.R_alloc | apply Kd.R_drewN | apply Kd.R_drew)); exact (Kd.R_mono (Kd.R_far (p := ⟨gb400, 1, none⟩) (Kd.R_far (p := ⟨gb400, 0, none⟩) (Kd.R_types HO391.out BK400.out (by decide)) (fun _ hk => hk.2) (.int .i64 t398)) (fun _ hk => hk.2) (.int .i64 t399)) (fun _ h_ => h_.1))) hb); have n1_ := Aside0.mk (Kd.R_below (by (with_reducible repeat (first | apply Kd.R_alloc | apply Kd.R_drewN | apply Kd.R_drew)); exact (Kd.R_mono (Kd.R_far (p := ⟨gb400, 1, none⟩) (Kd.R_far (p := ⟨gb400, 0, none⟩) (Kd.R_types HO397.out BK400.out (by decide)) (fun _ hk => hk.2) (.int .i64 t398)) (fun _ hk => hk.2) (.int .i64 t399)) (fun _ h_ => h_.1))) hb); have n2_ := Aside0.mk (blk_below (g := gb394) (o := .cells #[.int .i64 t392, .int .i64 t393] 37 (0, 0)) (by (with_reducible repeat (first | refine blk_drewN ?_ _ | refine blk_drew ?_ | refine blk_alloc ?_ _)); refine blk_far ?_ NB394_400.out _; (with_reducible repeat (first | refine blk_drewN ?_ _ | refine blk_drew ?_ | refine blk_alloc ?_ _)); refine blk_far ?_ NB394_400.out _; (with_reducible repeat (first | refine blk_drewN ?_ _ | refine blk_drew ?_ | refine blk_alloc ?_ _)); exact BK394.out) hb); have n3_ := Aside0.mk (blk_below (g := gb400) (o := .cells #[.int .i64 t398, .int .i64 t399] 37 (0, 0)) (by (with_reducible repeat (first | refine blk_drewN ?_ _ | refine blk_drew ?_ | refine blk_alloc ?_ _)); refine blk_put (cs := #[.int .i64 t398, .int .i64 0]) ?_ 1 _ rfl; (with_reducible repeat (first | refine blk_drewN ?_ _ | refine blk_drew ?_ | refine blk_alloc ?_ _)); refine blk_put (cs := #[.int .i64 0, .int .i64 0]) ?_ 0 _ rfl; (with_reducible repeat (first | refine blk_drewN ?_ _ | refine blk_drew ?_ | refine blk_alloc ?_ _)); exact BK400.out) hb); have n4_ := Aside0.mk (below_step (bz2 HB.out GE394.out GE400.out) hb); clear HO391; clear HO397; clear BK394; clear BK400; clear HB; have HO391 := n0_; have HO397 := n1_; have BK394 := n2_; have BK400 := n3_; have HB := n4_; clear n0_ n1_ n2_ n3_ n4_; (try clear hb); (try clear hb2); (try clear hk); (try clear hi)) | ((with_reducible refine gate_callee (f := 13) rfl ?_); refine goesL_ (some 29) rfl rfl Tryd.func13 (by kernel_rfl) rfl #[.slice A0 l0.length c0] rfl lz ?_; (with_reducible refine (laws_toNodeS.calls k _ _ l0 t402 _ ?side1 ?side2 A12.out).mono ?_); (case side1 => exact cz (Kd.C_below HR0.out HB.out)); (case side2 => exact HC0.out); rintro e w29 ⟨v403, rfl, ho0, hb⟩; refine ⟨_, rfl, ?_⟩; have n0_ := Aside0.mk (Kd.R_elder' (rz HO391.out) (Kd.R_base ho0) hb); have n1_ := Aside0.mk (Kd.R_elder' (rz HO397.out) (Kd.R_base ho0) hb); have n2_ := Aside0.mk (Kd.R_lower (Kd.R_new' (Kd.R_new' ho0 (Kd.R_lt (rz HO391.out))) (Kd.R_lt (rz HO397.out))) (below_size (bz2 HB.out GE394.out GE400.out))); have n3_ := Aside0.mk (blk_below (g := gb394) (o := .cells #[.int .i64 t392, .int .i64 t393] 37 (0, 0)) (kz BK394.out) hb); have n4_ := Aside0.mk (blk_below (g := gb400) (o := .cells #[.int .i64 t398, .int .i64 t399] 37 (0, 0)) (kz BK400.out) hb); have n5_ := Aside0.mk (below_step (bz2 HB.out GE394.out GE400.out) hb); clear HO391; clear HO397; clear BK394; clear BK400; clear HB; have HO391 := n0_; have HO397 := n1_; have HO404 := n2_; have BK394 := n3_; have BK400 := n4_; have HB := n5_; clear n0_ n1_ n2_ n3_ n4_ n5_; (try clear hb); (try clear hb2); (try clear hk); (try clear hi); (try clear ho0); obtain ⟨Ao30, co30, eo30⟩ := Kd.R_slice HO404.out; subst eo30) | ((with_reducible refine gate_callee (f := 15) rfl ?_); refine goesL_ (some 30) rfl rfl Tryd.func15 (by kernel_rfl) rfl #[.slice Ao22 t395.length co22, .slice Ao30 t402.length co30] rfl lz ?_; (with_reducible refine (laws_eqNodeS.calls k _ _ t395 _ _ t402 true _ ?side1 ?side2 ?side3 ?side4 A13.out).mono ?_); (case side1 => exact cz (Kd.R_reads' HO397.out).2.2); (case side2 => exact (Kd.R_reads' HO397.out).2.1); (case side3 => exact cz (Kd.R_reads' HO404.out).2.2); (case side4 => exact (Kd.R_reads' HO404.out).2.1); rintro e w31 ⟨rfl, hb⟩; refine ⟨_, rfl, ?_⟩; have n0_ := Aside0.mk (Kd.R_below (rz HO391.out) hb); have n1_ := Aside0.mk (Kd.R_below (rz HO397.out) hb); have n2_ := Aside0.mk (Kd.R_below (rz HO404.out) hb); have n3_ := Aside0.mk (blk_below (g := gb394) (o := .cells #[.int .i64 t392, .int .i64 t393] 37 (0, 0)) (kz BK394.out) hb); have n4_ := Aside0.mk (blk_below (g := gb400) (o := .cells #[.int .i64 t398, .int .i64 t399] 37 (0, 0)) (kz BK400.out) hb); have n5_ := Aside0.mk (below_step (bz2 HB.out GE394.out GE400.out) hb); clear HO391; clear HO397; clear HO404; clear BK394; clear BK400; clear HB; have HO391 := n0_; have HO397 := n1_; have HO404 := n2_; have BK394 := n3_; have BK400 := n4_; have HB := n5_; clear n0_ n1_ n2_ n3_ n4_ n5_; (try clear hb); (try clear hb2); (try clear hk); (try clear hi)))
    go_ret
    exact ⟨gz, (bz2 HB.out GE394.out GE400.out)⟩
   ·replace c14 := Bool.eq_false_iff.mpr c14
    subst c14
    have H1 : (some false) = some r := by rw [if_neg (show ¬ (false = true) by decide)] at H; exact H
    clear H
    have H := H1
    clear H1
    obtain rfl := Option.some.inj H
    go_enter Tryd.func8, Tryd.ntmps8
    go_wp2_with (first | ((with_reducible refine gate_callee (f := 11) rfl ?_); refine goesL_ (some 11) rfl rfl Tryd.func11 (by kernel_rfl) rfl #[.slice A0 l0.length c0, .int .i64 1048576] rfl lz ?_; (with_reducible refine (laws_szNodeS.calls k _ _ l0 1048576 t388 _ ?side1 ?side2 A3.out).mono ?_); (case side1 => repeat (first | exact HR0.out | (with_reducible refine Kd.C_alloc ?_ _) | (with_reducible refine Kd.C_drewN ?_ _) | (with_reducible refine Kd.C_drew ?_))); (case side2 => exact HC0.out); rintro e w32 ⟨rfl, hb⟩; refine ⟨_, rfl, ?_⟩; have n0_ := Aside0.mk (below_step (bz0 HB.out) hb); clear HB; have HB := n0_; clear n0_; (try clear hb); (try clear hb2); (try clear hk); (try clear hi)) | ((with_reducible refine gate_callee (f := 13) rfl ?_); refine goesL_ (some 15) rfl rfl Tryd.func13 (by kernel_rfl) rfl #[.slice A0 l0.length c0] rfl lz ?_; (with_reducible refine (laws_toNodeS.calls k _ _ l0 t389 _ ?side1 ?side2 A6.out).mono ?_); (case side1 => exact cz (Kd.C_below HR0.out HB.out)); (case side2 => exact HC0.out); rintro e w33 ⟨v390, rfl, ho0, hb⟩; refine ⟨_, rfl, ?_⟩; have n0_ := Aside0.mk (Kd.R_lower ho0 (below_size (bz0 HB.out))); have n1_ := Aside0.mk (below_step (bz0 HB.out) hb); clear HB; have HO391 := n0_; have HB := n1_; clear n0_ n1_; (try clear hb); (try clear hb2); (try clear hk); (try clear hi); (try clear ho0); obtain ⟨Ao34, co34, eo34⟩ := Kd.R_slice HO391.out; subst eo34) | ((with_reducible refine gate_callee (f := 28) rfl ?_); refine goesL_ (some 17) rfl rfl Tryd.func28 (by kernel_rfl) rfl #[.slice Ao34 t389.length co34, .int .i64 a1] rfl lz ?_; (with_reducible refine (spec_BinderOf.calls k _ _ t389 a1 t392 t393 _ ?side1 ?side2 A7.out).mono ?_); (case side1 => exact cz (Kd.R_reads' HO391.out).2.2); (case side2 => exact (Kd.R_reads' HO391.out).2.1); rintro e w35 ⟨rfl, hb⟩; refine ⟨_, rfl, ?_⟩; have n0_ := Aside0.mk (Kd.R_below (rz HO391.out) hb); have n1_ := Aside0.mk (below_step (bz0 HB.out) hb); clear HO391; clear HB; have HO391 := n0_; have HB := n1_; clear n0_ n1_; (try clear hb); (try clear hb2); (try clear hk); (try clear hi)) | ((with_reducible refine gate_dst (N := 6) rfl ?_); refine box_event ?hg (N := 6) ?hd (cs := #[.int .i64 0, .int .i64 0]) (t := 37) ?hr ?_; (case hd => rfl); (case hg => rfl); (case hr => first | (go_simp; done) | (go_simp; rfl)); intro gb394 hg w36 hbox hb; have n0_ := Aside0.mk (Kd.R_below (rz HO391.out) hb); have n1_ := Aside0.mk (below_step (bz0 HB.out) hb); have n2_ := Aside0.mk (hbox); have n3_ := Aside0.mk ((by rw [hg]; exact (below_size (bz0 HB.out)) : w.heap.size ≤ gb394)); have n4_ := Aside0.mk ((by rw [hg]; exact (below_size (bz0 HB.out)) : w.heap.size ≤ gb394)); clear HO391; clear HB; have HO391 := n0_; have HB := n1_; have BK394 := n2_; have GW394 := n3_; have GE394 := n4_; clear n0_ n1_ n2_ n3_ n4_; clear hb hbox hg; have hcz37_0 : w36.cell? ⟨gb394, 0, none⟩ = some (.int .i64 0) := (blk_cell BK394.out 0).trans rfl; have hcz37_1 : w36.cell? ⟨gb394, 1, none⟩ = some (.int .i64 0) := (blk_cell BK394.out 1).trans rfl; have hfz37_0 := blk_frozen BK394.out 0; have hfz37_1 := blk_frozen BK394.out 1) | ((with_reducible refine gate_callee (f := 13) rfl ?_); refine goesL_ (some 19) rfl rfl Tryd.func13 (by kernel_rfl) rfl #[.slice A0 l0.length c0] rfl lz ?_; (with_reducible refine (laws_toNodeS.calls k _ _ l0 t395 _ ?side1 ?side2 A8.out).mono ?_); (case side1 => exact Kd.C_below HR0.out (bz1 HB.out GE394.out)); (case side2 => exact HC0.out); rintro e w38 ⟨v396, rfl, ho0, hb⟩; refine ⟨_, rfl, ?_⟩; have n0_ := Aside0.mk (Kd.R_elder' (by (with_reducible repeat (first | apply Kd.R_alloc | apply Kd.R_drewN | apply Kd.R_drew)); exact (Kd.R_mono (Kd.R_far (p := ⟨gb394, 1, none⟩) (Kd.R_far (p := ⟨gb394, 0, none⟩) (Kd.R_types HO391.out BK394.out (by decide)) (fun _ hk => hk.2) (.int .i64 t392)) (fun _ hk => hk.2) (.int .i64 t393)) (fun _ h_ => h_.1))) (Kd.R_base ho0) hb); have n1_ := Aside0.mk (Kd.R_lower (Kd.R_new' ho0 (Kd.R_lt (by (with_reducible repeat (first | apply Kd.R_alloc | apply Kd.R_drewN | apply Kd.R_drew)); exact (Kd.R_mono (Kd.R_far (p := ⟨gb394, 1, none⟩) (Kd.R_far (p := ⟨gb394, 0, none⟩) (Kd.R_types HO391.out BK394.out (by decide)) (fun _ hk => hk.2) (.int .i64 t392)) (fun _ hk => hk.2) (.int .i64 t393)) (fun _ h_ => h_.1))))) (below_size (bz1 HB.out GE394.out))); have n2_ := Aside0.mk (blk_below (g := gb394) (o := .cells #[.int .i64 t392, .int .i64 t393] 37 (0, 0)) (by (with_reducible repeat (first | refine blk_drewN ?_ _ | refine blk_drew ?_ | refine blk_alloc ?_ _)); refine blk_put (cs := #[.int .i64 t392, .int .i64 0]) ?_ 1 _ rfl; (with_reducible repeat (first | refine blk_drewN ?_ _ | refine blk_drew ?_ | refine blk_alloc ?_ _)); refine blk_put (cs := #[.int .i64 0, .int .i64 0]) ?_ 0 _ rfl; (with_reducible repeat (first | refine blk_drewN ?_ _ | refine blk_drew ?_ | refine blk_alloc ?_ _)); exact BK394.out) hb); have n3_ := Aside0.mk (below_step (bz1 HB.out GE394.out) hb); clear HO391; clear BK394; clear HB; have HO391 := n0_; have HO397 := n1_; have BK394 := n2_; have HB := n3_; clear n0_ n1_ n2_ n3_; (try clear hb); (try clear hb2); (try clear hk); (try clear hi); (try clear ho0); obtain ⟨Ao39, co39, eo39⟩ := Kd.R_slice HO397.out; subst eo39) | ((with_reducible refine gate_callee (f := 29) rfl ?_); refine goesL_ (some 22) rfl rfl Tryd.func29 (by kernel_rfl) rfl #[.slice Ao39 t395.length co39, .int .i64 a1] rfl lz ?_; (with_reducible refine (impl_BinderOf.calls k _ _ t395 a1 t398 t399 _ ?side1 ?side2 A9.out).mono ?_); (case side1 => exact cz (Kd.R_reads' HO397.out).2.2); (case side2 => exact (Kd.R_reads' HO397.out).2.1); rintro e w40 ⟨rfl, hb⟩; refine ⟨_, rfl, ?_⟩; have n0_ := Aside0.mk (Kd.R_below (rz HO391.out) hb); have n1_ := Aside0.mk (Kd.R_below (rz HO397.out) hb); have n2_ := Aside0.mk (blk_below (g := gb394) (o := .cells #[.int .i64 t392, .int .i64 t393] 37 (0, 0)) (kz BK394.out) hb); have n3_ := Aside0.mk (below_step (bz1 HB.out GE394.out) hb); clear HO391; clear HO397; clear BK394; clear HB; have HO391 := n0_; have HO397 := n1_; have BK394 := n2_; have HB := n3_; clear n0_ n1_ n2_ n3_; (try clear hb); (try clear hb2); (try clear hk); (try clear hi)) | ((with_reducible refine gate_dst (N := 8) rfl ?_); refine box_event ?hg (N := 8) ?hd (cs := #[.int .i64 0, .int .i64 0]) (t := 37) ?hr ?_; (case hd => rfl); (case hg => rfl); (case hr => first | (go_simp; done) | (go_simp; rfl)); intro gb400 hg w41 hbox hb; have n0_ := Aside0.mk (Kd.R_below (rz HO391.out) hb); have n1_ := Aside0.mk (Kd.R_below (rz HO397.out) hb); have n2_ := Aside0.mk (blk_below (g := gb394) (o := .cells #[.int .i64 t392, .int .i64 t393] 37 (0, 0)) (kz BK394.out) hb); have n3_ := Aside0.mk (below_step (bz1 HB.out GE394.out) hb); have n4_ := Aside0.mk (hbox); have n5_ := Aside0.mk ((by rw [hg]; exact (below_size (bz1 HB.out GE394.out)) : w.heap.size ≤ gb400)); have n6_ := Aside0.mk ((by rw [hg]; exact (below_size (bz1 HB.out GE394.out)) : w.heap.size ≤ gb400)); have n7_ := Aside0.mk ((by rw [hg]; exact Nat.ne_of_lt (blk_lt (g := gb394) (o := .cells #[.int .i64 t392, .int .i64 t393] 37 (0, 0)) (kz BK394.out)) : gb394 ≠ gb400)); have n8_ := Aside0.mk ((by rw [hg]; exact Nat.ne_of_gt (blk_lt (g := gb394) (o := .cells #[.int .i64 t392, .int .i64 t393] 37 (0, 0)) (kz BK394.out)) : gb400 ≠ gb394)); clear HO391; clear HO397; clear BK394; clear HB; have HO391 := n0_; have HO397 := n1_; have BK394 := n2_; have HB := n3_; have BK400 := n4_; have GW400 := n5_; have GE400 := n6_; have NB394_400 := n7_; have NB400_394 := n8_; clear n0_ n1_ n2_ n3_ n4_ n5_ n6_ n7_ n8_; clear hb hbox hg; have hnb42 := NB400_394.out; have hnc42 := NB394_400.out; have hcz43_0 : w41.cell? ⟨gb400, 0, none⟩ = some (.int .i64 0) := (blk_cell BK400.out 0).trans rfl; have hcz43_1 : w41.cell? ⟨gb400, 1, none⟩ = some (.int .i64 0) := (blk_cell BK400.out 1).trans rfl; have hfz43_0 := blk_frozen BK400.out 0; have hfz43_1 := blk_frozen BK400.out 1; have hcz44_0 : w41.cell? ⟨gb394, 0, none⟩ = some (.int .i64 t392) := (blk_cell BK394.out 0).trans rfl; have hcz44_1 : w41.cell? ⟨gb394, 1, none⟩ = some (.int .i64 t393) := (blk_cell BK394.out 1).trans rfl; have hfz44_0 := blk_frozen BK394.out 0; have hfz44_1 := blk_frozen BK394.out 1) | ((with_reducible refine gate_callee (f := 30) rfl ?_); refine goesL_ (some 25) rfl rfl Tryd.func30 (by kernel_rfl) rfl #[.agg #[.int .i64 t398, .int .i64 t399], .agg #[.int .i64 t392, .int .i64 t393]] rfl lz ?_; (with_reducible refine (laws_eqBind.calls t398 t399 t392 t393 true _ A10.out).mono ?_); rintro e w45 ⟨rfl, hb⟩; refine ⟨_, rfl, ?_⟩; have n0_ := Aside0.mk (Kd.R_below (by (with_reducible repeat (first | apply Kd.R_alloc | apply Kd.R_drewN | apply Kd.R_drew)); exact (Kd.R_mono (Kd.R_far (p := ⟨gb400, 1, none⟩) (Kd.R_far (p := ⟨gb400, 0, none⟩) (Kd.R_types HO391.out BK400.out (by decide)) (fun _ hk => hk.2) (.int .i64 t398)) (fun _ hk => hk.2) (.int .i64 t399)) (fun _ h_ => h_.1))) hb); have n1_ := Aside0.mk (Kd.R_below (by (with_reducible repeat (first | apply Kd.R_alloc | apply Kd.R_drewN | apply Kd.R_drew)); exact (Kd.R_mono (Kd.R_far (p := ⟨gb400, 1, none⟩) (Kd.R_far (p := ⟨gb400, 0, none⟩) (Kd.R_types HO397.out BK400.out (by decide)) (fun _ hk => hk.2) (.int .i64 t398)) (fun _ hk => hk.2) (.int .i64 t399)) (fun _ h_ => h_.1))) hb); have n2_ := Aside0.mk (blk_below (g := gb394) (o := .cells #[.int .i64 t392, .int .i64 t393] 37 (0, 0)) (by (with_reducible repeat (first | refine blk_drewN ?_ _ | refine blk_drew ?_ | refine blk_alloc ?_ _)); refine blk_far ?_ NB394_400.out _; (with_reducible repeat (first | refine blk_drewN ?_ _ | refine blk_drew ?_ | refine blk_alloc ?_ _)); refine blk_far ?_ NB394_400.out _; (with_reducible repeat (first | refine blk_drewN ?_ _ | refine blk_drew ?_ | refine blk_alloc ?_ _)); exact BK394.out) hb); have n3_ := Aside0.mk (blk_below (g := gb400) (o := .cells #[.int .i64 t398, .int .i64 t399] 37 (0, 0)) (by (with_reducible repeat (first | refine blk_drewN ?_ _ | refine blk_drew ?_ | refine blk_alloc ?_ _)); refine blk_put (cs := #[.int .i64 t398, .int .i64 0]) ?_ 1 _ rfl; (with_reducible repeat (first | refine blk_drewN ?_ _ | refine blk_drew ?_ | refine blk_alloc ?_ _)); refine blk_put (cs := #[.int .i64 0, .int .i64 0]) ?_ 0 _ rfl; (with_reducible repeat (first | refine blk_drewN ?_ _ | refine blk_drew ?_ | refine blk_alloc ?_ _)); exact BK400.out) hb); have n4_ := Aside0.mk (below_step (bz2 HB.out GE394.out GE400.out) hb); clear HO391; clear HO397; clear BK394; clear BK400; clear HB; have HO391 := n0_; have HO397 := n1_; have BK394 := n2_; have BK400 := n3_; have HB := n4_; clear n0_ n1_ n2_ n3_ n4_; (try clear hb); (try clear hb2); (try clear hk); (try clear hi)) | ((with_reducible refine gate_callee (f := 13) rfl ?_); refine goesL_ (some 29) rfl rfl Tryd.func13 (by kernel_rfl) rfl #[.slice A0 l0.length c0] rfl lz ?_; (with_reducible refine (laws_toNodeS.calls k _ _ l0 t402 _ ?side1 ?side2 A12.out).mono ?_); (case side1 => exact cz (Kd.C_below HR0.out HB.out)); (case side2 => exact HC0.out); rintro e w46 ⟨v403, rfl, ho0, hb⟩; refine ⟨_, rfl, ?_⟩; have n0_ := Aside0.mk (Kd.R_elder' (rz HO391.out) (Kd.R_base ho0) hb); have n1_ := Aside0.mk (Kd.R_elder' (rz HO397.out) (Kd.R_base ho0) hb); have n2_ := Aside0.mk (Kd.R_lower (Kd.R_new' (Kd.R_new' ho0 (Kd.R_lt (rz HO391.out))) (Kd.R_lt (rz HO397.out))) (below_size (bz2 HB.out GE394.out GE400.out))); have n3_ := Aside0.mk (blk_below (g := gb394) (o := .cells #[.int .i64 t392, .int .i64 t393] 37 (0, 0)) (kz BK394.out) hb); have n4_ := Aside0.mk (blk_below (g := gb400) (o := .cells #[.int .i64 t398, .int .i64 t399] 37 (0, 0)) (kz BK400.out) hb); have n5_ := Aside0.mk (below_step (bz2 HB.out GE394.out GE400.out) hb); clear HO391; clear HO397; clear BK394; clear BK400; clear HB; have HO391 := n0_; have HO397 := n1_; have HO404 := n2_; have BK394 := n3_; have BK400 := n4_; have HB := n5_; clear n0_ n1_ n2_ n3_ n4_ n5_; (try clear hb); (try clear hb2); (try clear hk); (try clear hi); (try clear ho0); obtain ⟨Ao47, co47, eo47⟩ := Kd.R_slice HO404.out; subst eo47) | ((with_reducible refine gate_callee (f := 15) rfl ?_); refine goesL_ (some 30) rfl rfl Tryd.func15 (by kernel_rfl) rfl #[.slice Ao39 t395.length co39, .slice Ao47 t402.length co47] rfl lz ?_; (with_reducible refine (laws_eqNodeS.calls k _ _ t395 _ _ t402 false _ ?side1 ?side2 ?side3 ?side4 A13.out).mono ?_); (case side1 => exact cz (Kd.R_reads' HO397.out).2.2); (case side2 => exact (Kd.R_reads' HO397.out).2.1); (case side3 => exact cz (Kd.R_reads' HO404.out).2.2); (case side4 => exact (Kd.R_reads' HO404.out).2.1); rintro e w48 ⟨rfl, hb⟩; refine ⟨_, rfl, ?_⟩; have n0_ := Aside0.mk (Kd.R_below (rz HO391.out) hb); have n1_ := Aside0.mk (Kd.R_below (rz HO397.out) hb); have n2_ := Aside0.mk (Kd.R_below (rz HO404.out) hb); have n3_ := Aside0.mk (blk_below (g := gb394) (o := .cells #[.int .i64 t392, .int .i64 t393] 37 (0, 0)) (kz BK394.out) hb); have n4_ := Aside0.mk (blk_below (g := gb400) (o := .cells #[.int .i64 t398, .int .i64 t399] 37 (0, 0)) (kz BK400.out) hb); have n5_ := Aside0.mk (below_step (bz2 HB.out GE394.out GE400.out) hb); clear HO391; clear HO397; clear HO404; clear BK394; clear BK400; clear HB; have HO391 := n0_; have HO397 := n1_; have HO404 := n2_; have BK394 := n3_; have BK400 := n4_; have HB := n5_; clear n0_ n1_ n2_ n3_ n4_ n5_; (try clear hb); (try clear hb2); (try clear hk); (try clear hi)))
    go_ret
    exact ⟨gz, (bz2 HB.out GE394.out GE400.out)⟩
  ·replace c11 := Bool.eq_false_iff.mpr c11
   subst c11
   have H1 : (some false) = some r := by rw [if_neg (show ¬ (false = true) by decide)] at H; exact H
   clear H
   have H := H1
   clear H1
   obtain rfl := Option.some.inj H
   go_enter Tryd.func8, Tryd.ntmps8
   go_wp2_with (first | ((with_reducible refine gate_callee (f := 11) rfl ?_); refine goesL_ (some 11) rfl rfl Tryd.func11 (by kernel_rfl) rfl #[.slice A0 l0.length c0, .int .i64 1048576] rfl lz ?_; (with_reducible refine (laws_szNodeS.calls k _ _ l0 1048576 t388 _ ?side1 ?side2 A3.out).mono ?_); (case side1 => repeat (first | exact HR0.out | (with_reducible refine Kd.C_alloc ?_ _) | (with_reducible refine Kd.C_drewN ?_ _) | (with_reducible refine Kd.C_drew ?_))); (case side2 => exact HC0.out); rintro e w49 ⟨rfl, hb⟩; refine ⟨_, rfl, ?_⟩; have n0_ := Aside0.mk (below_step (bz0 HB.out) hb); clear HB; have HB := n0_; clear n0_; (try clear hb); (try clear hb2); (try clear hk); (try clear hi)) | ((with_reducible refine gate_callee (f := 13) rfl ?_); refine goesL_ (some 15) rfl rfl Tryd.func13 (by kernel_rfl) rfl #[.slice A0 l0.length c0] rfl lz ?_; (with_reducible refine (laws_toNodeS.calls k _ _ l0 t389 _ ?side1 ?side2 A6.out).mono ?_); (case side1 => exact cz (Kd.C_below HR0.out HB.out)); (case side2 => exact HC0.out); rintro e w50 ⟨v390, rfl, ho0, hb⟩; refine ⟨_, rfl, ?_⟩; have n0_ := Aside0.mk (Kd.R_lower ho0 (below_size (bz0 HB.out))); have n1_ := Aside0.mk (below_step (bz0 HB.out) hb); clear HB; have HO391 := n0_; have HB := n1_; clear n0_ n1_; (try clear hb); (try clear hb2); (try clear hk); (try clear hi); (try clear ho0); obtain ⟨Ao51, co51, eo51⟩ := Kd.R_slice HO391.out; subst eo51) | ((with_reducible refine gate_callee (f := 28) rfl ?_); refine goesL_ (some 17) rfl rfl Tryd.func28 (by kernel_rfl) rfl #[.slice Ao51 t389.length co51, .int .i64 a1] rfl lz ?_; (with_reducible refine (spec_BinderOf.calls k _ _ t389 a1 t392 t393 _ ?side1 ?side2 A7.out).mono ?_); (case side1 => exact cz (Kd.R_reads' HO391.out).2.2); (case side2 => exact (Kd.R_reads' HO391.out).2.1); rintro e w52 ⟨rfl, hb⟩; refine ⟨_, rfl, ?_⟩; have n0_ := Aside0.mk (Kd.R_below (rz HO391.out) hb); have n1_ := Aside0.mk (below_step (bz0 HB.out) hb); clear HO391; clear HB; have HO391 := n0_; have HB := n1_; clear n0_ n1_; (try clear hb); (try clear hb2); (try clear hk); (try clear hi)) | ((with_reducible refine gate_dst (N := 6) rfl ?_); refine box_event ?hg (N := 6) ?hd (cs := #[.int .i64 0, .int .i64 0]) (t := 37) ?hr ?_; (case hd => rfl); (case hg => rfl); (case hr => first | (go_simp; done) | (go_simp; rfl)); intro gb394 hg w53 hbox hb; have n0_ := Aside0.mk (Kd.R_below (rz HO391.out) hb); have n1_ := Aside0.mk (below_step (bz0 HB.out) hb); have n2_ := Aside0.mk (hbox); have n3_ := Aside0.mk ((by rw [hg]; exact (below_size (bz0 HB.out)) : w.heap.size ≤ gb394)); have n4_ := Aside0.mk ((by rw [hg]; exact (below_size (bz0 HB.out)) : w.heap.size ≤ gb394)); clear HO391; clear HB; have HO391 := n0_; have HB := n1_; have BK394 := n2_; have GW394 := n3_; have GE394 := n4_; clear n0_ n1_ n2_ n3_ n4_; clear hb hbox hg; have hcz54_0 : w53.cell? ⟨gb394, 0, none⟩ = some (.int .i64 0) := (blk_cell BK394.out 0).trans rfl; have hcz54_1 : w53.cell? ⟨gb394, 1, none⟩ = some (.int .i64 0) := (blk_cell BK394.out 1).trans rfl; have hfz54_0 := blk_frozen BK394.out 0; have hfz54_1 := blk_frozen BK394.out 1) | ((with_reducible refine gate_callee (f := 13) rfl ?_); refine goesL_ (some 19) rfl rfl Tryd.func13 (by kernel_rfl) rfl #[.slice A0 l0.length c0] rfl lz ?_; (with_reducible refine (laws_toNodeS.calls k _ _ l0 t395 _ ?side1 ?side2 A8.out).mono ?_); (case side1 => exact Kd.C_below HR0.out (bz1 HB.out GE394.out)); (case side2 => exact HC0.out); rintro e w55 ⟨v396, rfl, ho0, hb⟩; refine ⟨_, rfl, ?_⟩; have n0_ := Aside0.mk (Kd.R_elder' (by (with_reducible repeat (first | apply Kd.R_alloc | apply Kd.R_drewN | apply Kd.R_drew)); exact (Kd.R_mono (Kd.R_far (p := ⟨gb394, 1, none⟩) (Kd.R_far (p := ⟨gb394, 0, none⟩) (Kd.R_types HO391.out BK394.out (by decide)) (fun _ hk => hk.2) (.int .i64 t392)) (fun _ hk => hk.2) (.int .i64 t393)) (fun _ h_ => h_.1))) (Kd.R_base ho0) hb); have n1_ := Aside0.mk (Kd.R_lower (Kd.R_new' ho0 (Kd.R_lt (by (with_reducible repeat (first | apply Kd.R_alloc | apply Kd.R_drewN | apply Kd.R_drew)); exact (Kd.R_mono (Kd.R_far (p := ⟨gb394, 1, none⟩) (Kd.R_far (p := ⟨gb394, 0, none⟩) (Kd.R_types HO391.out BK394.out (by decide)) (fun _ hk => hk.2) (.int .i64 t392)) (fun _ hk => hk.2) (.int .i64 t393)) (fun _ h_ => h_.1))))) (below_size (bz1 HB.out GE394.out))); have n2_ := Aside0.mk (blk_below (g := gb394) (o := .cells #[.int .i64 t392, .int .i64 t393] 37 (0, 0)) (by (with_reducible repeat (first | refine blk_drewN ?_ _ | refine blk_drew ?_ | refine blk_alloc ?_ _)); refine blk_put (cs := #[.int .i64 t392, .int .i64 0]) ?_ 1 _ rfl; (with_reducible repeat (first | refine blk_drewN ?_ _ | refine blk_drew ?_ | refine blk_alloc ?_ _)); refine blk_put (cs := #[.int .i64 0, .int .i64 0]) ?_ 0 _ rfl; (with_reducible repeat (first | refine blk_drewN ?_ _ | refine blk_drew ?_ | refine blk_alloc ?_ _)); exact BK394.out) hb); have n3_ := Aside0.mk (below_step (bz1 HB.out GE394.out) hb); clear HO391; clear BK394; clear HB; have HO391 := n0_; have HO397 := n1_; have BK394 := n2_; have HB := n3_; clear n0_ n1_ n2_ n3_; (try clear hb); (try clear hb2); (try clear hk); (try clear hi); (try clear ho0); obtain ⟨Ao56, co56, eo56⟩ := Kd.R_slice HO397.out; subst eo56) | ((with_reducible refine gate_callee (f := 29) rfl ?_); refine goesL_ (some 22) rfl rfl Tryd.func29 (by kernel_rfl) rfl #[.slice Ao56 t395.length co56, .int .i64 a1] rfl lz ?_; (with_reducible refine (impl_BinderOf.calls k _ _ t395 a1 t398 t399 _ ?side1 ?side2 A9.out).mono ?_); (case side1 => exact cz (Kd.R_reads' HO397.out).2.2); (case side2 => exact (Kd.R_reads' HO397.out).2.1); rintro e w57 ⟨rfl, hb⟩; refine ⟨_, rfl, ?_⟩; have n0_ := Aside0.mk (Kd.R_below (rz HO391.out) hb); have n1_ := Aside0.mk (Kd.R_below (rz HO397.out) hb); have n2_ := Aside0.mk (blk_below (g := gb394) (o := .cells #[.int .i64 t392, .int .i64 t393] 37 (0, 0)) (kz BK394.out) hb); have n3_ := Aside0.mk (below_step (bz1 HB.out GE394.out) hb); clear HO391; clear HO397; clear BK394; clear HB; have HO391 := n0_; have HO397 := n1_; have BK394 := n2_; have HB := n3_; clear n0_ n1_ n2_ n3_; (try clear hb); (try clear hb2); (try clear hk); (try clear hi)) | ((with_reducible refine gate_dst (N := 8) rfl ?_); refine box_event ?hg (N := 8) ?hd (cs := #[.int .i64 0, .int .i64 0]) (t := 37) ?hr ?_; (case hd => rfl); (case hg => rfl); (case hr => first | (go_simp; done) | (go_simp; rfl)); intro gb400 hg w58 hbox hb; have n0_ := Aside0.mk (Kd.R_below (rz HO391.out) hb); have n1_ := Aside0.mk (Kd.R_below (rz HO397.out) hb); have n2_ := Aside0.mk (blk_below (g := gb394) (o := .cells #[.int .i64 t392, .int .i64 t393] 37 (0, 0)) (kz BK394.out) hb); have n3_ := Aside0.mk (below_step (bz1 HB.out GE394.out) hb); have n4_ := Aside0.mk (hbox); have n5_ := Aside0.mk ((by rw [hg]; exact (below_size (bz1 HB.out GE394.out)) : w.heap.size ≤ gb400)); have n6_ := Aside0.mk ((by rw [hg]; exact (below_size (bz1 HB.out GE394.out)) : w.heap.size ≤ gb400)); have n7_ := Aside0.mk ((by rw [hg]; exact Nat.ne_of_lt (blk_lt (g := gb394) (o := .cells #[.int .i64 t392, .int .i64 t393] 37 (0, 0)) (kz BK394.out)) : gb394 ≠ gb400)); have n8_ := Aside0.mk ((by rw [hg]; exact Nat.ne_of_gt (blk_lt (g := gb394) (o := .cells #[.int .i64 t392, .int .i64 t393] 37 (0, 0)) (kz BK394.out)) : gb400 ≠ gb394)); clear HO391; clear HO397; clear BK394; clear HB; have HO391 := n0_; have HO397 := n1_; have BK394 := n2_; have HB := n3_; have BK400 := n4_; have GW400 := n5_; have GE400 := n6_; have NB394_400 := n7_; have NB400_394 := n8_; clear n0_ n1_ n2_ n3_ n4_ n5_ n6_ n7_ n8_; clear hb hbox hg; have hnb59 := NB400_394.out; have hnc59 := NB394_400.out; have hcz60_0 : w58.cell? ⟨gb400, 0, none⟩ = some (.int .i64 0) := (blk_cell BK400.out 0).trans rfl; have hcz60_1 : w58.cell? ⟨gb400, 1, none⟩ = some (.int .i64 0) := (blk_cell BK400.out 1).trans rfl; have hfz60_0 := blk_frozen BK400.out 0; have hfz60_1 := blk_frozen BK400.out 1; have hcz61_0 : w58.cell? ⟨gb394, 0, none⟩ = some (.int .i64 t392) := (blk_cell BK394.out 0).trans rfl; have hcz61_1 : w58.cell? ⟨gb394, 1, none⟩ = some (.int .i64 t393) := (blk_cell BK394.out 1).trans rfl; have hfz61_0 := blk_frozen BK394.out 0; have hfz61_1 := blk_frozen BK394.out 1) | ((with_reducible refine gate_callee (f := 30) rfl ?_); refine goesL_ (some 25) rfl rfl Tryd.func30 (by kernel_rfl) rfl #[.agg #[.int .i64 t398, .int .i64 t399], .agg #[.int .i64 t392, .int .i64 t393]] rfl lz ?_; (with_reducible refine (laws_eqBind.calls t398 t399 t392 t393 false _ A10.out).mono ?_); rintro e w62 ⟨rfl, hb⟩; refine ⟨_, rfl, ?_⟩; have n0_ := Aside0.mk (Kd.R_below (by (with_reducible repeat (first | apply Kd.R_alloc | apply Kd.R_drewN | apply Kd.R_drew)); exact (Kd.R_mono (Kd.R_far (p := ⟨gb400, 1, none⟩) (Kd.R_far (p := ⟨gb400, 0, none⟩) (Kd.R_types HO391.out BK400.out (by decide)) (fun _ hk => hk.2) (.int .i64 t398)) (fun _ hk => hk.2) (.int .i64 t399)) (fun _ h_ => h_.1))) hb); have n1_ := Aside0.mk (Kd.R_below (by (with_reducible repeat (first | apply Kd.R_alloc | apply Kd.R_drewN | apply Kd.R_drew)); exact (Kd.R_mono (Kd.R_far (p := ⟨gb400, 1, none⟩) (Kd.R_far (p := ⟨gb400, 0, none⟩) (Kd.R_types HO397.out BK400.out (by decide)) (fun _ hk => hk.2) (.int .i64 t398)) (fun _ hk => hk.2) (.int .i64 t399)) (fun _ h_ => h_.1))) hb); have n2_ := Aside0.mk (blk_below (g := gb394) (o := .cells #[.int .i64 t392, .int .i64 t393] 37 (0, 0)) (by (with_reducible repeat (first | refine blk_drewN ?_ _ | refine blk_drew ?_ | refine blk_alloc ?_ _)); refine blk_far ?_ NB394_400.out _; (with_reducible repeat (first | refine blk_drewN ?_ _ | refine blk_drew ?_ | refine blk_alloc ?_ _)); refine blk_far ?_ NB394_400.out _; (with_reducible repeat (first | refine blk_drewN ?_ _ | refine blk_drew ?_ | refine blk_alloc ?_ _)); exact BK394.out) hb); have n3_ := Aside0.mk (blk_below (g := gb400) (o := .cells #[.int .i64 t398, .int .i64 t399] 37 (0, 0)) (by (with_reducible repeat (first | refine blk_drewN ?_ _ | refine blk_drew ?_ | refine blk_alloc ?_ _)); refine blk_put (cs := #[.int .i64 t398, .int .i64 0]) ?_ 1 _ rfl; (with_reducible repeat (first | refine blk_drewN ?_ _ | refine blk_drew ?_ | refine blk_alloc ?_ _)); refine blk_put (cs := #[.int .i64 0, .int .i64 0]) ?_ 0 _ rfl; (with_reducible repeat (first | refine blk_drewN ?_ _ | refine blk_drew ?_ | refine blk_alloc ?_ _)); exact BK400.out) hb); have n4_ := Aside0.mk (below_step (bz2 HB.out GE394.out GE400.out) hb); clear HO391; clear HO397; clear BK394; clear BK400; clear HB; have HO391 := n0_; have HO397 := n1_; have BK394 := n2_; have BK400 := n3_; have HB := n4_; clear n0_ n1_ n2_ n3_ n4_; (try clear hb); (try clear hb2); (try clear hk); (try clear hi)))
   go_ret
   exact ⟨gz, (bz2 HB.out GE394.out GE400.out)⟩
end Go.Proofs.YthmkeimngfboiaaDoor.PFnExactBinderOf
