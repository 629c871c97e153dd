/- PFnExactFreeNamesx15, of the words and walks that the law FnExactFreeNames needs; made by this session's program out of printed texts. -/

import Derived.Test.YtmilegjmiiccdaaDoorVEFreeNamesPx0
import Derived.Test.YtmilegjmiiccdaaDoorVEFreeNamesPx12
import Derived.Test.YtmilegjmiiccdaaDoorVEFreeNamesPx13
import Derived.Test.YtmilegjmiiccdaaDoorVEFreeNamesPx14
namespace Go.Proofs.YtmilegjmiiccdaaDoor.PFnExactFreeNames
open Go.RowKit Go.Proofs.YtmilegjmiiccdaaDoorW.PrintWords Go.Proofs.YtmilegjmiiccdaaDoorW.PrintLast Go.Proofs.YtmilegjmiiccdaaDoorW.PrintMore
attribute [local go_sem] max2_int min2_int max_two min_two max_three min_three max_four min_four
set_option linter.unusedVariables false
set_option linter.unusedSimpArgs false
mutual
def impl_binderOf.l0 : Nat → List (S43) → List Int → Int → ByteArray → Option (Int × Int)
 | 0, _, _, _, _ => none
 | k + 1, x0, x1, x2, x3 => if 0 ≤ x2 then (if x2 < (x1.length : Int) then (if (rd x1 x2) ≥ 0 then (if 0 ≤ (rd x1 x2) then (if (rd x1 x2) < (x0.length : Int) then ((impl_bindsIn.f k ((rd_T43 x0 (rd x1 x2)).f0) ((rd_T43 x0 (rd x1 x2)).f1) ((rd_T43 x0 (rd x1 x2)).f2) ((rd_T43 x0 (rd x1 x2)).f3) ((rd_T43 x0 (rd x1 x2)).f4) ((rd_T43 x0 (rd x1 x2)).f5) ((rd_T43 x0 (rd x1 x2)).f6) x2).bind fun bt416 => (impl_binderOf.l1 k x0 x1 x2 x3 bt416.2 bt416.1 (bt416.1.length : Int) 0)) else (none)) else (none)) else (some ((-1), (-1)))) else (none)) else (none)
def impl_binderOf.l1 : Nat → List (S43) → List Int → Int → ByteArray → List Int → List ByteArray → Int → Int → Option (Int × Int)
 | 0, _, _, _, _, _, _, _, _ => none
 | k + 1, x0, x1, x2, x3, x10, x30, x31, x32 => if x32 < x31 then (if 0 ≤ x32 then (if x32 < (x30.length : Int) then (if (rdOf ByteArray.empty x30 x32).toList = x3.toList then (if 0 ≤ x2 then (if x2 < (x1.length : Int) then (if x32 < (x10.length : Int) then (some (rd x1 x2, rd x10 x32)) else (none)) else (none)) else (none)) else (impl_binderOf.l1 k x0 x1 x2 x3 x10 x30 x31 (wrap64 (x32 + 1)))) else (none)) else (none)) else (if 0 ≤ x2 then (if x2 < (x1.length : Int) then (impl_binderOf.l0 k x0 x1 (rd x1 x2) x3) else (none)) else (none))
end
def impl_binderOf.f (k : Nat) (l0 : List (S43)) (l1 : List Int) (a2 : Int) (a3 : ByteArray) : Option (Int × Int) := impl_binderOf.l0 k l0 l1 a2 a3
theorem impl_binderOf.mono_l : ∀ k, (∀ y0 y1 y2 y3, LeO (impl_binderOf.l0 k y0 y1 y2 y3) (impl_binderOf.l0 (k + 1) y0 y1 y2 y3)) ∧ (∀ y0 y1 y2 y3 y4 y5 y6 y7, LeO (impl_binderOf.l1 k y0 y1 y2 y3 y4 y5 y6 y7) (impl_binderOf.l1 (k + 1) y0 y1 y2 y3 y4 y5 y6 y7))
 | 0 => ⟨fun _ _ _ _ r h => by simp [impl_binderOf.l0] at h, fun _ _ _ _ _ _ _ _ r h => by simp [impl_binderOf.l1] at h⟩
 | k + 1 => by
  obtain ⟨ih0, ih1⟩ := impl_binderOf.mono_l k
  refine ⟨?_, ?_⟩
  ·intro y0 y1 y2 y3
   unfold impl_binderOf.l0
   repeat' first
   | (with_reducible exact ih0 _ _ _ _)
   | (with_reducible exact ih1 _ _ _ _ _ _ _ _)
   | (with_reducible exact impl_bindsIn.mono _ _ _ _ _ _ _ _ _)
   | (with_reducible exact LeO.refl _)
   | (with_reducible exact LeO.none _)
   | (with_reducible refine LeO.ite ?_ ?_)
   | (with_reducible refine LeO.bind ?_ (fun _ => ?_))
   | exact ih0 _ _ _ _
   | exact ih1 _ _ _ _ _ _ _ _
   | exact impl_bindsIn.mono _ _ _ _ _ _ _ _ _
   | exact LeO.none _
   | refine LeO.ite ?_ ?_
   | refine LeO.bind ?_ (fun _ => ?_)
  ·intro y0 y1 y2 y3 y4 y5 y6 y7
   unfold impl_binderOf.l1
   repeat' first
   | (with_reducible exact ih0 _ _ _ _)
   | (with_reducible exact ih1 _ _ _ _ _ _ _ _)
   | (with_reducible exact impl_bindsIn.mono _ _ _ _ _ _ _ _ _)
   | (with_reducible exact LeO.refl _)
   | (with_reducible exact LeO.none _)
   | (with_reducible refine LeO.ite ?_ ?_)
   | (with_reducible refine LeO.bind ?_ (fun _ => ?_))
   | exact ih0 _ _ _ _
   | exact ih1 _ _ _ _ _ _ _ _
   | exact impl_bindsIn.mono _ _ _ _ _ _ _ _ _
   | exact LeO.none _
   | refine LeO.ite ?_ ?_
   | refine LeO.bind ?_ (fun _ => ?_)
theorem impl_binderOf.mono : ∀ a0 a1 a2 a3 k, LeO (impl_binderOf.f k a0 a1 a2 a3) (impl_binderOf.f (k + 1) a0 a1 a2 a3) := by
 intro a0 a1 a2 a3 k
 obtain ⟨ih0, ih1⟩ := impl_binderOf.mono_l k
 unfold impl_binderOf.f
 repeat' first
   | (with_reducible exact ih0 _ _ _ _)
   | (with_reducible exact ih1 _ _ _ _ _ _ _ _)
   | (with_reducible exact impl_bindsIn.mono _ _ _ _ _ _ _ _ _)
   | (with_reducible exact LeO.refl _)
   | (with_reducible exact LeO.none _)
   | (with_reducible refine LeO.ite ?_ ?_)
   | (with_reducible refine LeO.bind ?_ (fun _ => ?_))
   | exact ih0 _ _ _ _
   | exact ih1 _ _ _ _ _ _ _ _
   | exact impl_bindsIn.mono _ _ _ _ _ _ _ _ _
   | exact LeO.none _
   | refine LeO.ite ?_ ?_
   | refine LeO.bind ?_ (fun _ => ?_)
def impl_binderOf.T7 : Bool × List (List Nat × List Nat) := (true, [([], []), ([], []), ([0, 1], [0, 1]), ([2], [2]), ([], []), ([], []), ([4, 5], [4, 5]), ([6], [6]), ([3, 7], [3, 7]), ([8, 0, 1, 2, 3, 4, 5, 6, 7, 8], [8])])
def impl_binderOf.B7 : List Nat := [0, 0, 3, 7, 0, 0, 48, 112, 255, 511]
theorem impl_binderOf.tab7 : rtab .any (opsOf Tryd.f77 7) = impl_binderOf.T7 := by kernel_rfl
theorem impl_binderOf.bits7 : waitsOk impl_binderOf.T7.2 impl_binderOf.B7 = true := by kernel_rfl
set_option maxHeartbeats 8000000 in
set_option maxRecDepth 100000 in
theorem impl_binderOf.calls (k : Nat) (A0 : Option Addr) (c0 : Nat) (l0 : List (S43)) (A1 : Option Addr) (c1 : Nat) (l1 : List Int) (a2 : Int) (a3 : ByteArray) (r1 : Int) (r2 : Int) (w : World) (hr0 : Kd.C k43 w A0 l0.length l0) (hc0 : l0.length ≤ c0) (hr1 : Kd.C (Kd.int .i64) w A1 l1.length l1) (hc1 : l1.length ≤ c1) (h : impl_binderOf.f k l0 l1 a2 a3 = some (r1, r2)) :
  Calls Tryd.prog 77 #[.slice A0 l0.length c0, .slice A1 l1.length c1, .int .i64 a2, .string a3] w fun e w' => e = .returned (.agg #[.int .i64 r1, .int .i64 r2]) ∧ Below w.heap.size w w' := by
 have hu55 := Tryd.underlying55
 have hu43 := Tryd.underlying43
 have HR0 := Aside0.mk hr0
 have HC0 := Aside0.mk hc0
 clear hr0 hc0
 have HR1 := Aside0.mk hr1
 have HC1 := Aside0.mk hc1
 clear hr1 hc1
 have HB := Aside0.mk (Below.refl w.heap.size w)
 have H : (impl_binderOf.l0 k l0 l1 a2 a3) = some (r1, r2) := h
 clear h
 have H' := Aside0.mk H
 clear H
 go_enter Tryd.func77, Tryd.ntmps77
 go_wp2_with (first | ((with_reducible refine gate_dst (N := 8) rfl ?_); refine box_event ?hg (N := 8) ?hd (cs := #[.int .i64 0, .int .i64 0]) (t := 55) ?hr ?_; (case hd => rfl); (case hg => rfl); (case hr => first | (go_simp; done) | (go_simp; rfl)); intro gb412 hg w5 hbox hb; have n0_ := Aside0.mk (below_step (bz0 HB.out) hb); have n1_ := Aside0.mk (hbox); have n2_ := Aside0.mk ((by rw [hg]; exact (below_size (bz0 HB.out)) : w.heap.size ≤ gb412)); have n3_ := Aside0.mk ((by rw [hg]; exact (below_size (bz0 HB.out)) : w.heap.size ≤ gb412)); clear HB; have HB := n0_; have BK412 := n1_; have GW412 := n2_; have GE412 := n3_; clear n0_ n1_ n2_ n3_; clear hb hbox hg))
 (try simp only [Act.put, List.setIfInBounds_toArray, List.set_cons_zero, List.set_cons_succ])
 go_loopg [2] k (fun kq v2 w' => ∃ (x2_1 : Int) (x413000_1 : Int) (x413001_1 : Int), v2 = .int .i64 x2_1 ∧ Aside0 (impl_binderOf.l0 kq l0 l1 x2_1 a3 = some (r1, r2)) ∧ Aside0 (kq ≤ k) ∧ Aside0 (w'.heap[gb412]? = some (.cells #[.int .i64 x413000_1, .int .i64 x413001_1] 55 (0, 0))) ∧ Aside0 (Below w.heap.size w w'))
 case atStart => exact ⟨(a2), (0), (0), ez, H', ⟨Nat.le_refl _⟩, ⟨by (with_reducible repeat (first | refine blk_drewN ?_ _ | refine blk_drew ?_ | refine blk_alloc ?_ _)); exact BK412.out⟩, ⟨(bz1 HB.out GE412.out)⟩⟩
 case round =>
  clear H'
  try clear c1
  try clear p2
  obtain ⟨x2_1, x413000_1, x413001_1, rfl, HA, HK1, BK412, HB⟩ := hrel
  cases gk with
  | zero => exact absurd HA.out (by simp [impl_binderOf.l0])
  | succ k1 =>
   have H := HA.out
   clear HA
   simp only [impl_binderOf.l0] at H
   by_cases c6 : 0 ≤ x2_1
   ·rw [if_pos c6] at H
    have c6b0 : decide (0 ≤ x2_1) = true := decide_eq_true c6
    clear c6
    by_cases c7 : x2_1 < (l1.length : Int)
    ·rw [if_pos c7] at H
     have c7b0 : decide (x2_1 < (l1.length : Int)) = true := decide_eq_true c7
     clear c7
     by_cases c8 : (rd l1 x2_1) ≥ 0
     ·rw [if_pos c8] at H
      have c8b0 : decide (0 ≤ (rd l1 x2_1)) = true := decide_eq_true c8
      clear c8
      by_cases c9 : 0 ≤ (rd l1 x2_1)
      ·rw [if_pos c9] at H
       have c9b0 : decide (0 ≤ (rd l1 x2_1)) = true := decide_eq_true c9
       clear c9
       by_cases c10 : (rd l1 x2_1) < (l0.length : Int)
       ·rw [if_pos c10] at H
        have c10b0 : decide ((rd l1 x2_1) < (l0.length : Int)) = true := decide_eq_true c10
        clear c10
        replace H := Option.bind_eq_some_iff.mp H
        obtain ⟨⟨t416, t419⟩, A110, H⟩ := H
        replace H : (impl_binderOf.l1 k1 l0 l1 x2_1 a3 t419 t416 (t416.length : Int) 0) = some (r1, r2) := H
        have A11 := Aside0.mk A110
        clear A110
        have H' := Aside0.mk H
        clear H
        have p413 : 0 ≤ (x2_1 : Int) := of_decide_eq_true az
        have q413 : x2_1 < (l1.length : Int) := of_decide_eq_true az
        obtain ⟨ad413, e413, hx413_0⟩ := Kd.at_int HR1.out x2_1 p413 q413
        cases e413
        replace hx413_0 := hz HB.out hx413_0
        replace p413 := eq_true p413
        replace q413 := eq_true q413
        have p414 : 0 ≤ (x2_1 : Int) := of_decide_eq_true az
        have q414 : x2_1 < (l1.length : Int) := of_decide_eq_true az
        obtain ⟨ad414, e414, hx414_0⟩ := Kd.at_int HR1.out x2_1 p414 q414
        obtain rfl : ad413 = ad414 := (by injection e414)
        replace hx414_0 := hz HB.out hx414_0
        replace p414 := eq_true p414
        replace q414 := eq_true q414
        have p415 : 0 ≤ ((rd l1 x2_1) : Int) := of_decide_eq_true az
        have q415 : (rd l1 x2_1) < (l0.length : Int) := of_decide_eq_true az
        obtain ⟨ad415, e415, hx415_0, hx415_1, hx415_2, hx415_3, hx415_4, hx415_5, hx415_6⟩ := at_T43 HR0.out (rd l1 x2_1) p415 q415
        cases e415
        replace hx415_0 := hz HB.out hx415_0
        replace hx415_1 := hz HB.out hx415_1
        replace hx415_2 := hz HB.out hx415_2
        replace hx415_3 := hz HB.out hx415_3
        replace hx415_4 := hz HB.out hx415_4
        replace hx415_5 := hz HB.out hx415_5
        replace hx415_6 := hz HB.out hx415_6
        replace p415 := eq_true p415
        replace q415 := eq_true q415
        go_wp2_with (first | ((with_reducible refine gate_callee (f := 46) rfl ?_); refine goesL_ (some 27) rfl rfl Tryd.func46 (by kernel_rfl) rfl #[.agg #[.int .i64 ((rd_T43 l0 (rd l1 x2_1)).f0), .int .i64 ((rd_T43 l0 (rd l1 x2_1)).f1), .int .i64 ((rd_T43 l0 (rd l1 x2_1)).f2), .int .i64 ((rd_T43 l0 (rd l1 x2_1)).f3), .int .i64 ((rd_T43 l0 (rd l1 x2_1)).f4), .string ((rd_T43 l0 (rd l1 x2_1)).f5), .string ((rd_T43 l0 (rd l1 x2_1)).f6)], .int .i64 x2_1] rfl lz ?_; (with_reducible refine (impl_bindsIn.calls k1 ((rd_T43 l0 (rd l1 x2_1)).f0) ((rd_T43 l0 (rd l1 x2_1)).f1) ((rd_T43 l0 (rd l1 x2_1)).f2) ((rd_T43 l0 (rd l1 x2_1)).f3) ((rd_T43 l0 (rd l1 x2_1)).f4) ((rd_T43 l0 (rd l1 x2_1)).f5) ((rd_T43 l0 (rd l1 x2_1)).f6) x2_1 t416 t419 _ A11.out).mono ?_); rintro e w12 ⟨v417, v420, rfl, ho0, ho1, hb⟩; refine ⟨_, rfl, ?_⟩; have n0_ := Aside0.mk (Kd.R_lower ho0 (below_size (bz1 HB.out GE412.out))); have n1_ := Aside0.mk (Kd.R_lower ho1 (below_size (bz1 HB.out GE412.out))); have n2_ := Aside0.mk (blk_below (g := gb412) (o := .cells #[.int .i64 x413000_1, .int .i64 x413001_1] 55 (0, 0)) (kz BK412.out) hb); have n3_ := Aside0.mk (below_step (bz1 HB.out GE412.out) hb); clear BK412; clear HB; have HO418 := n0_; have HO421 := n1_; have BK412 := n2_; have HB := n3_; clear n0_ n1_ n2_ n3_; (try clear hb); (try clear hb2); (try clear hk); (try clear hi); (try clear ho0); (try clear ho1); obtain ⟨Ao13, co13, eo13⟩ := Kd.R_slice HO418.out; subst eo13))
        go_loopg [32] k1 (fun kq v32 w' => ∃ (x32_2 : Int) (x413000_2 : Int) (x413001_2 : Int), v32 = .int .i64 x32_2 ∧ Aside0 (impl_binderOf.l1 kq l0 l1 x2_1 a3 t419 t416 (t416.length : Int) x32_2 = some (r1, r2)) ∧ Aside0 (kq ≤ k1) ∧ Aside0 (Kd.R (Kd.int .i64) 3 w' w.heap.size (fun _ => True) v420 t419) ∧ Aside0 (Kd.R Kd.string 9 w' w.heap.size (fun _ => True) (.slice Ao13 t416.length co13) t416) ∧ Aside0 (w'.heap[gb412]? = some (.cells #[.int .i64 x413000_2, .int .i64 x413001_2] 55 (0, 0))) ∧ Aside0 (Below w.heap.size w w'))
        case atStart => exact ⟨(0), (x413000_1), (x413001_1), ez, H', ⟨Nat.le_refl _⟩, ⟨by (with_reducible repeat (first | apply Kd.R_alloc | apply Kd.R_drewN | apply Kd.R_drew)); exact HO421.out⟩, ⟨by (with_reducible repeat (first | apply Kd.R_alloc | apply Kd.R_drewN | apply Kd.R_drew)); exact HO418.out⟩, ⟨by (with_reducible repeat (first | refine blk_drewN ?_ _ | refine blk_drew ?_ | refine blk_alloc ?_ _)); exact BK412.out⟩, ⟨(bz1 HB.out GE412.out)⟩⟩
        case round =>
         clear H'
         try clear c1
         try clear p2
         try clear c4
         try clear p4
         try clear q4
         try clear hx4
         try clear c6
         try clear c6b0
         try clear c7
         try clear c7b0
         try clear c8
         try clear c8b0
         try clear c9
         try clear c9b0
         try clear c10
         try clear c10b0
         try clear hx413_0
         try clear hx414_0
         try clear hx415_0
         try clear hx415_1
         try clear hx415_2
         try clear hx415_3
         try clear hx415_4
         try clear hx415_5
         try clear hx415_6
         try clear p2
         try clear p413
         try clear p414
         try clear p415
         try clear q413
         try clear q414
         try clear q415
         obtain ⟨x32_2, x413000_2, x413001_2, rfl, HA, HK2, HO_10, HO_30, BK412, HB⟩ := hrel
         cases gk with
         | zero => exact absurd HA.out (by simp [impl_binderOf.l1])
         | succ k2 =>
          have H := HA.out
          clear HA
          simp only [impl_binderOf.l1] at H
          by_cases c14 : x32_2 < (t416.length : Int)
          ·rw [if_pos c14] at H
           have c14b0 : decide (x32_2 < (t416.length : Int)) = true := decide_eq_true c14
           clear c14
           by_cases c15 : 0 ≤ x32_2
           ·rw [if_pos c15] at H
            have c15b0 : decide (0 ≤ x32_2) = true := decide_eq_true c15
            clear c15
            by_cases c16 : x32_2 < (t416.length : Int)
            ·rw [if_pos c16] at H
             have c16b0 : decide (x32_2 < (t416.length : Int)) = true := decide_eq_true c16
             clear c16
             by_cases c17 : (rdOf ByteArray.empty t416 x32_2).toList = a3.toList
             ·rw [if_pos c17] at H
              have c17b0 : ((rdOf ByteArray.empty t416 x32_2).toList == a3.toList) = true := beq_iff_eq.mpr c17
              have c17b1 : ((rdOf ByteArray.empty t416 x32_2).toList != a3.toList) = false := bne_eq_false_iff_eq.mpr c17
              clear c17
              by_cases c18 : 0 ≤ x2_1
              ·rw [if_pos c18] at H
               have c18b0 : decide (0 ≤ x2_1) = true := decide_eq_true c18
               clear c18
               by_cases c19 : x2_1 < (l1.length : Int)
               ·rw [if_pos c19] at H
                have c19b0 : decide (x2_1 < (l1.length : Int)) = true := decide_eq_true c19
                clear c19
                by_cases c20 : x32_2 < (t419.length : Int)
                ·rw [if_pos c20] at H
                 have c20b0 : decide (x32_2 < (t419.length : Int)) = true := decide_eq_true c20
                 clear c20
                 simp only [Option.some.injEq, Prod.mk.injEq] at H
                 obtain ⟨rfl, rfl⟩ := H
                 have p422 : 0 ≤ (x32_2 : Int) := of_decide_eq_true az
                 have q422 : x32_2 < (t416.length : Int) := of_decide_eq_true az
                 obtain ⟨ad422, e422, hx422_0⟩ := Kd.at_string (Kd.R_reads' HO_30.out).2.2 x32_2 p422 q422
                 cases e422
                 replace p422 := eq_true p422
                 replace q422 := eq_true q422
                 try go_wp2
                 have n0_ := Aside0.mk (Kd.R_drew HO_10.out)
                 have n1_ := Aside0.mk (Kd.R_drew HO_30.out)
                 have n2_ := Aside0.mk (blk_drew BK412.out)
                 have n3_ := Aside0.mk (below_drew1 HB.out)
                 clear HO_10
                 clear HO_30
                 clear BK412
                 clear HB
                 have HO_10 := n0_
                 have HO_30 := n1_
                 have BK412 := n2_
                 have HB := n3_
                 clear n0_ n1_ n2_ n3_
                 have p423 : 0 ≤ (x2_1 : Int) := of_decide_eq_true az
                 have q423 : x2_1 < (l1.length : Int) := of_decide_eq_true az
                 obtain ⟨ad423, e423, hx423_0⟩ := Kd.at_int HR1.out x2_1 p423 q423
                 have hw423_0 := hx423_0
                 obtain rfl : ad413 = ad423 := (by injection e423)
                 replace hx423_0 := hz HB.out hx423_0
                 replace p423 := eq_true p423
                 replace q423 := eq_true q423
                 obtain ⟨Ao22, co22, eo22⟩ := Kd.R_slice HO_10.out
                 (first | subst eo22 | (injection eo22 with f1_ f2_ f3_; have f4_ := f1_.symm; have f5_ := f3_.symm; clear f1_ f2_ f3_; subst f4_; subst f5_))
                 have p424 : 0 ≤ (x32_2 : Int) := of_decide_eq_true az
                 have q424 : x32_2 < (t419.length : Int) := of_decide_eq_true az
                 obtain ⟨ad424, e424, hx424_0⟩ := Kd.at_int (Kd.R_reads' HO_10.out).2.2 x32_2 p424 q424
                 cases e424
                 replace p424 := eq_true p424
                 replace q424 := eq_true q424
                 refine start_ (n := 10) (S := fun w' => w'.cell? (ad413.add (x2_1).toNat) = some (.int .i64 (rd l1 x2_1)) ∧ w'.cell? (ad424.add (x32_2).toNat) = some (.int .i64 (rd t419 x32_2))) (ds := []) #[false, false, false, false, false, false, false, false, false, false] (by kernel_rfl) rfl rfl ⟨(hz HB.out hw423_0), hx424_0⟩ (fun hHeld => ?_); refine with_tabW impl_binderOf.tab7 impl_binderOf.bits7 (fun HT_ HW_ => ?_)
                 generalize wr.drew = w21 at HO_10 HO_30 BK412 HB hx423_0 hx424_0 hHeld ⊢
                 refine pure_ (i := 0) (N := some 40) (v := ?_) (a' := ?_) #[true, false, false, false, false, false, false, false, false, false] rfl rfl (any_of HT_.out (by kernel_rfl)) (fun _ _ _ h => h) (Or.inl ⟨by rfl, ?_⟩) ?_ ?_
                 rotate_left
                 ·intro w'
                  go_simp
                  with_reducible rfl
                 rotate_left
                 ·simp only [Act.put, List.setIfInBounds_toArray, List.set_cons_zero, List.set_cons_succ, i64_w, i32_w]
                  rfl
                 refine pure_ (i := 1) (N := some 41) (v := ?_) (a' := ?_) #[true, true, false, false, false, false, false, false, false, false] rfl rfl (any_of HT_.out (by kernel_rfl)) (fun _ _ _ h => h) (Or.inl ⟨by rfl, ?_⟩) ?_ ?_
                 rotate_left
                 ·intro w'
                  go_simp
                  with_reducible rfl
                 rotate_left
                 ·simp only [Act.put, List.setIfInBounds_toArray, List.set_cons_zero, List.set_cons_succ, i64_w, i32_w]
                  rfl
                 refine pure_ (i := 2) (N := some 42) (v := ?_) (a' := ?_) #[true, true, true, false, false, false, false, false, false, false] rfl rfl (any_of HT_.out (by kernel_rfl)) (fun _ _ _ h => h) (Or.inl ⟨by rfl, ?_⟩) ?_ ?_
                 rotate_left
                 ·intro w'
                  go_simp
                  with_reducible rfl
                 rotate_left
                 ·simp only [Act.put, List.setIfInBounds_toArray, List.set_cons_zero, List.set_cons_succ, i64_w, i32_w]
                  rfl
                 refine pure_ (i := 4) (N := some 44) (v := ?_) (a' := ?_) #[true, true, true, false, true, false, false, false, false, false] rfl rfl (any_of HT_.out (by kernel_rfl)) (fun _ _ _ h => h) (Or.inl ⟨by rfl, ?_⟩) ?_ ?_
                 rotate_left
                 ·intro w'
                  go_simp
                  with_reducible rfl
                 rotate_left
                 ·simp only [Act.put, List.setIfInBounds_toArray, List.set_cons_zero, List.set_cons_succ, i64_w, i32_w]
                  rfl
                 refine pure_ (i := 5) (N := some 45) (v := ?_) (a' := ?_) #[true, true, true, false, true, true, false, false, false, false] rfl rfl (any_of HT_.out (by kernel_rfl)) (fun _ _ _ h => h) (Or.inl ⟨by rfl, ?_⟩) ?_ ?_
                 rotate_left
                 ·intro w'
                  go_simp
                  with_reducible rfl
                 rotate_left
                 ·simp only [Act.put, List.setIfInBounds_toArray, List.set_cons_zero, List.set_cons_succ, i64_w, i32_w]
                  rfl
                 refine pure_ (i := 6) (N := some 46) (v := ?_) (a' := ?_) #[true, true, true, false, true, true, true, false, false, false] rfl rfl (any_of HT_.out (by kernel_rfl)) (fun _ _ _ h => h) (Or.inl ⟨by rfl, ?_⟩) ?_ ?_
                 rotate_left
                 ·intro w'
                  go_simp
                  with_reducible rfl
                 rotate_left
                 ·simp only [Act.put, List.setIfInBounds_toArray, List.set_cons_zero, List.set_cons_succ, i64_w, i32_w]
                  rfl
                 refine take_ (i := 3) (N := some 43) (v := ?_) (a' := ?_) #[true, true, true, true, true, true, true, false, false, false] rfl rfl (take_ofW HT_.out HW_.out (by kernel_rfl)) (fun _ _ _ h => h) (Or.inl ⟨by rfl, ?_⟩) hHeld ?_ ?_
                 rotate_left
                 ·rintro w' ⟨s0, s1⟩
                  go_simp
                  with_reducible rfl
                 rotate_left
                 ·simp only [Act.put, List.setIfInBounds_toArray, List.set_cons_zero, List.set_cons_succ, i64_w, i32_w]
                  rfl
                 refine take_ (i := 7) (N := some 47) (v := ?_) (a' := ?_) #[true, true, true, true, true, true, true, true, false, false] rfl rfl (take_ofW HT_.out HW_.out (by kernel_rfl)) (fun _ _ _ h => h) (Or.inl ⟨by rfl, ?_⟩) hHeld ?_ ?_
                 rotate_left
                 ·rintro w' ⟨s0, s1⟩
                  go_simp
                  with_reducible rfl
                 rotate_left
                 ·simp only [Act.put, List.setIfInBounds_toArray, List.set_cons_zero, List.set_cons_succ, i64_w, i32_w]
                  rfl
                 refine pure_ (i := 8) (N := some 48) (v := ?_) (a' := ?_) #[true, true, true, true, true, true, true, true, true, false] rfl rfl (any_of HT_.out (by kernel_rfl)) (fun _ _ _ h => h) (Or.inl ⟨by rfl, ?_⟩) ?_ ?_
                 rotate_left
                 ·intro w'
                  go_simp
                  with_reducible rfl
                 rotate_left
                 ·simp only [Act.put, List.setIfInBounds_toArray, List.set_cons_zero, List.set_cons_succ, i64_w, i32_w]
                  rfl
                 refine one_ (i := 9) (N := none) #[true, true, true, true, true, true, true, true, true, true] rfl rfl (one_of HT_.out (by kernel_rfl)) (by decide) (fun K hK => ?_)
                 have hs23 : w21.cell? ⟨gb412, 0, none⟩ = some (.int .i64 x413000_2) := (blk_cell BK412.out 0).trans rfl
                 have hfs23 := blk_frozen BK412.out 0
                 have hs24 : w21.cell? ⟨gb412, 1, none⟩ = some (.int .i64 x413001_2) := (blk_cell BK412.out 1).trans rfl
                 have hfs24 := blk_frozen BK412.out 1
                 refine skip_ (w1 := ?_) (by rfl) rfl ?_ ?_
                 rotate_left
                 ·go_simp
                  rfl
                 refine hK.out _ _ ⟨((cell_far (p := ⟨gb412, _, none⟩) (by first | exact Nat.ne_of_lt (Nat.lt_of_lt_of_le (by have := World.block_lt_of_cell? _ _ hw423_0; first | rwa [add_block] at this | exact this) GW412.out) | (rw [add_block]; exact Nat.ne_of_lt (Nat.lt_of_lt_of_le (by have := World.block_lt_of_cell? _ _ hw423_0; first | rwa [add_block] at this | exact this) GW412.out)) | (show (Addr.add _ _).block ≠ _; rw [add_block]; exact Nat.ne_of_lt (Nat.lt_of_lt_of_le (by have := World.block_lt_of_cell? _ _ hw423_0; first | rwa [add_block] at this | exact this) GW412.out)) | (dsimp only; exact Nat.ne_of_lt (Nat.lt_of_lt_of_le (by have := World.block_lt_of_cell? _ _ hw423_0; first | rwa [add_block] at this | exact this) GW412.out))) _).trans (((cell_far (p := ⟨gb412, _, none⟩) (by first | exact Nat.ne_of_lt (Nat.lt_of_lt_of_le (by have := World.block_lt_of_cell? _ _ hw423_0; first | rwa [add_block] at this | exact this) GW412.out) | (rw [add_block]; exact Nat.ne_of_lt (Nat.lt_of_lt_of_le (by have := World.block_lt_of_cell? _ _ hw423_0; first | rwa [add_block] at this | exact this) GW412.out)) | (show (Addr.add _ _).block ≠ _; rw [add_block]; exact Nat.ne_of_lt (Nat.lt_of_lt_of_le (by have := World.block_lt_of_cell? _ _ hw423_0; first | rwa [add_block] at this | exact this) GW412.out)) | (dsimp only; exact Nat.ne_of_lt (Nat.lt_of_lt_of_le (by have := World.block_lt_of_cell? _ _ hw423_0; first | rwa [add_block] at this | exact this) GW412.out))) _).trans (hHeld.1)))), ((cell_far (p := ⟨gb412, _, none⟩) (by first | exact Kd.own_blk (Kd.R_ne HO_10.out BK412.out (by decide)) | (rw [add_block]; exact Kd.own_blk (Kd.R_ne HO_10.out BK412.out (by decide))) | (show (Addr.add _ _).block ≠ _; rw [add_block]; exact Kd.own_blk (Kd.R_ne HO_10.out BK412.out (by decide))) | (dsimp only; exact Kd.own_blk (Kd.R_ne HO_10.out BK412.out (by decide)))) _).trans (((cell_far (p := ⟨gb412, _, none⟩) (by first | exact Kd.own_blk (Kd.R_ne HO_10.out BK412.out (by decide)) | (rw [add_block]; exact Kd.own_blk (Kd.R_ne HO_10.out BK412.out (by decide))) | (show (Addr.add _ _).block ≠ _; rw [add_block]; exact Kd.own_blk (Kd.R_ne HO_10.out BK412.out (by decide))) | (dsimp only; exact Kd.own_blk (Kd.R_ne HO_10.out BK412.out (by decide)))) _).trans (hHeld.2))))⟩ (fun hHeld => ?_)
                 clear hK K
                 refine done_ (done_of HT_.out (by kernel_rfl)) ?_
                 try go_wp2
                 refine bodyPost_ret (results_cell_row rfl _ _ gb412 55 #[.int .i64 (rd l1 x2_1), .int .i64 (rd t419 x32_2)] (0, 0) _ rfl (by (with_reducible repeat (first | refine blk_drewN ?_ _ | refine blk_drew ?_ | refine blk_alloc ?_ _)); refine blk_put (cs := #[.int .i64 (rd l1 x2_1), .int .i64 x413001_2]) ?_ 1 _ rfl; (with_reducible repeat (first | refine blk_drewN ?_ _ | refine blk_drew ?_ | refine blk_alloc ?_ _)); refine blk_put (cs := #[.int .i64 x413000_2, .int .i64 x413001_2]) ?_ 0 _ rfl; (with_reducible repeat (first | refine blk_drewN ?_ _ | refine blk_drew ?_ | refine blk_alloc ?_ _)); exact BK412.out) Tryd.underlying55 rfl (by kernel_rfl)) rfl ?_
                 exact ⟨gz, (bz1 HB.out GE412.out)⟩
                ·rw [if_neg c20] at H
                 exact absurd H (by simp)
               ·rw [if_neg c19] at H
                exact absurd H (by simp)
              ·rw [if_neg c18] at H
               exact absurd H (by simp)
             ·rw [if_neg c17] at H
              have c17b0 : ((rdOf ByteArray.empty t416 x32_2).toList == a3.toList) = false := beq_eq_false_iff_ne.mpr c17
              have c17b1 : ((rdOf ByteArray.empty t416 x32_2).toList != a3.toList) = true := bne_iff_ne.mpr c17
              have H' := Aside0.mk H
              clear H
              have p422 : 0 ≤ (x32_2 : Int) := of_decide_eq_true az
              have q422 : x32_2 < (t416.length : Int) := of_decide_eq_true az
              obtain ⟨ad422, e422, hx422_0⟩ := Kd.at_string (Kd.R_reads' HO_30.out).2.2 x32_2 p422 q422
              cases e422
              replace p422 := eq_true p422
              replace q422 := eq_true q422
              go_wp2
              go_roundg k2
              case measure => have := HK1.out; have := HK2.out; omega
              case rel => exact ⟨(wrap64 (x32_2 + 1)), (x413000_2), (x413001_2), ez, H', ⟨by have := HK1.out; have := HK2.out; omega⟩, ⟨by (with_reducible repeat (first | apply Kd.R_alloc | apply Kd.R_drewN | apply Kd.R_drew)); exact HO_10.out⟩, ⟨by (with_reducible repeat (first | apply Kd.R_alloc | apply Kd.R_drewN | apply Kd.R_drew)); exact HO_30.out⟩, ⟨by (with_reducible repeat (first | refine blk_drewN ?_ _ | refine blk_drew ?_ | refine blk_alloc ?_ _)); exact BK412.out⟩, ⟨(bz1 HB.out GE412.out)⟩⟩
            ·rw [if_neg c16] at H
             exact absurd H (by simp)
           ·rw [if_neg c15] at H
            exact absurd H (by simp)
          ·rw [if_neg c14] at H
           have c14b0 : decide (x32_2 < (t416.length : Int)) = false := decide_eq_false c14
           clear c14
           by_cases c25 : 0 ≤ x2_1
           ·rw [if_pos c25] at H
            have c25b0 : decide (0 ≤ x2_1) = true := decide_eq_true c25
            clear c25
            by_cases c26 : x2_1 < (l1.length : Int)
            ·rw [if_pos c26] at H
             have c26b0 : decide (x2_1 < (l1.length : Int)) = true := decide_eq_true c26
             clear c26
             have H' := Aside0.mk H
             clear H
             have p425 : 0 ≤ (x2_1 : Int) := of_decide_eq_true az
             have q425 : x2_1 < (l1.length : Int) := of_decide_eq_true az
             obtain ⟨ad425, e425, hx425_0⟩ := Kd.at_int HR1.out x2_1 p425 q425
             obtain rfl : ad413 = ad425 := (by injection e425)
             replace hx425_0 := hz HB.out hx425_0
             replace p425 := eq_true p425
             replace q425 := eq_true q425
             go_wp2
             go_roundg k2
             case measure => have := HK1.out; have := HK2.out; omega
             case rel => exact ⟨(rd l1 x2_1), (x413000_2), (x413001_2), ez, H', ⟨by have := HK1.out; have := HK2.out; omega⟩, ⟨by (with_reducible repeat (first | refine blk_drewN ?_ _ | refine blk_drew ?_ | refine blk_alloc ?_ _)); exact BK412.out⟩, ⟨(bz1 HB.out GE412.out)⟩⟩
            ·rw [if_neg c26] at H
             exact absurd H (by simp)
           ·rw [if_neg c25] at H
            exact absurd H (by simp)
       ·rw [if_neg c10] at H
        exact absurd H (by simp)
      ·rw [if_neg c9] at H
       exact absurd H (by simp)
     ·rw [if_neg c8] at H
      have c8b0 : decide (0 ≤ (rd l1 x2_1)) = false := decide_eq_false c8
      clear c8
      simp only [Option.some.injEq, Prod.mk.injEq] at H
      obtain ⟨rfl, rfl⟩ := H
      have p413 : 0 ≤ (x2_1 : Int) := of_decide_eq_true az
      have q413 : x2_1 < (l1.length : Int) := of_decide_eq_true az
      obtain ⟨ad413, e413, hx413_0⟩ := Kd.at_int HR1.out x2_1 p413 q413
      cases e413
      replace hx413_0 := hz HB.out hx413_0
      replace p413 := eq_true p413
      replace q413 := eq_true q413
      have hcz27_0 : wr.cell? ⟨gb412, 0, none⟩ = some (.int .i64 x413000_1) := (blk_cell BK412.out 0).trans rfl
      have hcz27_1 : wr.cell? ⟨gb412, 1, none⟩ = some (.int .i64 x413001_1) := (blk_cell BK412.out 1).trans rfl
      have hfz27_0 := blk_frozen BK412.out 0
      have hfz27_1 := blk_frozen BK412.out 1
      go_wp2
      refine bodyPost_ret (results_cell_row rfl _ _ gb412 55 #[.int .i64 (-1), .int .i64 (-1)] (0, 0) _ rfl (by (with_reducible repeat (first | refine blk_drewN ?_ _ | refine blk_drew ?_ | refine blk_alloc ?_ _)); refine blk_put (cs := #[.int .i64 (-1), .int .i64 x413001_1]) ?_ 1 _ rfl; (with_reducible repeat (first | refine blk_drewN ?_ _ | refine blk_drew ?_ | refine blk_alloc ?_ _)); refine blk_put (cs := #[.int .i64 x413000_1, .int .i64 x413001_1]) ?_ 0 _ rfl; (with_reducible repeat (first | refine blk_drewN ?_ _ | refine blk_drew ?_ | refine blk_alloc ?_ _)); exact BK412.out) Tryd.underlying55 rfl (by kernel_rfl)) rfl ?_
      exact ⟨gz, (bz1 HB.out GE412.out)⟩
    ·rw [if_neg c7] at H
     exact absurd H (by simp)
   ·rw [if_neg c6] at H
    exact absurd H (by simp)
def impl_binders.l0 : Nat → List (S43) → List Int → List (S55) → List (S43) → Int → Int → Option ((List (S55)))
 | 0, _, _, _, _, _, _ => none
 | k + 1, x0, x3, x4, x10, x11, x12 => if x12 < x11 then (if 0 ≤ x12 then (if x12 < (x10.length : Int) then (if ((rd_T43 x10 x12).f0) = 1 then ((impl_binderOf.f k x0 x3 x12 ((rd_T43 x10 x12).f5)).bind fun bt432 => (if x4.length < 8796093022208 then (impl_binders.l0 k x0 x3 (x4 ++ [(⟨bt432.1, bt432.2⟩ : S55)]) x10 x11 (wrap64 (x12 + 1))) else (none))) else (if x4.length < 8796093022208 then (impl_binders.l0 k x0 x3 (x4 ++ [(⟨(-1), (-1)⟩ : S55)]) x10 x11 (wrap64 (x12 + 1))) else (none))) else (none)) else (none)) else (some x4)
def impl_binders.f (k : Nat) (l0 : List (S43)) : Option ((List (S55))) := (impl_parents.f k l0).bind fun t426 => (impl_binders.l0 k l0 t426 ([] : List (S55)) l0 (l0.length : Int) 0)
theorem impl_binders.mono_l : ∀ k, (∀ y0 y1 y2 y3 y4 y5, LeO (impl_binders.l0 k y0 y1 y2 y3 y4 y5) (impl_binders.l0 (k + 1) y0 y1 y2 y3 y4 y5))
 | 0 => fun _ _ _ _ _ _ r h => by simp [impl_binders.l0] at h
 | k + 1 => by
  have ih0 := impl_binders.mono_l k
  ·intro y0 y1 y2 y3 y4 y5
   unfold impl_binders.l0
   repeat' first
   | (with_reducible exact ih0 _ _ _ _ _ _)
   | (with_reducible exact impl_binderOf.mono _ _ _ _ _)
   | (with_reducible exact impl_parents.mono _ _)
   | (with_reducible exact LeO.refl _)
   | (with_reducible exact LeO.none _)
   | (with_reducible refine LeO.ite ?_ ?_)
   | (with_reducible refine LeO.bind ?_ (fun _ => ?_))
   | exact ih0 _ _ _ _ _ _
   | exact impl_binderOf.mono _ _ _ _ _
   | exact impl_parents.mono _ _
   | exact LeO.none _
   | refine LeO.ite ?_ ?_
   | refine LeO.bind ?_ (fun _ => ?_)
theorem impl_binders.mono : ∀ a0 k, LeO (impl_binders.f k a0) (impl_binders.f (k + 1) a0) := by
 intro a0 k
 have ih0 := impl_binders.mono_l k
 unfold impl_binders.f
 repeat' first
   | (with_reducible exact ih0 _ _ _ _ _ _)
   | (with_reducible exact impl_binderOf.mono _ _ _ _ _)
   | (with_reducible exact impl_parents.mono _ _)
   | (with_reducible exact LeO.refl _)
   | (with_reducible exact LeO.none _)
   | (with_reducible refine LeO.ite ?_ ?_)
   | (with_reducible refine LeO.bind ?_ (fun _ => ?_))
   | exact ih0 _ _ _ _ _ _
   | exact impl_binderOf.mono _ _ _ _ _
   | exact impl_parents.mono _ _
   | exact LeO.none _
   | refine LeO.ite ?_ ?_
   | refine LeO.bind ?_ (fun _ => ?_)
set_option maxHeartbeats 8000000 in
set_option maxRecDepth 100000 in
theorem impl_binders.calls (k : Nat) (A0 : Option Addr) (c0 : Nat) (l0 : List (S43)) (r : List (S55)) (w : World) (hr0 : Kd.C k43 w A0 l0.length l0) (hc0 : l0.length ≤ c0) (h : impl_binders.f k l0 = some r) :
  Calls Tryd.prog 50 #[.slice A0 l0.length c0] w fun e w' => ∃ v0_ : Value, e = .returned (v0_) ∧ Kd.R k55 55 w' w.heap.size (fun _ => True) v0_ r ∧ Below w.heap.size w w' := by
 have hu43 := Tryd.underlying43
 have hu55 := Tryd.underlying55
 have HR0 := Aside0.mk hr0
 have HC0 := Aside0.mk hc0
 clear hr0 hc0
 have HB := Aside0.mk (Below.refl w.heap.size w)
 have H : ((impl_parents.f k l0).bind fun t426 => (impl_binders.l0 k l0 t426 ([] : List (S55)) l0 (l0.length : Int) 0)) = some r := h
 clear h
 replace H := Option.bind_eq_some_iff.mp H
 obtain ⟨t426, A20, H⟩ := H
 replace H : (impl_binders.l0 k l0 t426 ([] : List (S55)) l0 (l0.length : Int) 0) = some r := H
 have A2 := Aside0.mk A20
 clear A20
 have H' := Aside0.mk H
 clear H
 go_enter Tryd.func50, Tryd.ntmps50
 go_wp2_with (first | ((with_reducible refine gate_callee (f := 45) rfl ?_); refine goesL_ (some 9) rfl rfl Tryd.func45 (by kernel_rfl) rfl #[.slice A0 l0.length c0] rfl lz ?_; (with_reducible refine (impl_parents.calls k _ _ l0 t426 _ ?side1 ?side2 A2.out).mono ?_); (case side1 => repeat (first | exact HR0.out | (with_reducible refine Kd.C_alloc ?_ _) | (with_reducible refine Kd.C_drewN ?_ _) | (with_reducible refine Kd.C_drew ?_))); (case side2 => exact HC0.out); rintro e w3 ⟨v427, rfl, ho0, hb⟩; refine ⟨_, rfl, ?_⟩; have n0_ := Aside0.mk (Kd.R_lower ho0 (below_size (bz0 HB.out))); have n1_ := Aside0.mk (below_step (bz0 HB.out) hb); clear HB; have HO428 := n0_; have HB := n1_; clear n0_ n1_; (try clear hb); (try clear hb2); (try clear hk); (try clear hi); (try clear ho0)))
 go_loopg [4, 12] k (fun kq v4 v12 w' => ∃ (x4_1 : List (S55)) (x12_1 : Int), v12 = .int .i64 x12_1 ∧ Aside0 (impl_binders.l0 kq l0 t426 x4_1 l0 (l0.length : Int) x12_1 = some r) ∧ Aside0 (kq ≤ k) ∧ Aside0 (Kd.R (Kd.int .i64) 3 w' w.heap.size (fun _ => True) v427 t426) ∧ Aside0 (Kd.R k55 55 w' w.heap.size (fun _ => True) v4 x4_1) ∧ Aside0 (Below w.heap.size w w'))
 case atStart => exact ⟨(([] : List (S55))), (0), ez, H', ⟨Nat.le_refl _⟩, ⟨by (with_reducible repeat (first | apply Kd.R_alloc | apply Kd.R_drewN | apply Kd.R_drew)); exact HO428.out⟩, ⟨by first | exact Kd.R_nil _ _ _ _ _ | exact Kd.N_nil _ _ _ _ _ | exact Kd.V_nil _ _ _ _ _ | exact Kd.Q_nil _ _ _ _ _ | exact Kd.S_nil _ _ _ _ _⟩, ⟨(bz0 HB.out)⟩⟩
 case round =>
  clear H'
  try clear p2
  obtain ⟨x4_1, x12_1, rfl, HA, HK1, HO_3, HO_4, HB⟩ := hrel
  cases gk with
  | zero => exact absurd HA.out (by simp [impl_binders.l0])
  | succ k1 =>
   have H := HA.out
   clear HA
   simp only [impl_binders.l0] at H
   by_cases c4 : x12_1 < (l0.length : Int)
   ·rw [if_pos c4] at H
    have c4b0 : decide (x12_1 < (l0.length : Int)) = true := decide_eq_true c4
    clear c4
    by_cases c5 : 0 ≤ x12_1
    ·rw [if_pos c5] at H
     have c5b0 : decide (0 ≤ x12_1) = true := decide_eq_true c5
     clear c5
     by_cases c6 : x12_1 < (l0.length : Int)
     ·rw [if_pos c6] at H
      have c6b0 : decide (x12_1 < (l0.length : Int)) = true := decide_eq_true c6
      clear c6
      by_cases c7 : ((rd_T43 l0 x12_1).f0) = 1
      ·rw [if_pos c7] at H
       have c7b0 : (((rd_T43 l0 x12_1).f0) == 1) = true := beq_iff_eq.mpr c7
       have c7b1 : (((rd_T43 l0 x12_1).f0) != 1) = false := bne_eq_false_iff_eq.mpr c7
       clear c7
       replace H := Option.bind_eq_some_iff.mp H
       obtain ⟨⟨t432, t433⟩, A80, H⟩ := H
       replace H : (if x4_1.length < 8796093022208 then (impl_binders.l0 k1 l0 t426 (x4_1 ++ [(⟨t432, t433⟩ : S55)]) l0 (l0.length : Int) (wrap64 (x12_1 + 1))) else (none)) = some r := H
       have A8 := Aside0.mk A80
       clear A80
       by_cases c9 : x4_1.length < 8796093022208
       ·rw [if_pos c9] at H
        have LMc9 := Aside0.mk c9
        clear c9
        obtain ⟨y434, hy434⟩ : ∃ y_ : List (S55), y_ = (x4_1 ++ [(⟨t432, t433⟩ : S55)]) := ⟨_, rfl⟩
        replace H : (impl_binders.l0 k1 l0 t426 y434 l0 (l0.length : Int) (wrap64 (x12_1 + 1))) = some r := by first | (rw [hy434]; with_reducible exact H) | (have H2_ := (Option.bind_some _ _).symm.trans H; rw [hy434]; with_reducible exact H2_) | (have H2_ := (Option.bind_some _ _).symm.trans H; with_reducible exact H2_) | with_reducible exact H | (rw [hy434]; exact H) | exact H
        have Ny434 := Aside0.mk hy434
        clear hy434
        have H' := Aside0.mk H
        clear H
        have p429 : 0 ≤ (x12_1 : Int) := of_decide_eq_true az
        have q429 : x12_1 < (l0.length : Int) := of_decide_eq_true az
        obtain ⟨ad429, e429, hx429_0, hx429_1, hx429_2, hx429_3, hx429_4, hx429_5, hx429_6⟩ := at_T43 HR0.out x12_1 p429 q429
        cases e429
        replace hx429_0 := hz HB.out hx429_0
        replace hx429_1 := hz HB.out hx429_1
        replace hx429_2 := hz HB.out hx429_2
        replace hx429_3 := hz HB.out hx429_3
        replace hx429_4 := hz HB.out hx429_4
        replace hx429_5 := hz HB.out hx429_5
        replace hx429_6 := hz HB.out hx429_6
        replace p429 := eq_true p429
        replace q429 := eq_true q429
        go_wp2_with (first | ((with_reducible refine gate_dst (N := 6) rfl ?_); refine box_event ?hg (N := 6) ?hd (cs := #[.int .i64 0, .int .i64 0, .int .i64 0, .int .i64 0, .int .i64 0, .string (⟨#[]⟩ : ByteArray), .string (⟨#[]⟩ : ByteArray)]) (t := 43) ?hr ?_; (case hd => rfl); (case hg => rfl); (case hr => first | (go_simp; done) | (go_simp; rfl)); intro gb430 hg w10 hbox hb; have n0_ := Aside0.mk (Kd.R_below (rz HO_3.out) hb); have n1_ := Aside0.mk (Kd.R_below (rz HO_4.out) hb); have n2_ := Aside0.mk (below_step (bz0 HB.out) hb); have n3_ := Aside0.mk (hbox); have n4_ := Aside0.mk ((by rw [hg]; exact (below_size (bz0 HB.out)) : w.heap.size ≤ gb430)); have n5_ := Aside0.mk ((by rw [hg]; exact (below_size (bz0 HB.out)) : w.heap.size ≤ gb430)); clear HO_3; clear HO_4; clear HB; have HO_3 := n0_; have HO_4 := n1_; have HB := n2_; have BK430 := n3_; have GW430 := n4_; have GE430 := n5_; clear n0_ n1_ n2_ n3_ n4_ n5_; clear hb hbox hg; have hcz11_0 : w10.cell? ⟨gb430, 0, none⟩ = some (.int .i64 0) := (blk_cell BK430.out 0).trans rfl; have hcz11_1 : w10.cell? ⟨gb430, 1, none⟩ = some (.int .i64 0) := (blk_cell BK430.out 1).trans rfl; have hcz11_2 : w10.cell? ⟨gb430, 2, none⟩ = some (.int .i64 0) := (blk_cell BK430.out 2).trans rfl; have hcz11_3 : w10.cell? ⟨gb430, 3, none⟩ = some (.int .i64 0) := (blk_cell BK430.out 3).trans rfl; have hcz11_4 : w10.cell? ⟨gb430, 4, none⟩ = some (.int .i64 0) := (blk_cell BK430.out 4).trans rfl; have hcz11_5 : w10.cell? ⟨gb430, 5, none⟩ = some (.string (⟨#[]⟩ : ByteArray)) := (blk_cell BK430.out 5).trans rfl; have hcz11_6 : w10.cell? ⟨gb430, 6, none⟩ = some (.string (⟨#[]⟩ : ByteArray)) := (blk_cell BK430.out 6).trans rfl; have hfz11_0 := blk_frozen BK430.out 0; have hfz11_1 := blk_frozen BK430.out 1; have hfz11_2 := blk_frozen BK430.out 2; have hfz11_3 := blk_frozen BK430.out 3; have hfz11_4 := blk_frozen BK430.out 4; have hfz11_5 := blk_frozen BK430.out 5; have hfz11_6 := blk_frozen BK430.out 6) | ((with_reducible refine gate_dst (N := 7) rfl ?_); refine box_event ?hg (N := 7) ?hd (cs := #[.int .i64 0, .int .i64 0]) (t := 55) ?hr ?_; (case hd => rfl); (case hg => rfl); (case hr => first | (go_simp; done) | (go_simp; rfl)); intro gb431 hg w12 hbox hb; have n0_ := Aside0.mk (Kd.R_below (by (with_reducible repeat (first | apply Kd.R_alloc | apply Kd.R_drewN | apply Kd.R_drew)); exact (Kd.R_mono (Kd.R_far (p := ⟨gb430, 6, none⟩) (Kd.R_far (p := ⟨gb430, 5, none⟩) (Kd.R_far (p := ⟨gb430, 4, none⟩) (Kd.R_far (p := ⟨gb430, 3, none⟩) (Kd.R_far (p := ⟨gb430, 2, none⟩) (Kd.R_far (p := ⟨gb430, 1, none⟩) (Kd.R_far (p := ⟨gb430, 0, none⟩) (Kd.R_types HO_3.out BK430.out (by decide)) (fun _ hk => hk.2) (.int .i64 ((rd_T43 l0 x12_1).f0))) (fun _ hk => hk.2) (.int .i64 ((rd_T43 l0 x12_1).f1))) (fun _ hk => hk.2) (.int .i64 ((rd_T43 l0 x12_1).f2))) (fun _ hk => hk.2) (.int .i64 ((rd_T43 l0 x12_1).f3))) (fun _ hk => hk.2) (.int .i64 ((rd_T43 l0 x12_1).f4))) (fun _ hk => hk.2) (.string ((rd_T43 l0 x12_1).f5))) (fun _ hk => hk.2) (.string ((rd_T43 l0 x12_1).f6))) (fun _ h_ => h_.1))) hb); have n1_ := Aside0.mk (Kd.R_below (Kd.R_elderB (by (with_reducible repeat (first | apply Kd.R_alloc | apply Kd.R_drewN | apply Kd.R_drew)); exact (Kd.R_mono (Kd.R_far (p := ⟨gb430, 6, none⟩) (Kd.R_far (p := ⟨gb430, 5, none⟩) (Kd.R_far (p := ⟨gb430, 4, none⟩) (Kd.R_far (p := ⟨gb430, 3, none⟩) (Kd.R_far (p := ⟨gb430, 2, none⟩) (Kd.R_far (p := ⟨gb430, 1, none⟩) (Kd.R_far (p := ⟨gb430, 0, none⟩) (Kd.R_types HO_4.out BK430.out (by decide)) (fun _ hk => hk.2) (.int .i64 ((rd_T43 l0 x12_1).f0))) (fun _ hk => hk.2) (.int .i64 ((rd_T43 l0 x12_1).f1))) (fun _ hk => hk.2) (.int .i64 ((rd_T43 l0 x12_1).f2))) (fun _ hk => hk.2) (.int .i64 ((rd_T43 l0 x12_1).f3))) (fun _ hk => hk.2) (.int .i64 ((rd_T43 l0 x12_1).f4))) (fun _ hk => hk.2) (.string ((rd_T43 l0 x12_1).f5))) (fun _ hk => hk.2) (.string ((rd_T43 l0 x12_1).f6))) (fun _ h_ => h_.1))) gb431 (Nat.le_of_eq hg.symm)) hb); have n2_ := Aside0.mk (blk_below (g := gb430) (o := .cells #[.int .i64 ((rd_T43 l0 x12_1).f0), .int .i64 ((rd_T43 l0 x12_1).f1), .int .i64 ((rd_T43 l0 x12_1).f2), .int .i64 ((rd_T43 l0 x12_1).f3), .int .i64 ((rd_T43 l0 x12_1).f4), .string ((rd_T43 l0 x12_1).f5), .string ((rd_T43 l0 x12_1).f6)] 43 (0, 0)) (by (with_reducible repeat (first | refine blk_drewN ?_ _ | refine blk_drew ?_ | refine blk_alloc ?_ _)); refine blk_put (cs := #[.int .i64 ((rd_T43 l0 x12_1).f0), .int .i64 ((rd_T43 l0 x12_1).f1), .int .i64 ((rd_T43 l0 x12_1).f2), .int .i64 ((rd_T43 l0 x12_1).f3), .int .i64 ((rd_T43 l0 x12_1).f4), .string ((rd_T43 l0 x12_1).f5), .string (⟨#[]⟩ : ByteArray)]) ?_ 6 _ rfl; (with_reducible repeat (first | refine blk_drewN ?_ _ | refine blk_drew ?_ | refine blk_alloc ?_ _)); refine blk_put (cs := #[.int .i64 ((rd_T43 l0 x12_1).f0), .int .i64 ((rd_T43 l0 x12_1).f1), .int .i64 ((rd_T43 l0 x12_1).f2), .int .i64 ((rd_T43 l0 x12_1).f3), .int .i64 ((rd_T43 l0 x12_1).f4), .string (⟨#[]⟩ : ByteArray), .string (⟨#[]⟩ : ByteArray)]) ?_ 5 _ rfl; (with_reducible repeat (first | refine blk_drewN ?_ _ | refine blk_drew ?_ | refine blk_alloc ?_ _)); refine blk_put (cs := #[.int .i64 ((rd_T43 l0 x12_1).f0), .int .i64 ((rd_T43 l0 x12_1).f1), .int .i64 ((rd_T43 l0 x12_1).f2), .int .i64 ((rd_T43 l0 x12_1).f3), .int .i64 0, .string (⟨#[]⟩ : ByteArray), .string (⟨#[]⟩ : ByteArray)]) ?_ 4 _ rfl; (with_reducible repeat (first | refine blk_drewN ?_ _ | refine blk_drew ?_ | refine blk_alloc ?_ _)); refine blk_put (cs := #[.int .i64 ((rd_T43 l0 x12_1).f0), .int .i64 ((rd_T43 l0 x12_1).f1), .int .i64 ((rd_T43 l0 x12_1).f2), .int .i64 0, .int .i64 0, .string (⟨#[]⟩ : ByteArray), .string (⟨#[]⟩ : ByteArray)]) ?_ 3 _ rfl; (with_reducible repeat (first | refine blk_drewN ?_ _ | refine blk_drew ?_ | refine blk_alloc ?_ _)); refine blk_put (cs := #[.int .i64 ((rd_T43 l0 x12_1).f0), .int .i64 ((rd_T43 l0 x12_1).f1), .int .i64 0, .int .i64 0, .int .i64 0, .string (⟨#[]⟩ : ByteArray), .string (⟨#[]⟩ : ByteArray)]) ?_ 2 _ rfl; (with_reducible repeat (first | refine blk_drewN ?_ _ | refine blk_drew ?_ | refine blk_alloc ?_ _)); refine blk_put (cs := #[.int .i64 ((rd_T43 l0 x12_1).f0), .int .i64 0, .int .i64 0, .int .i64 0, .int .i64 0, .string (⟨#[]⟩ : ByteArray), .string (⟨#[]⟩ : ByteArray)]) ?_ 1 _ rfl; (with_reducible repeat (first | refine blk_drewN ?_ _ | refine blk_drew ?_ | refine blk_alloc ?_ _)); refine blk_put (cs := #[.int .i64 0, .int .i64 0, .int .i64 0, .int .i64 0, .int .i64 0, .string (⟨#[]⟩ : ByteArray), .string (⟨#[]⟩ : ByteArray)]) ?_ 0 _ rfl; (with_reducible repeat (first | refine blk_drewN ?_ _ | refine blk_drew ?_ | refine blk_alloc ?_ _)); exact BK430.out) hb); have n3_ := Aside0.mk (below_step (bz1 HB.out GE430.out) hb); have n4_ := Aside0.mk (hbox); have n5_ := Aside0.mk ((by rw [hg]; exact (below_size (bz1 HB.out GE430.out)) : w.heap.size ≤ gb431)); have n6_ := Aside0.mk ((by rw [hg]; exact (below_size (bz1 HB.out GE430.out)) : w.heap.size ≤ gb431)); have n7_ := Aside0.mk ((by rw [hg]; exact Nat.ne_of_lt (blk_lt (g := gb430) (o := .cells #[.int .i64 ((rd_T43 l0 x12_1).f0), .int .i64 ((rd_T43 l0 x12_1).f1), .int .i64 ((rd_T43 l0 x12_1).f2), .int .i64 ((rd_T43 l0 x12_1).f3), .int .i64 ((rd_T43 l0 x12_1).f4), .string ((rd_T43 l0 x12_1).f5), .string ((rd_T43 l0 x12_1).f6)] 43 (0, 0)) (by (with_reducible repeat (first | refine blk_drewN ?_ _ | refine blk_drew ?_ | refine blk_alloc ?_ _)); refine blk_put (cs := #[.int .i64 ((rd_T43 l0 x12_1).f0), .int .i64 ((rd_T43 l0 x12_1).f1), .int .i64 ((rd_T43 l0 x12_1).f2), .int .i64 ((rd_T43 l0 x12_1).f3), .int .i64 ((rd_T43 l0 x12_1).f4), .string ((rd_T43 l0 x12_1).f5), .string (⟨#[]⟩ : ByteArray)]) ?_ 6 _ rfl; (with_reducible repeat (first | refine blk_drewN ?_ _ | refine blk_drew ?_ | refine blk_alloc ?_ _)); refine blk_put (cs := #[.int .i64 ((rd_T43 l0 x12_1).f0), .int .i64 ((rd_T43 l0 x12_1).f1), .int .i64 ((rd_T43 l0 x12_1).f2), .int .i64 ((rd_T43 l0 x12_1).f3), .int .i64 ((rd_T43 l0 x12_1).f4), .string (⟨#[]⟩ : ByteArray), .string (⟨#[]⟩ : ByteArray)]) ?_ 5 _ rfl; (with_reducible repeat (first | refine blk_drewN ?_ _ | refine blk_drew ?_ | refine blk_alloc ?_ _)); refine blk_put (cs := #[.int .i64 ((rd_T43 l0 x12_1).f0), .int .i64 ((rd_T43 l0 x12_1).f1), .int .i64 ((rd_T43 l0 x12_1).f2), .int .i64 ((rd_T43 l0 x12_1).f3), .int .i64 0, .string (⟨#[]⟩ : ByteArray), .string (⟨#[]⟩ : ByteArray)]) ?_ 4 _ rfl; (with_reducible repeat (first | refine blk_drewN ?_ _ | refine blk_drew ?_ | refine blk_alloc ?_ _)); refine blk_put (cs := #[.int .i64 ((rd_T43 l0 x12_1).f0), .int .i64 ((rd_T43 l0 x12_1).f1), .int .i64 ((rd_T43 l0 x12_1).f2), .int .i64 0, .int .i64 0, .string (⟨#[]⟩ : ByteArray), .string (⟨#[]⟩ : ByteArray)]) ?_ 3 _ rfl; (with_reducible repeat (first | refine blk_drewN ?_ _ | refine blk_drew ?_ | refine blk_alloc ?_ _)); refine blk_put (cs := #[.int .i64 ((rd_T43 l0 x12_1).f0), .int .i64 ((rd_T43 l0 x12_1).f1), .int .i64 0, .int .i64 0, .int .i64 0, .string (⟨#[]⟩ : ByteArray), .string (⟨#[]⟩ : ByteArray)]) ?_ 2 _ rfl; (with_reducible repeat (first | refine blk_drewN ?_ _ | refine blk_drew ?_ | refine blk_alloc ?_ _)); refine blk_put (cs := #[.int .i64 ((rd_T43 l0 x12_1).f0), .int .i64 0, .int .i64 0, .int .i64 0, .int .i64 0, .string (⟨#[]⟩ : ByteArray), .string (⟨#[]⟩ : ByteArray)]) ?_ 1 _ rfl; (with_reducible repeat (first | refine blk_drewN ?_ _ | refine blk_drew ?_ | refine blk_alloc ?_ _)); refine blk_put (cs := #[.int .i64 0, .int .i64 0, .int .i64 0, .int .i64 0, .int .i64 0, .string (⟨#[]⟩ : ByteArray), .string (⟨#[]⟩ : ByteArray)]) ?_ 0 _ rfl; (with_reducible repeat (first | refine blk_drewN ?_ _ | refine blk_drew ?_ | refine blk_alloc ?_ _)); exact BK430.out)) : gb430 ≠ gb431)); have n8_ := Aside0.mk ((by rw [hg]; exact Nat.ne_of_gt (blk_lt (g := gb430) (o := .cells #[.int .i64 ((rd_T43 l0 x12_1).f0), .int .i64 ((rd_T43 l0 x12_1).f1), .int .i64 ((rd_T43 l0 x12_1).f2), .int .i64 ((rd_T43 l0 x12_1).f3), .int .i64 ((rd_T43 l0 x12_1).f4), .string ((rd_T43 l0 x12_1).f5), .string ((rd_T43 l0 x12_1).f6)] 43 (0, 0)) (by (with_reducible repeat (first | refine blk_drewN ?_ _ | refine blk_drew ?_ | refine blk_alloc ?_ _)); refine blk_put (cs := #[.int .i64 ((rd_T43 l0 x12_1).f0), .int .i64 ((rd_T43 l0 x12_1).f1), .int .i64 ((rd_T43 l0 x12_1).f2), .int .i64 ((rd_T43 l0 x12_1).f3), .int .i64 ((rd_T43 l0 x12_1).f4), .string ((rd_T43 l0 x12_1).f5), .string (⟨#[]⟩ : ByteArray)]) ?_ 6 _ rfl; (with_reducible repeat (first | refine blk_drewN ?_ _ | refine blk_drew ?_ | refine blk_alloc ?_ _)); refine blk_put (cs := #[.int .i64 ((rd_T43 l0 x12_1).f0), .int .i64 ((rd_T43 l0 x12_1).f1), .int .i64 ((rd_T43 l0 x12_1).f2), .int .i64 ((rd_T43 l0 x12_1).f3), .int .i64 ((rd_T43 l0 x12_1).f4), .string (⟨#[]⟩ : ByteArray), .string (⟨#[]⟩ : ByteArray)]) ?_ 5 _ rfl; (with_reducible repeat (first | refine blk_drewN ?_ _ | refine blk_drew ?_ | refine blk_alloc ?_ _)); refine blk_put (cs := #[.int .i64 ((rd_T43 l0 x12_1).f0), .int .i64 ((rd_T43 l0 x12_1).f1), .int .i64 ((rd_T43 l0 x12_1).f2), .int .i64 ((rd_T43 l0 x12_1).f3), .int .i64 0, .string (⟨#[]⟩ : ByteArray), .string (⟨#[]⟩ : ByteArray)]) ?_ 4 _ rfl; (with_reducible repeat (first | refine blk_drewN ?_ _ | refine blk_drew ?_ | refine blk_alloc ?_ _)); refine blk_put (cs := #[.int .i64 ((rd_T43 l0 x12_1).f0), .int .i64 ((rd_T43 l0 x12_1).f1), .int .i64 ((rd_T43 l0 x12_1).f2), .int .i64 0, .int .i64 0, .string (⟨#[]⟩ : ByteArray), .string (⟨#[]⟩ : ByteArray)]) ?_ 3 _ rfl; (with_reducible repeat (first | refine blk_drewN ?_ _ | refine blk_drew ?_ | refine blk_alloc ?_ _)); refine blk_put (cs := #[.int .i64 ((rd_T43 l0 x12_1).f0), .int .i64 ((rd_T43 l0 x12_1).f1), .int .i64 0, .int .i64 0, .int .i64 0, .string (⟨#[]⟩ : ByteArray), .string (⟨#[]⟩ : ByteArray)]) ?_ 2 _ rfl; (with_reducible repeat (first | refine blk_drewN ?_ _ | refine blk_drew ?_ | refine blk_alloc ?_ _)); refine blk_put (cs := #[.int .i64 ((rd_T43 l0 x12_1).f0), .int .i64 0, .int .i64 0, .int .i64 0, .int .i64 0, .string (⟨#[]⟩ : ByteArray), .string (⟨#[]⟩ : ByteArray)]) ?_ 1 _ rfl; (with_reducible repeat (first | refine blk_drewN ?_ _ | refine blk_drew ?_ | refine blk_alloc ?_ _)); refine blk_put (cs := #[.int .i64 0, .int .i64 0, .int .i64 0, .int .i64 0, .int .i64 0, .string (⟨#[]⟩ : ByteArray), .string (⟨#[]⟩ : ByteArray)]) ?_ 0 _ rfl; (with_reducible repeat (first | refine blk_drewN ?_ _ | refine blk_drew ?_ | refine blk_alloc ?_ _)); exact BK430.out)) : gb431 ≠ gb430)); clear HO_3; clear HO_4; clear BK430; clear HB; have HO_3 := n0_; have HO_4 := n1_; have BK430 := n2_; have HB := n3_; have BK431 := n4_; have GW431 := n5_; have GE431 := n6_; have NB430_431 := n7_; have NB431_430 := n8_; clear n0_ n1_ n2_ n3_ n4_ n5_ n6_ n7_ n8_; clear hb hbox hg; have hnb13 := NB431_430.out; have hnc13 := NB430_431.out; have hcz14_0 : w12.cell? ⟨gb431, 0, none⟩ = some (.int .i64 0) := (blk_cell BK431.out 0).trans rfl; have hcz14_1 : w12.cell? ⟨gb431, 1, none⟩ = some (.int .i64 0) := (blk_cell BK431.out 1).trans rfl; have hfz14_0 := blk_frozen BK431.out 0; have hfz14_1 := blk_frozen BK431.out 1; have hcz15_0 : w12.cell? ⟨gb430, 0, none⟩ = some (.int .i64 ((rd_T43 l0 x12_1).f0)) := (blk_cell BK430.out 0).trans rfl; have hcz15_1 : w12.cell? ⟨gb430, 1, none⟩ = some (.int .i64 ((rd_T43 l0 x12_1).f1)) := (blk_cell BK430.out 1).trans rfl; have hcz15_2 : w12.cell? ⟨gb430, 2, none⟩ = some (.int .i64 ((rd_T43 l0 x12_1).f2)) := (blk_cell BK430.out 2).trans rfl; have hcz15_3 : w12.cell? ⟨gb430, 3, none⟩ = some (.int .i64 ((rd_T43 l0 x12_1).f3)) := (blk_cell BK430.out 3).trans rfl; have hcz15_4 : w12.cell? ⟨gb430, 4, none⟩ = some (.int .i64 ((rd_T43 l0 x12_1).f4)) := (blk_cell BK430.out 4).trans rfl; have hcz15_5 : w12.cell? ⟨gb430, 5, none⟩ = some (.string ((rd_T43 l0 x12_1).f5)) := (blk_cell BK430.out 5).trans rfl; have hcz15_6 : w12.cell? ⟨gb430, 6, none⟩ = some (.string ((rd_T43 l0 x12_1).f6)) := (blk_cell BK430.out 6).trans rfl; have hfz15_0 := blk_frozen BK430.out 0; have hfz15_1 := blk_frozen BK430.out 1; have hfz15_2 := blk_frozen BK430.out 2; have hfz15_3 := blk_frozen BK430.out 3; have hfz15_4 := blk_frozen BK430.out 4; have hfz15_5 := blk_frozen BK430.out 5; have hfz15_6 := blk_frozen BK430.out 6; obtain ⟨Ao16, co16, eo16⟩ := Kd.R_slice HO_3.out; subst eo16) | ((with_reducible refine gate_callee (f := 77) rfl ?_); refine goesL_ (some 26) rfl rfl Tryd.func77 (by kernel_rfl) rfl #[.slice (some ad429) l0.length c0, .slice Ao16 t426.length co16, .int .i64 x12_1, .string ((rd_T43 l0 x12_1).f5)] rfl lz ?_; (with_reducible refine (impl_binderOf.calls k1 _ _ l0 _ _ t426 x12_1 ((rd_T43 l0 x12_1).f5) t432 t433 _ ?side1 ?side2 ?side3 ?side4 A8.out).mono ?_); (case side1 => exact Kd.C_below HR0.out (bz2 HB.out GE430.out GE431.out)); (case side2 => exact HC0.out); (case side3 => refine (Kd.R_reads' (e := 3) (base := w.heap.size) (ok := fun k_ => True) (n := t426.length) (c := co16) ?_).2.2; exact (by (with_reducible repeat (first | apply Kd.R_alloc | apply Kd.R_drewN | apply Kd.R_drew)); exact (Kd.R_mono (Kd.R_far (p := ⟨gb431, 1, none⟩) (Kd.R_far (p := ⟨gb431, 0, none⟩) (Kd.R_types HO_3.out BK431.out (by decide)) (fun _ hk => hk.2) (.int .i64 (-1))) (fun _ hk => hk.2) (.int .i64 (-1))) (fun _ h_ => h_.1)))); (case side4 => exact (Kd.R_reads' HO_3.out).2.1); rintro e w17 ⟨rfl, hb⟩; refine ⟨_, rfl, ?_⟩; have n0_ := Aside0.mk (Kd.R_below (by (with_reducible repeat (first | apply Kd.R_alloc | apply Kd.R_drewN | apply Kd.R_drew)); exact (Kd.R_mono (Kd.R_far (p := ⟨gb431, 1, none⟩) (Kd.R_far (p := ⟨gb431, 0, none⟩) (Kd.R_types HO_3.out BK431.out (by decide)) (fun _ hk => hk.2) (.int .i64 (-1))) (fun _ hk => hk.2) (.int .i64 (-1))) (fun _ h_ => h_.1))) hb); have n1_ := Aside0.mk (Kd.R_below (by (with_reducible repeat (first | apply Kd.R_alloc | apply Kd.R_drewN | apply Kd.R_drew)); exact (Kd.R_mono (Kd.R_far (p := ⟨gb431, 1, none⟩) (Kd.R_far (p := ⟨gb431, 0, none⟩) (Kd.R_mono HO_4.out (fun k_ hk => (⟨hk, hk.2⟩ : _ ∧ k_ ≠ gb431))) (fun _ hk => hk.2) (.int .i64 (-1))) (fun _ hk => hk.2) (.int .i64 (-1))) (fun _ h_ => h_.1))) hb); have n2_ := Aside0.mk (blk_below (g := gb430) (o := .cells #[.int .i64 ((rd_T43 l0 x12_1).f0), .int .i64 ((rd_T43 l0 x12_1).f1), .int .i64 ((rd_T43 l0 x12_1).f2), .int .i64 ((rd_T43 l0 x12_1).f3), .int .i64 ((rd_T43 l0 x12_1).f4), .string ((rd_T43 l0 x12_1).f5), .string ((rd_T43 l0 x12_1).f6)] 43 (0, 0)) (by (with_reducible repeat (first | refine blk_drewN ?_ _ | refine blk_drew ?_ | refine blk_alloc ?_ _)); refine blk_far ?_ NB430_431.out _; (with_reducible repeat (first | refine blk_drewN ?_ _ | refine blk_drew ?_ | refine blk_alloc ?_ _)); refine blk_far ?_ NB430_431.out _; (with_reducible repeat (first | refine blk_drewN ?_ _ | refine blk_drew ?_ | refine blk_alloc ?_ _)); exact BK430.out) hb); have n3_ := Aside0.mk (blk_below (g := gb431) (o := .cells #[.int .i64 (-1), .int .i64 (-1)] 55 (0, 0)) (by (with_reducible repeat (first | refine blk_drewN ?_ _ | refine blk_drew ?_ | refine blk_alloc ?_ _)); refine blk_put (cs := #[.int .i64 (-1), .int .i64 0]) ?_ 1 _ rfl; (with_reducible repeat (first | refine blk_drewN ?_ _ | refine blk_drew ?_ | refine blk_alloc ?_ _)); refine blk_put (cs := #[.int .i64 0, .int .i64 0]) ?_ 0 _ rfl; (with_reducible repeat (first | refine blk_drewN ?_ _ | refine blk_drew ?_ | refine blk_alloc ?_ _)); exact BK431.out) hb); have n4_ := Aside0.mk (below_step (bz2 HB.out GE430.out GE431.out) hb); clear HO_3; clear HO_4; clear BK430; clear BK431; clear HB; have HO_3 := n0_; have HO_4 := n1_; have BK430 := n2_; have BK431 := n3_; have HB := n4_; clear n0_ n1_ n2_ n3_ n4_; (try clear hb); (try clear hb2); (try clear hk); (try clear hi); have hcz18_0 : w17.cell? ⟨gb431, 0, none⟩ = some (.int .i64 (-1)) := (blk_cell BK431.out 0).trans rfl; have hcz18_1 : w17.cell? ⟨gb431, 1, none⟩ = some (.int .i64 (-1)) := (blk_cell BK431.out 1).trans rfl; have hfz18_0 := blk_frozen BK431.out 0; have hfz18_1 := blk_frozen BK431.out 1) | ((with_reducible refine gate_builtin (b := .append) (xs := #[.tmp 27, .tmp 29]) rfl ?_); at_builtin; refine Kd.R_append k55 (w0 := w) w.heap.size rfl (.tmp 27) (.tmp 29) 57 55 (.agg #[(.int .i64 0), (.int .i64 0)]) 16 rfl Tryd.underlying57 info55 rfl (by decide) (by omega) u4 x4_1 (⟨t432, t433⟩ : S55) [.int .i64 t432, .int .i64 t433] (fun k_ => k_ ≠ gb431) (fun _ => False) rfl (by first | (go_simp; done) | (go_simp; rfl)) ?aP (fun _ hk => hk.elim) ?aF ?aO ?aB ?aS ?aL ?_; (case aP => exact k55_mkM _ _ _ (⟨t432, t433⟩ : S55)); (case aB => exact (bz2 HB.out GE430.out GE431.out)); (case aF => exact (fun k_ hk => Kd.freshB (g := gb431) (o := .cells #[.int .i64 t432, .int .i64 t433] 55 (0, 0)) (by (with_reducible repeat (first | refine blk_drewN ?_ _ | refine blk_drew ?_ | refine blk_alloc ?_ _)); refine blk_put (cs := #[.int .i64 t432, .int .i64 (-1)]) ?_ 1 _ rfl; (with_reducible repeat (first | refine blk_drewN ?_ _ | refine blk_drew ?_ | refine blk_alloc ?_ _)); refine blk_put (cs := #[.int .i64 (-1), .int .i64 (-1)]) ?_ 0 _ rfl; (with_reducible repeat (first | refine blk_drewN ?_ _ | refine blk_drew ?_ | refine blk_alloc ?_ _)); exact BK431.out) k_ hk)); (case aO => exact (by (with_reducible repeat (first | apply Kd.R_alloc | apply Kd.R_drewN | apply Kd.R_drew)); first | (with_reducible exact Kd.R_mono (Kd.R_far (p := ⟨gb431, 1, none⟩) (Kd.R_far (p := ⟨gb431, 0, none⟩) (Kd.R_mono HO_4.out (fun k_ hk => (⟨hk, hk.2⟩ : _ ∧ k_ ≠ gb431))) (fun _ hk => hk.2) (.int .i64 t432)) (fun _ hk => hk.2) (.int .i64 t433)) (fun _ hk => hk.1.2)) | (with_reducible exact Kd.R_mono (Kd.R_far (p := ⟨gb431, 1, none⟩) (Kd.R_drewN (Kd.R_far (p := ⟨gb431, 0, none⟩) (Kd.R_mono HO_4.out (fun k_ hk => (⟨hk, hk.2⟩ : _ ∧ k_ ≠ gb431))) (fun _ hk => hk.2) (.int .i64 t432)) _) (fun _ hk => hk.2) (.int .i64 t433)) (fun _ hk => hk.1.2)) | exact Kd.R_mono (Kd.R_far (p := ⟨gb431, 1, none⟩) (Kd.R_drewN (Kd.R_far (p := ⟨gb431, 0, none⟩) (Kd.R_mono HO_4.out (fun k_ hk => (⟨hk, hk.2⟩ : _ ∧ k_ ≠ gb431))) (fun _ hk => hk.2) (.int .i64 t432)) _) (fun _ hk => hk.2) (.int .i64 t433)) (fun _ hk => hk.1.2))); (case aS => exact (below_size (bz2 HB.out GE430.out GE431.out))); (case aL => have := LMc9.out; omega); intro v435 w19 ho hb hg hat; rw [← Ny434.out] at ho; have n0_ := Aside0.mk (Kd.R_over' (by (with_reducible repeat (first | apply Kd.R_alloc | apply Kd.R_drewN | apply Kd.R_drew)); exact (Kd.R_mono (Kd.R_far (p := ⟨gb431, 1, none⟩) (Kd.R_far (p := ⟨gb431, 0, none⟩) (Kd.R_types HO_3.out BK431.out (by decide)) (fun _ hk => hk.2) (.int .i64 t432)) (fun _ hk => hk.2) (.int .i64 t433)) (fun _ h_ => h_.1))) (Kd.R_typed (by (with_reducible repeat (first | apply Kd.R_alloc | apply Kd.R_drewN | apply Kd.R_drew)); exact (Kd.R_mono (Kd.R_far (p := ⟨gb431, 1, none⟩) (Kd.R_far (p := ⟨gb431, 0, none⟩) (Kd.R_mono HO_4.out (fun k_ hk => (⟨hk, hk.2⟩ : _ ∧ k_ ≠ gb431))) (fun _ hk => hk.2) (.int .i64 t432)) (fun _ hk => hk.2) (.int .i64 t433)) (fun _ h_ => h_.1)))) (by decide) hg); have n1_ := Aside0.mk (blk_grown (g := gb430) (o := .cells #[.int .i64 ((rd_T43 l0 x12_1).f0), .int .i64 ((rd_T43 l0 x12_1).f1), .int .i64 ((rd_T43 l0 x12_1).f2), .int .i64 ((rd_T43 l0 x12_1).f3), .int .i64 ((rd_T43 l0 x12_1).f4), .string ((rd_T43 l0 x12_1).f5), .string ((rd_T43 l0 x12_1).f6)] 43 (0, 0)) (by (with_reducible repeat (first | refine blk_drewN ?_ _ | refine blk_drew ?_ | refine blk_alloc ?_ _)); refine blk_far ?_ NB430_431.out _; (with_reducible repeat (first | refine blk_drewN ?_ _ | refine blk_drew ?_ | refine blk_alloc ?_ _)); refine blk_far ?_ NB430_431.out _; (with_reducible repeat (first | refine blk_drewN ?_ _ | refine blk_drew ?_ | refine blk_alloc ?_ _)); exact BK430.out) hg (Kd.R_ne HO_4.out BK430.out (by decide))); have n2_ := Aside0.mk (blk_grown (g := gb431) (o := .cells #[.int .i64 t432, .int .i64 t433] 55 (0, 0)) (by (with_reducible repeat (first | refine blk_drewN ?_ _ | refine blk_drew ?_ | refine blk_alloc ?_ _)); refine blk_put (cs := #[.int .i64 t432, .int .i64 (-1)]) ?_ 1 _ rfl; (with_reducible repeat (first | refine blk_drewN ?_ _ | refine blk_drew ?_ | refine blk_alloc ?_ _)); refine blk_put (cs := #[.int .i64 (-1), .int .i64 (-1)]) ?_ 0 _ rfl; (with_reducible repeat (first | refine blk_drewN ?_ _ | refine blk_drew ?_ | refine blk_alloc ?_ _)); exact BK431.out) hg (Kd.R_away HO_4.out (fun _ hk => hk.2))); have n3_ := Aside0.mk (hb); have n4_ := Aside0.mk (ho); clear HO_3; clear BK430; clear BK431; clear HB; clear HO_4; have HO_3 := n0_; have BK430 := n1_; have BK431 := n2_; have HB := n3_; have HO436 := n4_; clear n0_ n1_ n2_ n3_ n4_; clear ho hb hg hat))
        go_roundg k1
        case measure => have := HK1.out; omega
        case rel => exact ⟨(y434), (wrap64 (x12_1 + 1)), ez, H', ⟨by have := HK1.out; omega⟩, ⟨by (with_reducible repeat (first | apply Kd.R_alloc | apply Kd.R_drewN | apply Kd.R_drew)); exact HO_3.out⟩, ⟨by (with_reducible repeat (first | apply Kd.R_alloc | apply Kd.R_drewN | apply Kd.R_drew)); exact Kd.R_mono HO436.out (fun _ hk => trivial)⟩, ⟨(bz2 HB.out GE430.out GE431.out)⟩⟩
       ·rw [if_neg c9] at H
        exact absurd H (by simp)
      ·rw [if_neg c7] at H
       have c7b0 : (((rd_T43 l0 x12_1).f0) == 1) = false := beq_eq_false_iff_ne.mpr c7
       have c7b1 : (((rd_T43 l0 x12_1).f0) != 1) = true := bne_iff_ne.mpr c7
       by_cases c20 : x4_1.length < 8796093022208
       ·rw [if_pos c20] at H
        have LMc20 := Aside0.mk c20
        clear c20
        obtain ⟨y437, hy437⟩ : ∃ y_ : List (S55), y_ = (x4_1 ++ [(⟨(-1), (-1)⟩ : S55)]) := ⟨_, rfl⟩
        replace H : (impl_binders.l0 k1 l0 t426 y437 l0 (l0.length : Int) (wrap64 (x12_1 + 1))) = some r := by first | (rw [hy437]; with_reducible exact H) | (have H2_ := (Option.bind_some _ _).symm.trans H; rw [hy437]; with_reducible exact H2_) | (have H2_ := (Option.bind_some _ _).symm.trans H; with_reducible exact H2_) | with_reducible exact H | (rw [hy437]; exact H) | exact H
        have Ny437 := Aside0.mk hy437
        clear hy437
        have H' := Aside0.mk H
        clear H
        have p429 : 0 ≤ (x12_1 : Int) := of_decide_eq_true az
        have q429 : x12_1 < (l0.length : Int) := of_decide_eq_true az
        obtain ⟨ad429, e429, hx429_0, hx429_1, hx429_2, hx429_3, hx429_4, hx429_5, hx429_6⟩ := at_T43 HR0.out x12_1 p429 q429
        cases e429
        replace hx429_0 := hz HB.out hx429_0
        replace hx429_1 := hz HB.out hx429_1
        replace hx429_2 := hz HB.out hx429_2
        replace hx429_3 := hz HB.out hx429_3
        replace hx429_4 := hz HB.out hx429_4
        replace hx429_5 := hz HB.out hx429_5
        replace hx429_6 := hz HB.out hx429_6
        replace p429 := eq_true p429
        replace q429 := eq_true q429
        go_wp2_with (first | ((with_reducible refine gate_dst (N := 6) rfl ?_); refine box_event ?hg (N := 6) ?hd (cs := #[.int .i64 0, .int .i64 0, .int .i64 0, .int .i64 0, .int .i64 0, .string (⟨#[]⟩ : ByteArray), .string (⟨#[]⟩ : ByteArray)]) (t := 43) ?hr ?_; (case hd => rfl); (case hg => rfl); (case hr => first | (go_simp; done) | (go_simp; rfl)); intro gb430 hg w21 hbox hb; have n0_ := Aside0.mk (Kd.R_below (rz HO_3.out) hb); have n1_ := Aside0.mk (Kd.R_below (rz HO_4.out) hb); have n2_ := Aside0.mk (below_step (bz0 HB.out) hb); have n3_ := Aside0.mk (hbox); have n4_ := Aside0.mk ((by rw [hg]; exact (below_size (bz0 HB.out)) : w.heap.size ≤ gb430)); have n5_ := Aside0.mk ((by rw [hg]; exact (below_size (bz0 HB.out)) : w.heap.size ≤ gb430)); clear HO_3; clear HO_4; clear HB; have HO_3 := n0_; have HO_4 := n1_; have HB := n2_; have BK430 := n3_; have GW430 := n4_; have GE430 := n5_; clear n0_ n1_ n2_ n3_ n4_ n5_; clear hb hbox hg; have hcz22_0 : w21.cell? ⟨gb430, 0, none⟩ = some (.int .i64 0) := (blk_cell BK430.out 0).trans rfl; have hcz22_1 : w21.cell? ⟨gb430, 1, none⟩ = some (.int .i64 0) := (blk_cell BK430.out 1).trans rfl; have hcz22_2 : w21.cell? ⟨gb430, 2, none⟩ = some (.int .i64 0) := (blk_cell BK430.out 2).trans rfl; have hcz22_3 : w21.cell? ⟨gb430, 3, none⟩ = some (.int .i64 0) := (blk_cell BK430.out 3).trans rfl; have hcz22_4 : w21.cell? ⟨gb430, 4, none⟩ = some (.int .i64 0) := (blk_cell BK430.out 4).trans rfl; have hcz22_5 : w21.cell? ⟨gb430, 5, none⟩ = some (.string (⟨#[]⟩ : ByteArray)) := (blk_cell BK430.out 5).trans rfl; have hcz22_6 : w21.cell? ⟨gb430, 6, none⟩ = some (.string (⟨#[]⟩ : ByteArray)) := (blk_cell BK430.out 6).trans rfl; have hfz22_0 := blk_frozen BK430.out 0; have hfz22_1 := blk_frozen BK430.out 1; have hfz22_2 := blk_frozen BK430.out 2; have hfz22_3 := blk_frozen BK430.out 3; have hfz22_4 := blk_frozen BK430.out 4; have hfz22_5 := blk_frozen BK430.out 5; have hfz22_6 := blk_frozen BK430.out 6) | ((with_reducible refine gate_dst (N := 7) rfl ?_); refine box_event ?hg (N := 7) ?hd (cs := #[.int .i64 0, .int .i64 0]) (t := 55) ?hr ?_; (case hd => rfl); (case hg => rfl); (case hr => first | (go_simp; done) | (go_simp; rfl)); intro gb431 hg w23 hbox hb; have n0_ := Aside0.mk (Kd.R_below (by (with_reducible repeat (first | apply Kd.R_alloc | apply Kd.R_drewN | apply Kd.R_drew)); exact (Kd.R_mono (Kd.R_far (p := ⟨gb430, 6, none⟩) (Kd.R_far (p := ⟨gb430, 5, none⟩) (Kd.R_far (p := ⟨gb430, 4, none⟩) (Kd.R_far (p := ⟨gb430, 3, none⟩) (Kd.R_far (p := ⟨gb430, 2, none⟩) (Kd.R_far (p := ⟨gb430, 1, none⟩) (Kd.R_far (p := ⟨gb430, 0, none⟩) (Kd.R_types HO_3.out BK430.out (by decide)) (fun _ hk => hk.2) (.int .i64 ((rd_T43 l0 x12_1).f0))) (fun _ hk => hk.2) (.int .i64 ((rd_T43 l0 x12_1).f1))) (fun _ hk => hk.2) (.int .i64 ((rd_T43 l0 x12_1).f2))) (fun _ hk => hk.2) (.int .i64 ((rd_T43 l0 x12_1).f3))) (fun _ hk => hk.2) (.int .i64 ((rd_T43 l0 x12_1).f4))) (fun _ hk => hk.2) (.string ((rd_T43 l0 x12_1).f5))) (fun _ hk => hk.2) (.string ((rd_T43 l0 x12_1).f6))) (fun _ h_ => h_.1))) hb); have n1_ := Aside0.mk (Kd.R_below (Kd.R_elderB (by (with_reducible repeat (first | apply Kd.R_alloc | apply Kd.R_drewN | apply Kd.R_drew)); exact (Kd.R_mono (Kd.R_far (p := ⟨gb430, 6, none⟩) (Kd.R_far (p := ⟨gb430, 5, none⟩) (Kd.R_far (p := ⟨gb430, 4, none⟩) (Kd.R_far (p := ⟨gb430, 3, none⟩) (Kd.R_far (p := ⟨gb430, 2, none⟩) (Kd.R_far (p := ⟨gb430, 1, none⟩) (Kd.R_far (p := ⟨gb430, 0, none⟩) (Kd.R_types HO_4.out BK430.out (by decide)) (fun _ hk => hk.2) (.int .i64 ((rd_T43 l0 x12_1).f0))) (fun _ hk => hk.2) (.int .i64 ((rd_T43 l0 x12_1).f1))) (fun _ hk => hk.2) (.int .i64 ((rd_T43 l0 x12_1).f2))) (fun _ hk => hk.2) (.int .i64 ((rd_T43 l0 x12_1).f3))) (fun _ hk => hk.2) (.int .i64 ((rd_T43 l0 x12_1).f4))) (fun _ hk => hk.2) (.string ((rd_T43 l0 x12_1).f5))) (fun _ hk => hk.2) (.string ((rd_T43 l0 x12_1).f6))) (fun _ h_ => h_.1))) gb431 (Nat.le_of_eq hg.symm)) hb); have n2_ := Aside0.mk (blk_below (g := gb430) (o := .cells #[.int .i64 ((rd_T43 l0 x12_1).f0), .int .i64 ((rd_T43 l0 x12_1).f1), .int .i64 ((rd_T43 l0 x12_1).f2), .int .i64 ((rd_T43 l0 x12_1).f3), .int .i64 ((rd_T43 l0 x12_1).f4), .string ((rd_T43 l0 x12_1).f5), .string ((rd_T43 l0 x12_1).f6)] 43 (0, 0)) (by (with_reducible repeat (first | refine blk_drewN ?_ _ | refine blk_drew ?_ | refine blk_alloc ?_ _)); refine blk_put (cs := #[.int .i64 ((rd_T43 l0 x12_1).f0), .int .i64 ((rd_T43 l0 x12_1).f1), .int .i64 ((rd_T43 l0 x12_1).f2), .int .i64 ((rd_T43 l0 x12_1).f3), .int .i64 ((rd_T43 l0 x12_1).f4), .string ((rd_T43 l0 x12_1).f5), .string (⟨#[]⟩ : ByteArray)]) ?_ 6 _ rfl; (with_reducible repeat (first | refine blk_drewN ?_ _ | refine blk_drew ?_ | refine blk_alloc ?_ _)); refine blk_put (cs := #[.int .i64 ((rd_T43 l0 x12_1).f0), .int .i64 ((rd_T43 l0 x12_1).f1), .int .i64 ((rd_T43 l0 x12_1).f2), .int .i64 ((rd_T43 l0 x12_1).f3), .int .i64 ((rd_T43 l0 x12_1).f4), .string (⟨#[]⟩ : ByteArray), .string (⟨#[]⟩ : ByteArray)]) ?_ 5 _ rfl; (with_reducible repeat (first | refine blk_drewN ?_ _ | refine blk_drew ?_ | refine blk_alloc ?_ _)); refine blk_put (cs := #[.int .i64 ((rd_T43 l0 x12_1).f0), .int .i64 ((rd_T43 l0 x12_1).f1), .int .i64 ((rd_T43 l0 x12_1).f2), .int .i64 ((rd_T43 l0 x12_1).f3), .int .i64 0, .string (⟨#[]⟩ : ByteArray), .string (⟨#[]⟩ : ByteArray)]) ?_ 4 _ rfl; (with_reducible repeat (first | refine blk_drewN ?_ _ | refine blk_drew ?_ | refine blk_alloc ?_ _)); refine blk_put (cs := #[.int .i64 ((rd_T43 l0 x12_1).f0), .int .i64 ((rd_T43 l0 x12_1).f1), .int .i64 ((rd_T43 l0 x12_1).f2), .int .i64 0, .int .i64 0, .string (⟨#[]⟩ : ByteArray), .string (⟨#[]⟩ : ByteArray)]) ?_ 3 _ rfl; (with_reducible repeat (first | refine blk_drewN ?_ _ | refine blk_drew ?_ | refine blk_alloc ?_ _)); refine blk_put (cs := #[.int .i64 ((rd_T43 l0 x12_1).f0), .int .i64 ((rd_T43 l0 x12_1).f1), .int .i64 0, .int .i64 0, .int .i64 0, .string (⟨#[]⟩ : ByteArray), .string (⟨#[]⟩ : ByteArray)]) ?_ 2 _ rfl; (with_reducible repeat (first | refine blk_drewN ?_ _ | refine blk_drew ?_ | refine blk_alloc ?_ _)); refine blk_put (cs := #[.int .i64 ((rd_T43 l0 x12_1).f0), .int .i64 0, .int .i64 0, .int .i64 0, .int .i64 0, .string (⟨#[]⟩ : ByteArray), .string (⟨#[]⟩ : ByteArray)]) ?_ 1 _ rfl; (with_reducible repeat (first | refine blk_drewN ?_ _ | refine blk_drew ?_ | refine blk_alloc ?_ _)); refine blk_put (cs := #[.int .i64 0, .int .i64 0, .int .i64 0, .int .i64 0, .int .i64 0, .string (⟨#[]⟩ : ByteArray), .string (⟨#[]⟩ : ByteArray)]) ?_ 0 _ rfl; (with_reducible repeat (first | refine blk_drewN ?_ _ | refine blk_drew ?_ | refine blk_alloc ?_ _)); exact BK430.out) hb); have n3_ := Aside0.mk (below_step (bz1 HB.out GE430.out) hb); have n4_ := Aside0.mk (hbox); have n5_ := Aside0.mk ((by rw [hg]; exact (below_size (bz1 HB.out GE430.out)) : w.heap.size ≤ gb431)); have n6_ := Aside0.mk ((by rw [hg]; exact (below_size (bz1 HB.out GE430.out)) : w.heap.size ≤ gb431)); have n7_ := Aside0.mk ((by rw [hg]; exact Nat.ne_of_lt (blk_lt (g := gb430) (o := .cells #[.int .i64 ((rd_T43 l0 x12_1).f0), .int .i64 ((rd_T43 l0 x12_1).f1), .int .i64 ((rd_T43 l0 x12_1).f2), .int .i64 ((rd_T43 l0 x12_1).f3), .int .i64 ((rd_T43 l0 x12_1).f4), .string ((rd_T43 l0 x12_1).f5), .string ((rd_T43 l0 x12_1).f6)] 43 (0, 0)) (by (with_reducible repeat (first | refine blk_drewN ?_ _ | refine blk_drew ?_ | refine blk_alloc ?_ _)); refine blk_put (cs := #[.int .i64 ((rd_T43 l0 x12_1).f0), .int .i64 ((rd_T43 l0 x12_1).f1), .int .i64 ((rd_T43 l0 x12_1).f2), .int .i64 ((rd_T43 l0 x12_1).f3), .int .i64 ((rd_T43 l0 x12_1).f4), .string ((rd_T43 l0 x12_1).f5), .string (⟨#[]⟩ : ByteArray)]) ?_ 6 _ rfl; (with_reducible repeat (first | refine blk_drewN ?_ _ | refine blk_drew ?_ | refine blk_alloc ?_ _)); refine blk_put (cs := #[.int .i64 ((rd_T43 l0 x12_1).f0), .int .i64 ((rd_T43 l0 x12_1).f1), .int .i64 ((rd_T43 l0 x12_1).f2), .int .i64 ((rd_T43 l0 x12_1).f3), .int .i64 ((rd_T43 l0 x12_1).f4), .string (⟨#[]⟩ : ByteArray), .string (⟨#[]⟩ : ByteArray)]) ?_ 5 _ rfl; (with_reducible repeat (first | refine blk_drewN ?_ _ | refine blk_drew ?_ | refine blk_alloc ?_ _)); refine blk_put (cs := #[.int .i64 ((rd_T43 l0 x12_1).f0), .int .i64 ((rd_T43 l0 x12_1).f1), .int .i64 ((rd_T43 l0 x12_1).f2), .int .i64 ((rd_T43 l0 x12_1).f3), .int .i64 0, .string (⟨#[]⟩ : ByteArray), .string (⟨#[]⟩ : ByteArray)]) ?_ 4 _ rfl; (with_reducible repeat (first | refine blk_drewN ?_ _ | refine blk_drew ?_ | refine blk_alloc ?_ _)); refine blk_put (cs := #[.int .i64 ((rd_T43 l0 x12_1).f0), .int .i64 ((rd_T43 l0 x12_1).f1), .int .i64 ((rd_T43 l0 x12_1).f2), .int .i64 0, .int .i64 0, .string (⟨#[]⟩ : ByteArray), .string (⟨#[]⟩ : ByteArray)]) ?_ 3 _ rfl; (with_reducible repeat (first | refine blk_drewN ?_ _ | refine blk_drew ?_ | refine blk_alloc ?_ _)); refine blk_put (cs := #[.int .i64 ((rd_T43 l0 x12_1).f0), .int .i64 ((rd_T43 l0 x12_1).f1), .int .i64 0, .int .i64 0, .int .i64 0, .string (⟨#[]⟩ : ByteArray), .string (⟨#[]⟩ : ByteArray)]) ?_ 2 _ rfl; (with_reducible repeat (first | refine blk_drewN ?_ _ | refine blk_drew ?_ | refine blk_alloc ?_ _)); refine blk_put (cs := #[.int .i64 ((rd_T43 l0 x12_1).f0), .int .i64 0, .int .i64 0, .int .i64 0, .int .i64 0, .string (⟨#[]⟩ : ByteArray), .string (⟨#[]⟩ : ByteArray)]) ?_ 1 _ rfl; (with_reducible repeat (first | refine blk_drewN ?_ _ | refine blk_drew ?_ | refine blk_alloc ?_ _)); refine blk_put (cs := #[.int .i64 0, .int .i64 0, .int .i64 0, .int .i64 0, .int .i64 0, .string (⟨#[]⟩ : ByteArray), .string (⟨#[]⟩ : ByteArray)]) ?_ 0 _ rfl; (with_reducible repeat (first | refine blk_drewN ?_ _ | refine blk_drew ?_ | refine blk_alloc ?_ _)); exact BK430.out)) : gb430 ≠ gb431)); have n8_ := Aside0.mk ((by rw [hg]; exact Nat.ne_of_gt (blk_lt (g := gb430) (o := .cells #[.int .i64 ((rd_T43 l0 x12_1).f0), .int .i64 ((rd_T43 l0 x12_1).f1), .int .i64 ((rd_T43 l0 x12_1).f2), .int .i64 ((rd_T43 l0 x12_1).f3), .int .i64 ((rd_T43 l0 x12_1).f4), .string ((rd_T43 l0 x12_1).f5), .string ((rd_T43 l0 x12_1).f6)] 43 (0, 0)) (by (with_reducible repeat (first | refine blk_drewN ?_ _ | refine blk_drew ?_ | refine blk_alloc ?_ _)); refine blk_put (cs := #[.int .i64 ((rd_T43 l0 x12_1).f0), .int .i64 ((rd_T43 l0 x12_1).f1), .int .i64 ((rd_T43 l0 x12_1).f2), .int .i64 ((rd_T43 l0 x12_1).f3), .int .i64 ((rd_T43 l0 x12_1).f4), .string ((rd_T43 l0 x12_1).f5), .string (⟨#[]⟩ : ByteArray)]) ?_ 6 _ rfl; (with_reducible repeat (first | refine blk_drewN ?_ _ | refine blk_drew ?_ | refine blk_alloc ?_ _)); refine blk_put (cs := #[.int .i64 ((rd_T43 l0 x12_1).f0), .int .i64 ((rd_T43 l0 x12_1).f1), .int .i64 ((rd_T43 l0 x12_1).f2), .int .i64 ((rd_T43 l0 x12_1).f3), .int .i64 ((rd_T43 l0 x12_1).f4), .string (⟨#[]⟩ : ByteArray), .string (⟨#[]⟩ : ByteArray)]) ?_ 5 _ rfl; (with_reducible repeat (first | refine blk_drewN ?_ _ | refine blk_drew ?_ | refine blk_alloc ?_ _)); refine blk_put (cs := #[.int .i64 ((rd_T43 l0 x12_1).f0), .int .i64 ((rd_T43 l0 x12_1).f1), .int .i64 ((rd_T43 l0 x12_1).f2), .int .i64 ((rd_T43 l0 x12_1).f3), .int .i64 0, .string (⟨#[]⟩ : ByteArray), .string (⟨#[]⟩ : ByteArray)]) ?_ 4 _ rfl; (with_reducible repeat (first | refine blk_drewN ?_ _ | refine blk_drew ?_ | refine blk_alloc ?_ _)); refine blk_put (cs := #[.int .i64 ((rd_T43 l0 x12_1).f0), .int .i64 ((rd_T43 l0 x12_1).f1), .int .i64 ((rd_T43 l0 x12_1).f2), .int .i64 0, .int .i64 0, .string (⟨#[]⟩ : ByteArray), .string (⟨#[]⟩ : ByteArray)]) ?_ 3 _ rfl; (with_reducible repeat (first | refine blk_drewN ?_ _ | refine blk_drew ?_ | refine blk_alloc ?_ _)); refine blk_put (cs := #[.int .i64 ((rd_T43 l0 x12_1).f0), .int .i64 ((rd_T43 l0 x12_1).f1), .int .i64 0, .int .i64 0, .int .i64 0, .string (⟨#[]⟩ : ByteArray), .string (⟨#[]⟩ : ByteArray)]) ?_ 2 _ rfl; (with_reducible repeat (first | refine blk_drewN ?_ _ | refine blk_drew ?_ | refine blk_alloc ?_ _)); refine blk_put (cs := #[.int .i64 ((rd_T43 l0 x12_1).f0), .int .i64 0, .int .i64 0, .int .i64 0, .int .i64 0, .string (⟨#[]⟩ : ByteArray), .string (⟨#[]⟩ : ByteArray)]) ?_ 1 _ rfl; (with_reducible repeat (first | refine blk_drewN ?_ _ | refine blk_drew ?_ | refine blk_alloc ?_ _)); refine blk_put (cs := #[.int .i64 0, .int .i64 0, .int .i64 0, .int .i64 0, .int .i64 0, .string (⟨#[]⟩ : ByteArray), .string (⟨#[]⟩ : ByteArray)]) ?_ 0 _ rfl; (with_reducible repeat (first | refine blk_drewN ?_ _ | refine blk_drew ?_ | refine blk_alloc ?_ _)); exact BK430.out)) : gb431 ≠ gb430)); clear HO_3; clear HO_4; clear BK430; clear HB; have HO_3 := n0_; have HO_4 := n1_; have BK430 := n2_; have HB := n3_; have BK431 := n4_; have GW431 := n5_; have GE431 := n6_; have NB430_431 := n7_; have NB431_430 := n8_; clear n0_ n1_ n2_ n3_ n4_ n5_ n6_ n7_ n8_; clear hb hbox hg; have hnb24 := NB431_430.out; have hnc24 := NB430_431.out; have hcz25_0 : w23.cell? ⟨gb431, 0, none⟩ = some (.int .i64 0) := (blk_cell BK431.out 0).trans rfl; have hcz25_1 : w23.cell? ⟨gb431, 1, none⟩ = some (.int .i64 0) := (blk_cell BK431.out 1).trans rfl; have hfz25_0 := blk_frozen BK431.out 0; have hfz25_1 := blk_frozen BK431.out 1; have hcz26_0 : w23.cell? ⟨gb430, 0, none⟩ = some (.int .i64 ((rd_T43 l0 x12_1).f0)) := (blk_cell BK430.out 0).trans rfl; have hcz26_1 : w23.cell? ⟨gb430, 1, none⟩ = some (.int .i64 ((rd_T43 l0 x12_1).f1)) := (blk_cell BK430.out 1).trans rfl; have hcz26_2 : w23.cell? ⟨gb430, 2, none⟩ = some (.int .i64 ((rd_T43 l0 x12_1).f2)) := (blk_cell BK430.out 2).trans rfl; have hcz26_3 : w23.cell? ⟨gb430, 3, none⟩ = some (.int .i64 ((rd_T43 l0 x12_1).f3)) := (blk_cell BK430.out 3).trans rfl; have hcz26_4 : w23.cell? ⟨gb430, 4, none⟩ = some (.int .i64 ((rd_T43 l0 x12_1).f4)) := (blk_cell BK430.out 4).trans rfl; have hcz26_5 : w23.cell? ⟨gb430, 5, none⟩ = some (.string ((rd_T43 l0 x12_1).f5)) := (blk_cell BK430.out 5).trans rfl; have hcz26_6 : w23.cell? ⟨gb430, 6, none⟩ = some (.string ((rd_T43 l0 x12_1).f6)) := (blk_cell BK430.out 6).trans rfl; have hfz26_0 := blk_frozen BK430.out 0; have hfz26_1 := blk_frozen BK430.out 1; have hfz26_2 := blk_frozen BK430.out 2; have hfz26_3 := blk_frozen BK430.out 3; have hfz26_4 := blk_frozen BK430.out 4; have hfz26_5 := blk_frozen BK430.out 5; have hfz26_6 := blk_frozen BK430.out 6) | ((with_reducible refine gate_builtin (b := .append) (xs := #[.tmp 27, .tmp 29]) rfl ?_); at_builtin; refine Kd.R_append k55 (w0 := w) w.heap.size rfl (.tmp 27) (.tmp 29) 57 55 (.agg #[(.int .i64 0), (.int .i64 0)]) 16 rfl Tryd.underlying57 info55 rfl (by decide) (by omega) u4 x4_1 (⟨(-1), (-1)⟩ : S55) [.int .i64 (-1), .int .i64 (-1)] (fun k_ => k_ ≠ gb431) (fun _ => False) rfl (by first | (go_simp; done) | (go_simp; rfl)) ?aP (fun _ hk => hk.elim) ?aF ?aO ?aB ?aS ?aL ?_; (case aP => exact k55_mkM _ _ _ (⟨(-1), (-1)⟩ : S55)); (case aB => exact (bz2 HB.out GE430.out GE431.out)); (case aF => exact (fun k_ hk => Kd.freshB (g := gb431) (o := .cells #[.int .i64 (-1), .int .i64 (-1)] 55 (0, 0)) (by (with_reducible repeat (first | refine blk_drewN ?_ _ | refine blk_drew ?_ | refine blk_alloc ?_ _)); refine blk_put (cs := #[.int .i64 (-1), .int .i64 0]) ?_ 1 _ rfl; (with_reducible repeat (first | refine blk_drewN ?_ _ | refine blk_drew ?_ | refine blk_alloc ?_ _)); refine blk_put (cs := #[.int .i64 0, .int .i64 0]) ?_ 0 _ rfl; (with_reducible repeat (first | refine blk_drewN ?_ _ | refine blk_drew ?_ | refine blk_alloc ?_ _)); exact BK431.out) k_ hk)); (case aO => exact (by (with_reducible repeat (first | apply Kd.R_alloc | apply Kd.R_drewN | apply Kd.R_drew)); first | (with_reducible exact Kd.R_mono (Kd.R_far (p := ⟨gb431, 1, none⟩) (Kd.R_far (p := ⟨gb431, 0, none⟩) (Kd.R_mono HO_4.out (fun k_ hk => (⟨hk, hk.2⟩ : _ ∧ k_ ≠ gb431))) (fun _ hk => hk.2) (.int .i64 (-1))) (fun _ hk => hk.2) (.int .i64 (-1))) (fun _ hk => hk.1.2)) | (with_reducible exact Kd.R_mono (Kd.R_far (p := ⟨gb431, 1, none⟩) (Kd.R_drewN (Kd.R_far (p := ⟨gb431, 0, none⟩) (Kd.R_mono HO_4.out (fun k_ hk => (⟨hk, hk.2⟩ : _ ∧ k_ ≠ gb431))) (fun _ hk => hk.2) (.int .i64 (-1))) _) (fun _ hk => hk.2) (.int .i64 (-1))) (fun _ hk => hk.1.2)) | exact Kd.R_mono (Kd.R_far (p := ⟨gb431, 1, none⟩) (Kd.R_drewN (Kd.R_far (p := ⟨gb431, 0, none⟩) (Kd.R_mono HO_4.out (fun k_ hk => (⟨hk, hk.2⟩ : _ ∧ k_ ≠ gb431))) (fun _ hk => hk.2) (.int .i64 (-1))) _) (fun _ hk => hk.2) (.int .i64 (-1))) (fun _ hk => hk.1.2))); (case aS => exact (below_size (bz2 HB.out GE430.out GE431.out))); (case aL => have := LMc20.out; omega); intro v438 w27 ho hb hg hat; rw [← Ny437.out] at ho; have n0_ := Aside0.mk (Kd.R_over' (by (with_reducible repeat (first | apply Kd.R_alloc | apply Kd.R_drewN | apply Kd.R_drew)); exact (Kd.R_mono (Kd.R_far (p := ⟨gb431, 1, none⟩) (Kd.R_far (p := ⟨gb431, 0, none⟩) (Kd.R_types HO_3.out BK431.out (by decide)) (fun _ hk => hk.2) (.int .i64 (-1))) (fun _ hk => hk.2) (.int .i64 (-1))) (fun _ h_ => h_.1))) (Kd.R_typed (by (with_reducible repeat (first | apply Kd.R_alloc | apply Kd.R_drewN | apply Kd.R_drew)); exact (Kd.R_mono (Kd.R_far (p := ⟨gb431, 1, none⟩) (Kd.R_far (p := ⟨gb431, 0, none⟩) (Kd.R_mono HO_4.out (fun k_ hk => (⟨hk, hk.2⟩ : _ ∧ k_ ≠ gb431))) (fun _ hk => hk.2) (.int .i64 (-1))) (fun _ hk => hk.2) (.int .i64 (-1))) (fun _ h_ => h_.1)))) (by decide) hg); have n1_ := Aside0.mk (blk_grown (g := gb430) (o := .cells #[.int .i64 ((rd_T43 l0 x12_1).f0), .int .i64 ((rd_T43 l0 x12_1).f1), .int .i64 ((rd_T43 l0 x12_1).f2), .int .i64 ((rd_T43 l0 x12_1).f3), .int .i64 ((rd_T43 l0 x12_1).f4), .string ((rd_T43 l0 x12_1).f5), .string ((rd_T43 l0 x12_1).f6)] 43 (0, 0)) (by (with_reducible repeat (first | refine blk_drewN ?_ _ | refine blk_drew ?_ | refine blk_alloc ?_ _)); refine blk_far ?_ NB430_431.out _; (with_reducible repeat (first | refine blk_drewN ?_ _ | refine blk_drew ?_ | refine blk_alloc ?_ _)); refine blk_far ?_ NB430_431.out _; (with_reducible repeat (first | refine blk_drewN ?_ _ | refine blk_drew ?_ | refine blk_alloc ?_ _)); exact BK430.out) hg (Kd.R_ne HO_4.out BK430.out (by decide))); have n2_ := Aside0.mk (blk_grown (g := gb431) (o := .cells #[.int .i64 (-1), .int .i64 (-1)] 55 (0, 0)) (by (with_reducible repeat (first | refine blk_drewN ?_ _ | refine blk_drew ?_ | refine blk_alloc ?_ _)); refine blk_put (cs := #[.int .i64 (-1), .int .i64 0]) ?_ 1 _ rfl; (with_reducible repeat (first | refine blk_drewN ?_ _ | refine blk_drew ?_ | refine blk_alloc ?_ _)); refine blk_put (cs := #[.int .i64 0, .int .i64 0]) ?_ 0 _ rfl; (with_reducible repeat (first | refine blk_drewN ?_ _ | refine blk_drew ?_ | refine blk_alloc ?_ _)); exact BK431.out) hg (Kd.R_away HO_4.out (fun _ hk => hk.2))); have n3_ := Aside0.mk (hb); have n4_ := Aside0.mk (ho); clear HO_3; clear BK430; clear BK431; clear HB; clear HO_4; have HO_3 := n0_; have BK430 := n1_; have BK431 := n2_; have HB := n3_; have HO439 := n4_; clear n0_ n1_ n2_ n3_ n4_; clear ho hb hg hat))
        go_roundg k1
        case measure => have := HK1.out; omega
        case rel => exact ⟨(y437), (wrap64 (x12_1 + 1)), ez, H', ⟨by have := HK1.out; omega⟩, ⟨by (with_reducible repeat (first | apply Kd.R_alloc | apply Kd.R_drewN | apply Kd.R_drew)); exact HO_3.out⟩, ⟨by (with_reducible repeat (first | apply Kd.R_alloc | apply Kd.R_drewN | apply Kd.R_drew)); exact Kd.R_mono HO439.out (fun _ hk => trivial)⟩, ⟨(bz2 HB.out GE430.out GE431.out)⟩⟩
       ·rw [if_neg c20] at H
        exact absurd H (by simp)
     ·rw [if_neg c6] at H
      exact absurd H (by simp)
    ·rw [if_neg c5] at H
     exact absurd H (by simp)
   ·rw [if_neg c4] at H
    have c4b0 : decide (x12_1 < (l0.length : Int)) = false := decide_eq_false c4
    clear c4
    obtain rfl := Option.some.inj H
    go_wp2
    go_ret
    exact ⟨_, gz, by (with_reducible repeat (first | apply Kd.R_alloc | apply Kd.R_drewN | apply Kd.R_drew)); exact HO_4.out, (bz0 HB.out)⟩
def impl_FreeNames.l0 : Nat → List (S43) → List ByteArray → List (S55) → Int → Int → Option (List ByteArray)
 | 0, _, _, _, _, _ => none
 | k + 1, x0, x3, x10, x11, x12 => if x12 < x11 then (if 0 ≤ x12 then (if x12 < (x10.length : Int) then (if x12 < (x0.length : Int) then (if ((rd_T43 x0 x12).f0) = 1 then (if ((rd_T55 x10 x12).f0) < 0 then (if x3.length < 8796093022208 then (impl_FreeNames.l0 k x0 (x3 ++ [(rd_T43 x0 x12).f5]) x10 x11 (wrap64 (x12 + 1))) else (none)) else (impl_FreeNames.l0 k x0 x3 x10 x11 (wrap64 (x12 + 1)))) else (impl_FreeNames.l0 k x0 x3 x10 x11 (wrap64 (x12 + 1)))) else (none)) else (none)) else (none)) else ((impl_sorted.f k x3).bind fun bt451 => (some bt451.1))
def impl_FreeNames.f (k : Nat) (l0 : List (S43)) : Option (List ByteArray) := (impl_NodesOk.f k l0).bind fun t440 => (if t440 = true then ((impl_binders.f k l0).bind fun t441 => (impl_FreeNames.l0 k l0 ([] : List ByteArray) t441 (t441.length : Int) 0)) else (some ([] : List ByteArray)))
theorem impl_FreeNames.mono_l : ∀ k, (∀ y0 y1 y2 y3 y4, LeO (impl_FreeNames.l0 k y0 y1 y2 y3 y4) (impl_FreeNames.l0 (k + 1) y0 y1 y2 y3 y4))
 | 0 => fun _ _ _ _ _ r h => by simp [impl_FreeNames.l0] at h
 | k + 1 => by
  have ih0 := impl_FreeNames.mono_l k
  ·intro y0 y1 y2 y3 y4
   unfold impl_FreeNames.l0
   repeat' first
   | (with_reducible exact ih0 _ _ _ _ _)
   | (with_reducible exact impl_NodesOk.mono _ _)
   | (with_reducible exact impl_binders.mono _ _)
   | (with_reducible exact impl_sorted.mono _ _)
   | (with_reducible exact LeO.refl _)
   | (with_reducible exact LeO.none _)
   | (with_reducible refine LeO.ite ?_ ?_)
   | (with_reducible refine LeO.bind ?_ (fun _ => ?_))
   | exact ih0 _ _ _ _ _
   | exact impl_NodesOk.mono _ _
   | exact impl_binders.mono _ _
   | exact impl_sorted.mono _ _
   | exact LeO.none _
   | refine LeO.ite ?_ ?_
   | refine LeO.bind ?_ (fun _ => ?_)
theorem impl_FreeNames.mono : ∀ a0 k, LeO (impl_FreeNames.f k a0) (impl_FreeNames.f (k + 1) a0) := by
 intro a0 k
 have ih0 := impl_FreeNames.mono_l k
 unfold impl_FreeNames.f
 repeat' first
   | (with_reducible exact ih0 _ _ _ _ _)
   | (with_reducible exact impl_NodesOk.mono _ _)
   | (with_reducible exact impl_binders.mono _ _)
   | (with_reducible exact impl_sorted.mono _ _)
   | (with_reducible exact LeO.refl _)
   | (with_reducible exact LeO.none _)
   | (with_reducible refine LeO.ite ?_ ?_)
   | (with_reducible refine LeO.bind ?_ (fun _ => ?_))
   | exact ih0 _ _ _ _ _
   | exact impl_NodesOk.mono _ _
   | exact impl_binders.mono _ _
   | exact impl_sorted.mono _ _
   | exact LeO.none _
   | refine LeO.ite ?_ ?_
   | refine LeO.bind ?_ (fun _ => ?_)
set_option maxHeartbeats 8000000 in
set_option maxRecDepth 100000 in
theorem impl_FreeNames.calls (k : Nat) (A0 : Option Addr) (c0 : Nat) (l0 : List (S43)) (r : List ByteArray) (w : World) (hr0 : Kd.C k43 w A0 l0.length l0) (hc0 : l0.length ≤ c0) (h : impl_FreeNames.f k l0 = some r) :
  Calls Tryd.prog 26 #[.slice A0 l0.length c0] w fun e w' => ∃ v0_ : Value, e = .returned (v0_) ∧ Kd.R Kd.string 9 w' w.heap.size (fun _ => True) v0_ r ∧ Below w.heap.size w w' := by
 have hu55 := Tryd.underlying55
 have HR0 := Aside0.mk hr0
 have HC0 := Aside0.mk hc0
 clear hr0 hc0
 have HB := Aside0.mk (Below.refl w.heap.size w)
 have H : ((impl_NodesOk.f k l0).bind fun t440 => (if t440 = true then ((impl_binders.f k l0).bind fun t441 => (impl_FreeNames.l0 k l0 ([] : List ByteArray) t441 (t441.length : Int) 0)) else (some ([] : List ByteArray)))) = some r := h
 clear h
 replace H := Option.bind_eq_some_iff.mp H
 obtain ⟨t440, A20, H⟩ := H
 replace H : (if t440 = true then ((impl_binders.f k l0).bind fun t441 => (impl_FreeNames.l0 k l0 ([] : List ByteArray) t441 (t441.length : Int) 0)) else (some ([] : List ByteArray))) = some r := H
 have A2 := Aside0.mk A20
 clear A20
 by_cases c3 : t440 = true
 ·subst c3
  have H1 : ((impl_binders.f k l0).bind fun t441 => (impl_FreeNames.l0 k l0 ([] : List ByteArray) t441 (t441.length : Int) 0)) = some r := by rw [if_pos rfl] at H; exact H
  clear H
  have H := H1
  clear H1
  replace H := Option.bind_eq_some_iff.mp H
  obtain ⟨t441, A40, H⟩ := H
  replace H : (impl_FreeNames.l0 k l0 ([] : List ByteArray) t441 (t441.length : Int) 0) = some r := H
  have A4 := Aside0.mk A40
  clear A40
  have H' := Aside0.mk H
  clear H
  go_enter Tryd.func26, Tryd.ntmps26
  go_wp2_with (first | ((with_reducible refine gate_callee (f := 36) rfl ?_); refine goesL_ (some 7) rfl rfl Tryd.func36 (by kernel_rfl) rfl #[.slice A0 l0.length c0] rfl lz ?_; (with_reducible refine (impl_NodesOk.calls k _ _ l0 true _ ?side1 ?side2 A2.out).mono ?_); (case side1 => repeat (first | exact HR0.out | (with_reducible refine Kd.C_alloc ?_ _) | (with_reducible refine Kd.C_drewN ?_ _) | (with_reducible refine Kd.C_drew ?_))); (case side2 => exact HC0.out); rintro e w5 ⟨rfl, hb⟩; refine ⟨_, rfl, ?_⟩; have n0_ := Aside0.mk (below_step (bz0 HB.out) hb); clear HB; have HB := n0_; clear n0_; (try clear hb); (try clear hb2); (try clear hk); (try clear hi)) | ((with_reducible refine gate_callee (f := 50) rfl ?_); refine goesL_ (some 10) rfl rfl Tryd.func50 (by kernel_rfl) rfl #[.slice A0 l0.length c0] rfl lz ?_; (with_reducible refine (impl_binders.calls k _ _ l0 t441 _ ?side1 ?side2 A4.out).mono ?_); (case side1 => exact cz (Kd.C_below HR0.out HB.out)); (case side2 => exact HC0.out); rintro e w6 ⟨v442, rfl, ho0, hb⟩; refine ⟨_, rfl, ?_⟩; have n0_ := Aside0.mk (Kd.R_lower ho0 (below_size (bz0 HB.out))); have n1_ := Aside0.mk (below_step (bz0 HB.out) hb); clear HB; have HO443 := n0_; have HB := n1_; clear n0_ n1_; (try clear hb); (try clear hb2); (try clear hk); (try clear hi); (try clear ho0); obtain ⟨Ao7, co7, eo7⟩ := Kd.R_slice HO443.out; subst eo7))
  go_loopg [3, 12] k (fun kq v3 v12 w' => ∃ (x3_1 : List ByteArray) (x12_1 : Int), v12 = .int .i64 x12_1 ∧ Aside0 (impl_FreeNames.l0 kq l0 x3_1 t441 (t441.length : Int) x12_1 = some r) ∧ Aside0 (kq ≤ k) ∧ Aside0 (Kd.R Kd.string 9 w' w.heap.size (fun _ => True) v3 x3_1) ∧ Aside0 (Kd.R k55 55 w' w.heap.size (fun _ => True) (.slice Ao7 t441.length co7) t441) ∧ Aside0 (Below w.heap.size w w'))
  case atStart => exact ⟨(([] : List ByteArray)), (0), ez, H', ⟨Nat.le_refl _⟩, ⟨by first | exact Kd.R_nil _ _ _ _ _ | exact Kd.N_nil _ _ _ _ _ | exact Kd.V_nil _ _ _ _ _ | exact Kd.Q_nil _ _ _ _ _ | exact Kd.S_nil _ _ _ _ _⟩, ⟨by (with_reducible repeat (first | apply Kd.R_alloc | apply Kd.R_drewN | apply Kd.R_drew)); exact HO443.out⟩, ⟨(bz0 HB.out)⟩⟩
  case round =>
   clear H'
   try clear c2
   try clear p2
   try clear c3
   try clear c5
   obtain ⟨x3_1, x12_1, rfl, HA, HK1, HO_3, HO_10, HB⟩ := hrel
   cases gk with
   | zero => exact absurd HA.out (by simp [impl_FreeNames.l0])
   | succ k1 =>
    have H := HA.out
    clear HA
    simp only [impl_FreeNames.l0] at H
    by_cases c8 : x12_1 < (t441.length : Int)
    ·rw [if_pos c8] at H
     have c8b0 : decide (x12_1 < (t441.length : Int)) = true := decide_eq_true c8
     clear c8
     by_cases c9 : 0 ≤ x12_1
     ·rw [if_pos c9] at H
      have c9b0 : decide (0 ≤ x12_1) = true := decide_eq_true c9
      clear c9
      by_cases c10 : x12_1 < (t441.length : Int)
      ·rw [if_pos c10] at H
       have c10b0 : decide (x12_1 < (t441.length : Int)) = true := decide_eq_true c10
       clear c10
       by_cases c11 : x12_1 < (l0.length : Int)
       ·rw [if_pos c11] at H
        have c11b0 : decide (x12_1 < (l0.length : Int)) = true := decide_eq_true c11
        clear c11
        by_cases c12 : ((rd_T43 l0 x12_1).f0) = 1
        ·rw [if_pos c12] at H
         have c12b0 : (((rd_T43 l0 x12_1).f0) == 1) = true := beq_iff_eq.mpr c12
         have c12b1 : (((rd_T43 l0 x12_1).f0) != 1) = false := bne_eq_false_iff_eq.mpr c12
         clear c12
         by_cases c13 : ((rd_T55 t441 x12_1).f0) < 0
         ·rw [if_pos c13] at H
          have c13b0 : decide (((rd_T55 t441 x12_1).f0) < 0) = true := decide_eq_true c13
          clear c13
          by_cases c14 : x3_1.length < 8796093022208
          ·rw [if_pos c14] at H
           have LMc14 := Aside0.mk c14
           clear c14
           obtain ⟨y448, hy448⟩ : ∃ y_ : List ByteArray, y_ = (x3_1 ++ [(rd_T43 l0 x12_1).f5]) := ⟨_, rfl⟩
           replace H : (impl_FreeNames.l0 k1 l0 y448 t441 (t441.length : Int) (wrap64 (x12_1 + 1))) = some r := by first | (rw [hy448]; with_reducible exact H) | (have H2_ := (Option.bind_some _ _).symm.trans H; rw [hy448]; with_reducible exact H2_) | (have H2_ := (Option.bind_some _ _).symm.trans H; with_reducible exact H2_) | with_reducible exact H | (rw [hy448]; exact H) | exact H
           have Ny448 := Aside0.mk hy448
           clear hy448
           have H' := Aside0.mk H
           clear H
           have p444 : 0 ≤ (x12_1 : Int) := of_decide_eq_true az
           have q444 : x12_1 < (t441.length : Int) := of_decide_eq_true az
           obtain ⟨ad444, e444, hx444_0, hx444_1⟩ := at_T55 (Kd.R_reads' HO_10.out).2.2 x12_1 p444 q444
           cases e444
           replace p444 := eq_true p444
           replace q444 := eq_true q444
           go_wp2_with (first | ((with_reducible refine gate_dst (N := 5) rfl ?_); refine box_event ?hg (N := 5) ?hd (cs := #[.int .i64 0, .int .i64 0]) (t := 55) ?hr ?_; (case hd => rfl); (case hg => rfl); (case hr => first | (go_simp; done) | (go_simp; rfl)); intro gb445 hg w15 hbox hb; have n0_ := Aside0.mk (Kd.R_below (rz HO_3.out) hb); have n1_ := Aside0.mk (Kd.R_below (Kd.R_elderB (rz HO_10.out) gb445 (Nat.le_of_eq hg.symm)) hb); have n2_ := Aside0.mk (below_step (bz0 HB.out) hb); have n3_ := Aside0.mk (hbox); have n4_ := Aside0.mk ((by rw [hg]; exact (below_size (bz0 HB.out)) : w.heap.size ≤ gb445)); have n5_ := Aside0.mk ((by rw [hg]; exact (below_size (bz0 HB.out)) : w.heap.size ≤ gb445)); clear HO_3; clear HO_10; clear HB; have HO_3 := n0_; have HO_10 := n1_; have HB := n2_; have BK445 := n3_; have GW445 := n4_; have GE445 := n5_; clear n0_ n1_ n2_ n3_ n4_ n5_; clear hb hbox hg; have hcz16_0 : w15.cell? ⟨gb445, 0, none⟩ = some (.int .i64 0) := (blk_cell BK445.out 0).trans rfl; have hcz16_1 : w15.cell? ⟨gb445, 1, none⟩ = some (.int .i64 0) := (blk_cell BK445.out 1).trans rfl; have hfz16_0 := blk_frozen BK445.out 0; have hfz16_1 := blk_frozen BK445.out 1; have p446 : 0 ≤ (x12_1 : Int) := of_decide_eq_true az; have q446 : x12_1 < (l0.length : Int) := of_decide_eq_true az; obtain ⟨ad446, e446, hx446_0, hx446_1, hx446_2, hx446_3, hx446_4, hx446_5, hx446_6⟩ := at_T43 HR0.out x12_1 p446 q446; cases e446; have hn446_0 : ad446.block ≠ gb445 := Nat.ne_of_lt (Nat.lt_of_lt_of_le (by have := World.block_lt_of_cell? _ _ hx446_0; first | rwa [add_block] at this | exact this) GW445.out); have hn446_1 : ad446.block ≠ gb445 := Nat.ne_of_lt (Nat.lt_of_lt_of_le (by have := World.block_lt_of_cell? _ _ hx446_0; first | rwa [add_block] at this | exact this) GW445.out); replace hx446_0 := hz HB.out hx446_0; replace hx446_1 := hz HB.out hx446_1; replace hx446_2 := hz HB.out hx446_2; replace hx446_3 := hz HB.out hx446_3; replace hx446_4 := hz HB.out hx446_4; replace hx446_5 := hz HB.out hx446_5; replace hx446_6 := hz HB.out hx446_6; replace hx446_0 := (cell_far (p := ⟨gb445, 0, none⟩) (by first | (rw [add_block]; exact hn446_0) | (show (Addr.add _ _).block ≠ _; rw [add_block]; exact hn446_0) | exact hn446_0) (.int .i64 ((rd_T55 t441 x12_1).f0))).trans hx446_0; replace hx446_1 := (cell_far (p := ⟨gb445, 0, none⟩) (by first | (rw [add_block]; exact hn446_0) | (show (Addr.add _ _).block ≠ _; rw [add_block]; exact hn446_0) | exact hn446_0) (.int .i64 ((rd_T55 t441 x12_1).f0))).trans hx446_1; replace hx446_2 := (cell_far (p := ⟨gb445, 0, none⟩) (by first | (rw [add_block]; exact hn446_0) | (show (Addr.add _ _).block ≠ _; rw [add_block]; exact hn446_0) | exact hn446_0) (.int .i64 ((rd_T55 t441 x12_1).f0))).trans hx446_2; replace hx446_3 := (cell_far (p := ⟨gb445, 0, none⟩) (by first | (rw [add_block]; exact hn446_0) | (show (Addr.add _ _).block ≠ _; rw [add_block]; exact hn446_0) | exact hn446_0) (.int .i64 ((rd_T55 t441 x12_1).f0))).trans hx446_3; replace hx446_4 := (cell_far (p := ⟨gb445, 0, none⟩) (by first | (rw [add_block]; exact hn446_0) | (show (Addr.add _ _).block ≠ _; rw [add_block]; exact hn446_0) | exact hn446_0) (.int .i64 ((rd_T55 t441 x12_1).f0))).trans hx446_4; replace hx446_5 := (cell_far (p := ⟨gb445, 0, none⟩) (by first | (rw [add_block]; exact hn446_0) | (show (Addr.add _ _).block ≠ _; rw [add_block]; exact hn446_0) | exact hn446_0) (.int .i64 ((rd_T55 t441 x12_1).f0))).trans hx446_5; replace hx446_6 := (cell_far (p := ⟨gb445, 0, none⟩) (by first | (rw [add_block]; exact hn446_0) | (show (Addr.add _ _).block ≠ _; rw [add_block]; exact hn446_0) | exact hn446_0) (.int .i64 ((rd_T55 t441 x12_1).f0))).trans hx446_6; replace hx446_0 := (cell_far (p := ⟨gb445, 1, none⟩) (by first | (rw [add_block]; exact hn446_1) | (show (Addr.add _ _).block ≠ _; rw [add_block]; exact hn446_1) | exact hn446_1) (.int .i64 ((rd_T55 t441 x12_1).f1))).trans hx446_0; replace hx446_1 := (cell_far (p := ⟨gb445, 1, none⟩) (by first | (rw [add_block]; exact hn446_1) | (show (Addr.add _ _).block ≠ _; rw [add_block]; exact hn446_1) | exact hn446_1) (.int .i64 ((rd_T55 t441 x12_1).f1))).trans hx446_1; replace hx446_2 := (cell_far (p := ⟨gb445, 1, none⟩) (by first | (rw [add_block]; exact hn446_1) | (show (Addr.add _ _).block ≠ _; rw [add_block]; exact hn446_1) | exact hn446_1) (.int .i64 ((rd_T55 t441 x12_1).f1))).trans hx446_2; replace hx446_3 := (cell_far (p := ⟨gb445, 1, none⟩) (by first | (rw [add_block]; exact hn446_1) | (show (Addr.add _ _).block ≠ _; rw [add_block]; exact hn446_1) | exact hn446_1) (.int .i64 ((rd_T55 t441 x12_1).f1))).trans hx446_3; replace hx446_4 := (cell_far (p := ⟨gb445, 1, none⟩) (by first | (rw [add_block]; exact hn446_1) | (show (Addr.add _ _).block ≠ _; rw [add_block]; exact hn446_1) | exact hn446_1) (.int .i64 ((rd_T55 t441 x12_1).f1))).trans hx446_4; replace hx446_5 := (cell_far (p := ⟨gb445, 1, none⟩) (by first | (rw [add_block]; exact hn446_1) | (show (Addr.add _ _).block ≠ _; rw [add_block]; exact hn446_1) | exact hn446_1) (.int .i64 ((rd_T55 t441 x12_1).f1))).trans hx446_5; replace hx446_6 := (cell_far (p := ⟨gb445, 1, none⟩) (by first | (rw [add_block]; exact hn446_1) | (show (Addr.add _ _).block ≠ _; rw [add_block]; exact hn446_1) | exact hn446_1) (.int .i64 ((rd_T55 t441 x12_1).f1))).trans hx446_6; clear hn446_0; clear hn446_1; replace p446 := eq_true p446; replace q446 := eq_true q446; have p447 : 0 ≤ (x12_1 : Int) := of_decide_eq_true az; have q447 : x12_1 < (l0.length : Int) := of_decide_eq_true az; obtain ⟨ad447, e447, hx447_0, hx447_1, hx447_2, hx447_3, hx447_4, hx447_5, hx447_6⟩ := at_T43 HR0.out x12_1 p447 q447; obtain rfl : ad446 = ad447 := (by injection e447); have hn447_0 : ad446.block ≠ gb445 := Nat.ne_of_lt (Nat.lt_of_lt_of_le (by have := World.block_lt_of_cell? _ _ hx447_0; first | rwa [add_block] at this | exact this) GW445.out); have hn447_1 : ad446.block ≠ gb445 := Nat.ne_of_lt (Nat.lt_of_lt_of_le (by have := World.block_lt_of_cell? _ _ hx447_0; first | rwa [add_block] at this | exact this) GW445.out); replace hx447_0 := hz HB.out hx447_0; replace hx447_1 := hz HB.out hx447_1; replace hx447_2 := hz HB.out hx447_2; replace hx447_3 := hz HB.out hx447_3; replace hx447_4 := hz HB.out hx447_4; replace hx447_5 := hz HB.out hx447_5; replace hx447_6 := hz HB.out hx447_6; replace hx447_0 := (cell_far (p := ⟨gb445, 0, none⟩) (by first | (rw [add_block]; exact hn447_0) | (show (Addr.add _ _).block ≠ _; rw [add_block]; exact hn447_0) | exact hn447_0) (.int .i64 ((rd_T55 t441 x12_1).f0))).trans hx447_0; replace hx447_1 := (cell_far (p := ⟨gb445, 0, none⟩) (by first | (rw [add_block]; exact hn447_0) | (show (Addr.add _ _).block ≠ _; rw [add_block]; exact hn447_0) | exact hn447_0) (.int .i64 ((rd_T55 t441 x12_1).f0))).trans hx447_1; replace hx447_2 := (cell_far (p := ⟨gb445, 0, none⟩) (by first | (rw [add_block]; exact hn447_0) | (show (Addr.add _ _).block ≠ _; rw [add_block]; exact hn447_0) | exact hn447_0) (.int .i64 ((rd_T55 t441 x12_1).f0))).trans hx447_2; replace hx447_3 := (cell_far (p := ⟨gb445, 0, none⟩) (by first | (rw [add_block]; exact hn447_0) | (show (Addr.add _ _).block ≠ _; rw [add_block]; exact hn447_0) | exact hn447_0) (.int .i64 ((rd_T55 t441 x12_1).f0))).trans hx447_3; replace hx447_4 := (cell_far (p := ⟨gb445, 0, none⟩) (by first | (rw [add_block]; exact hn447_0) | (show (Addr.add _ _).block ≠ _; rw [add_block]; exact hn447_0) | exact hn447_0) (.int .i64 ((rd_T55 t441 x12_1).f0))).trans hx447_4; replace hx447_5 := (cell_far (p := ⟨gb445, 0, none⟩) (by first | (rw [add_block]; exact hn447_0) | (show (Addr.add _ _).block ≠ _; rw [add_block]; exact hn447_0) | exact hn447_0) (.int .i64 ((rd_T55 t441 x12_1).f0))).trans hx447_5; replace hx447_6 := (cell_far (p := ⟨gb445, 0, none⟩) (by first | (rw [add_block]; exact hn447_0) | (show (Addr.add _ _).block ≠ _; rw [add_block]; exact hn447_0) | exact hn447_0) (.int .i64 ((rd_T55 t441 x12_1).f0))).trans hx447_6; replace hx447_0 := (cell_far (p := ⟨gb445, 1, none⟩) (by first | (rw [add_block]; exact hn447_1) | (show (Addr.add _ _).block ≠ _; rw [add_block]; exact hn447_1) | exact hn447_1) (.int .i64 ((rd_T55 t441 x12_1).f1))).trans hx447_0; replace hx447_1 := (cell_far (p := ⟨gb445, 1, none⟩) (by first | (rw [add_block]; exact hn447_1) | (show (Addr.add _ _).block ≠ _; rw [add_block]; exact hn447_1) | exact hn447_1) (.int .i64 ((rd_T55 t441 x12_1).f1))).trans hx447_1; replace hx447_2 := (cell_far (p := ⟨gb445, 1, none⟩) (by first | (rw [add_block]; exact hn447_1) | (show (Addr.add _ _).block ≠ _; rw [add_block]; exact hn447_1) | exact hn447_1) (.int .i64 ((rd_T55 t441 x12_1).f1))).trans hx447_2; replace hx447_3 := (cell_far (p := ⟨gb445, 1, none⟩) (by first | (rw [add_block]; exact hn447_1) | (show (Addr.add _ _).block ≠ _; rw [add_block]; exact hn447_1) | exact hn447_1) (.int .i64 ((rd_T55 t441 x12_1).f1))).trans hx447_3; replace hx447_4 := (cell_far (p := ⟨gb445, 1, none⟩) (by first | (rw [add_block]; exact hn447_1) | (show (Addr.add _ _).block ≠ _; rw [add_block]; exact hn447_1) | exact hn447_1) (.int .i64 ((rd_T55 t441 x12_1).f1))).trans hx447_4; replace hx447_5 := (cell_far (p := ⟨gb445, 1, none⟩) (by first | (rw [add_block]; exact hn447_1) | (show (Addr.add _ _).block ≠ _; rw [add_block]; exact hn447_1) | exact hn447_1) (.int .i64 ((rd_T55 t441 x12_1).f1))).trans hx447_5; replace hx447_6 := (cell_far (p := ⟨gb445, 1, none⟩) (by first | (rw [add_block]; exact hn447_1) | (show (Addr.add _ _).block ≠ _; rw [add_block]; exact hn447_1) | exact hn447_1) (.int .i64 ((rd_T55 t441 x12_1).f1))).trans hx447_6; clear hn447_0; clear hn447_1; replace p447 := eq_true p447; replace q447 := eq_true q447) | ((with_reducible refine gate_builtin (b := .append) (xs := #[.tmp 28, .tmp 34]) rfl ?_); at_builtin; refine Kd.R_append Kd.string (w0 := w) w.heap.size rfl (.tmp 28) (.tmp 34) 32 9 (.string ⟨#[]⟩) 16 rfl Tryd.underlying32 info9 rfl (by decide) (by omega) u3 x3_1 ((rd_T43 l0 x12_1).f5) [.string ((rd_T43 l0 x12_1).f5)] (fun _ => True) (fun _ => False) rfl (by first | (go_simp; done) | (go_simp; rfl)) ?aP (fun _ hk => hk.elim) ?aF ?aO ?aB ?aS ?aL ?_; (case aP => exact rfl); (case aB => exact (bz1 HB.out GE445.out)); (case aF => exact (fun _ _ => trivial)); (case aO => exact (by (with_reducible repeat (first | apply Kd.R_alloc | apply Kd.R_drewN | apply Kd.R_drew)); first | (with_reducible exact Kd.R_mono (Kd.R_far (p := ⟨gb445, 1, none⟩) (Kd.R_far (p := ⟨gb445, 0, none⟩) (Kd.R_types HO_3.out BK445.out (by decide)) (fun _ hk => hk.2) (.int .i64 ((rd_T55 t441 x12_1).f0))) (fun _ hk => hk.2) (.int .i64 ((rd_T55 t441 x12_1).f1))) (fun _ hk => trivial)) | (with_reducible exact Kd.R_mono (Kd.R_far (p := ⟨gb445, 1, none⟩) (Kd.R_drewN (Kd.R_far (p := ⟨gb445, 0, none⟩) (Kd.R_types HO_3.out BK445.out (by decide)) (fun _ hk => hk.2) (.int .i64 ((rd_T55 t441 x12_1).f0))) _) (fun _ hk => hk.2) (.int .i64 ((rd_T55 t441 x12_1).f1))) (fun _ hk => trivial)) | exact Kd.R_mono (Kd.R_far (p := ⟨gb445, 1, none⟩) (Kd.R_drewN (Kd.R_far (p := ⟨gb445, 0, none⟩) (Kd.R_types HO_3.out BK445.out (by decide)) (fun _ hk => hk.2) (.int .i64 ((rd_T55 t441 x12_1).f0))) _) (fun _ hk => hk.2) (.int .i64 ((rd_T55 t441 x12_1).f1))) (fun _ hk => trivial))); (case aS => exact (below_size (bz1 HB.out GE445.out))); (case aL => have := LMc14.out; omega); intro v449 w17 ho hb hg hat; rw [← Ny448.out] at ho; have n0_ := Aside0.mk (Kd.R_over' (by (with_reducible repeat (first | apply Kd.R_alloc | apply Kd.R_drewN | apply Kd.R_drew)); exact (Kd.R_mono (Kd.R_far (p := ⟨gb445, 1, none⟩) (Kd.R_far (p := ⟨gb445, 0, none⟩) (Kd.R_mono HO_10.out (fun k_ hk => (⟨hk, hk.2⟩ : _ ∧ k_ ≠ gb445))) (fun _ hk => hk.2) (.int .i64 ((rd_T55 t441 x12_1).f0))) (fun _ hk => hk.2) (.int .i64 ((rd_T55 t441 x12_1).f1))) (fun _ h_ => h_.1))) (Kd.R_typed (by (with_reducible repeat (first | apply Kd.R_alloc | apply Kd.R_drewN | apply Kd.R_drew)); exact (Kd.R_mono (Kd.R_far (p := ⟨gb445, 1, none⟩) (Kd.R_far (p := ⟨gb445, 0, none⟩) (Kd.R_types HO_3.out BK445.out (by decide)) (fun _ hk => hk.2) (.int .i64 ((rd_T55 t441 x12_1).f0))) (fun _ hk => hk.2) (.int .i64 ((rd_T55 t441 x12_1).f1))) (fun _ h_ => h_.1)))) (by decide) hg); have n1_ := Aside0.mk (blk_grown (g := gb445) (o := .cells #[.int .i64 ((rd_T55 t441 x12_1).f0), .int .i64 ((rd_T55 t441 x12_1).f1)] 55 (0, 0)) (by (with_reducible repeat (first | refine blk_drewN ?_ _ | refine blk_drew ?_ | refine blk_alloc ?_ _)); refine blk_put (cs := #[.int .i64 ((rd_T55 t441 x12_1).f0), .int .i64 0]) ?_ 1 _ rfl; (with_reducible repeat (first | refine blk_drewN ?_ _ | refine blk_drew ?_ | refine blk_alloc ?_ _)); refine blk_put (cs := #[.int .i64 0, .int .i64 0]) ?_ 0 _ rfl; (with_reducible repeat (first | refine blk_drewN ?_ _ | refine blk_drew ?_ | refine blk_alloc ?_ _)); exact BK445.out) hg (Kd.R_ne HO_3.out BK445.out (by decide))); have n2_ := Aside0.mk (hb); have n3_ := Aside0.mk (ho); clear HO_10; clear BK445; clear HB; clear HO_3; have HO_10 := n0_; have BK445 := n1_; have HB := n2_; have HO450 := n3_; clear n0_ n1_ n2_ n3_; clear ho hb hg hat))
           go_roundg k1
           case measure => have := HK1.out; omega
           case rel => exact ⟨(y448), (wrap64 (x12_1 + 1)), ez, H', ⟨by have := HK1.out; omega⟩, ⟨by (with_reducible repeat (first | apply Kd.R_alloc | apply Kd.R_drewN | apply Kd.R_drew)); exact HO450.out⟩, ⟨by (with_reducible repeat (first | apply Kd.R_alloc | apply Kd.R_drewN | apply Kd.R_drew)); exact Kd.R_mono HO_10.out (fun _ hk => trivial)⟩, ⟨(bz1 HB.out GE445.out)⟩⟩
          ·rw [if_neg c14] at H
           exact absurd H (by simp)
         ·rw [if_neg c13] at H
          have c13b0 : decide (((rd_T55 t441 x12_1).f0) < 0) = false := decide_eq_false c13
          clear c13
          have H' := Aside0.mk H
          clear H
          have p444 : 0 ≤ (x12_1 : Int) := of_decide_eq_true az
          have q444 : x12_1 < (t441.length : Int) := of_decide_eq_true az
          obtain ⟨ad444, e444, hx444_0, hx444_1⟩ := at_T55 (Kd.R_reads' HO_10.out).2.2 x12_1 p444 q444
          cases e444
          replace p444 := eq_true p444
          replace q444 := eq_true q444
          go_wp2_with (first | ((with_reducible refine gate_dst (N := 5) rfl ?_); refine box_event ?hg (N := 5) ?hd (cs := #[.int .i64 0, .int .i64 0]) (t := 55) ?hr ?_; (case hd => rfl); (case hg => rfl); (case hr => first | (go_simp; done) | (go_simp; rfl)); intro gb445 hg w18 hbox hb; have n0_ := Aside0.mk (Kd.R_below (rz HO_3.out) hb); have n1_ := Aside0.mk (Kd.R_below (Kd.R_elderB (rz HO_10.out) gb445 (Nat.le_of_eq hg.symm)) hb); have n2_ := Aside0.mk (below_step (bz0 HB.out) hb); have n3_ := Aside0.mk (hbox); have n4_ := Aside0.mk ((by rw [hg]; exact (below_size (bz0 HB.out)) : w.heap.size ≤ gb445)); have n5_ := Aside0.mk ((by rw [hg]; exact (below_size (bz0 HB.out)) : w.heap.size ≤ gb445)); clear HO_3; clear HO_10; clear HB; have HO_3 := n0_; have HO_10 := n1_; have HB := n2_; have BK445 := n3_; have GW445 := n4_; have GE445 := n5_; clear n0_ n1_ n2_ n3_ n4_ n5_; clear hb hbox hg; have hcz19_0 : w18.cell? ⟨gb445, 0, none⟩ = some (.int .i64 0) := (blk_cell BK445.out 0).trans rfl; have hcz19_1 : w18.cell? ⟨gb445, 1, none⟩ = some (.int .i64 0) := (blk_cell BK445.out 1).trans rfl; have hfz19_0 := blk_frozen BK445.out 0; have hfz19_1 := blk_frozen BK445.out 1; have p446 : 0 ≤ (x12_1 : Int) := of_decide_eq_true az; have q446 : x12_1 < (l0.length : Int) := of_decide_eq_true az; obtain ⟨ad446, e446, hx446_0, hx446_1, hx446_2, hx446_3, hx446_4, hx446_5, hx446_6⟩ := at_T43 HR0.out x12_1 p446 q446; cases e446; have hn446_0 : ad446.block ≠ gb445 := Nat.ne_of_lt (Nat.lt_of_lt_of_le (by have := World.block_lt_of_cell? _ _ hx446_0; first | rwa [add_block] at this | exact this) GW445.out); have hn446_1 : ad446.block ≠ gb445 := Nat.ne_of_lt (Nat.lt_of_lt_of_le (by have := World.block_lt_of_cell? _ _ hx446_0; first | rwa [add_block] at this | exact this) GW445.out); replace hx446_0 := hz HB.out hx446_0; replace hx446_1 := hz HB.out hx446_1; replace hx446_2 := hz HB.out hx446_2; replace hx446_3 := hz HB.out hx446_3; replace hx446_4 := hz HB.out hx446_4; replace hx446_5 := hz HB.out hx446_5; replace hx446_6 := hz HB.out hx446_6; replace hx446_0 := (cell_far (p := ⟨gb445, 0, none⟩) (by first | (rw [add_block]; exact hn446_0) | (show (Addr.add _ _).block ≠ _; rw [add_block]; exact hn446_0) | exact hn446_0) (.int .i64 ((rd_T55 t441 x12_1).f0))).trans hx446_0; replace hx446_1 := (cell_far (p := ⟨gb445, 0, none⟩) (by first | (rw [add_block]; exact hn446_0) | (show (Addr.add _ _).block ≠ _; rw [add_block]; exact hn446_0) | exact hn446_0) (.int .i64 ((rd_T55 t441 x12_1).f0))).trans hx446_1; replace hx446_2 := (cell_far (p := ⟨gb445, 0, none⟩) (by first | (rw [add_block]; exact hn446_0) | (show (Addr.add _ _).block ≠ _; rw [add_block]; exact hn446_0) | exact hn446_0) (.int .i64 ((rd_T55 t441 x12_1).f0))).trans hx446_2; replace hx446_3 := (cell_far (p := ⟨gb445, 0, none⟩) (by first | (rw [add_block]; exact hn446_0) | (show (Addr.add _ _).block ≠ _; rw [add_block]; exact hn446_0) | exact hn446_0) (.int .i64 ((rd_T55 t441 x12_1).f0))).trans hx446_3; replace hx446_4 := (cell_far (p := ⟨gb445, 0, none⟩) (by first | (rw [add_block]; exact hn446_0) | (show (Addr.add _ _).block ≠ _; rw [add_block]; exact hn446_0) | exact hn446_0) (.int .i64 ((rd_T55 t441 x12_1).f0))).trans hx446_4; replace hx446_5 := (cell_far (p := ⟨gb445, 0, none⟩) (by first | (rw [add_block]; exact hn446_0) | (show (Addr.add _ _).block ≠ _; rw [add_block]; exact hn446_0) | exact hn446_0) (.int .i64 ((rd_T55 t441 x12_1).f0))).trans hx446_5; replace hx446_6 := (cell_far (p := ⟨gb445, 0, none⟩) (by first | (rw [add_block]; exact hn446_0) | (show (Addr.add _ _).block ≠ _; rw [add_block]; exact hn446_0) | exact hn446_0) (.int .i64 ((rd_T55 t441 x12_1).f0))).trans hx446_6; replace hx446_0 := (cell_far (p := ⟨gb445, 1, none⟩) (by first | (rw [add_block]; exact hn446_1) | (show (Addr.add _ _).block ≠ _; rw [add_block]; exact hn446_1) | exact hn446_1) (.int .i64 ((rd_T55 t441 x12_1).f1))).trans hx446_0; replace hx446_1 := (cell_far (p := ⟨gb445, 1, none⟩) (by first | (rw [add_block]; exact hn446_1) | (show (Addr.add _ _).block ≠ _; rw [add_block]; exact hn446_1) | exact hn446_1) (.int .i64 ((rd_T55 t441 x12_1).f1))).trans hx446_1; replace hx446_2 := (cell_far (p := ⟨gb445, 1, none⟩) (by first | (rw [add_block]; exact hn446_1) | (show (Addr.add _ _).block ≠ _; rw [add_block]; exact hn446_1) | exact hn446_1) (.int .i64 ((rd_T55 t441 x12_1).f1))).trans hx446_2; replace hx446_3 := (cell_far (p := ⟨gb445, 1, none⟩) (by first | (rw [add_block]; exact hn446_1) | (show (Addr.add _ _).block ≠ _; rw [add_block]; exact hn446_1) | exact hn446_1) (.int .i64 ((rd_T55 t441 x12_1).f1))).trans hx446_3; replace hx446_4 := (cell_far (p := ⟨gb445, 1, none⟩) (by first | (rw [add_block]; exact hn446_1) | (show (Addr.add _ _).block ≠ _; rw [add_block]; exact hn446_1) | exact hn446_1) (.int .i64 ((rd_T55 t441 x12_1).f1))).trans hx446_4; replace hx446_5 := (cell_far (p := ⟨gb445, 1, none⟩) (by first | (rw [add_block]; exact hn446_1) | (show (Addr.add _ _).block ≠ _; rw [add_block]; exact hn446_1) | exact hn446_1) (.int .i64 ((rd_T55 t441 x12_1).f1))).trans hx446_5; replace hx446_6 := (cell_far (p := ⟨gb445, 1, none⟩) (by first | (rw [add_block]; exact hn446_1) | (show (Addr.add _ _).block ≠ _; rw [add_block]; exact hn446_1) | exact hn446_1) (.int .i64 ((rd_T55 t441 x12_1).f1))).trans hx446_6; clear hn446_0; clear hn446_1; replace p446 := eq_true p446; replace q446 := eq_true q446))
          go_roundg k1
          case measure => have := HK1.out; omega
          case rel => exact ⟨(x3_1), (wrap64 (x12_1 + 1)), ez, H', ⟨by have := HK1.out; omega⟩, ⟨by (with_reducible repeat (first | apply Kd.R_alloc | apply Kd.R_drewN | apply Kd.R_drew)); first | (with_reducible exact Kd.R_mono (Kd.R_far (p := ⟨gb445, 1, none⟩) (Kd.R_far (p := ⟨gb445, 0, none⟩) (Kd.R_types HO_3.out BK445.out (by decide)) (fun _ hk => hk.2) (.int .i64 ((rd_T55 t441 x12_1).f0))) (fun _ hk => hk.2) (.int .i64 ((rd_T55 t441 x12_1).f1))) (fun _ hk => trivial)) | (with_reducible exact Kd.R_mono (Kd.R_far (p := ⟨gb445, 1, none⟩) (Kd.R_drewN (Kd.R_far (p := ⟨gb445, 0, none⟩) (Kd.R_types HO_3.out BK445.out (by decide)) (fun _ hk => hk.2) (.int .i64 ((rd_T55 t441 x12_1).f0))) _) (fun _ hk => hk.2) (.int .i64 ((rd_T55 t441 x12_1).f1))) (fun _ hk => trivial)) | exact Kd.R_mono (Kd.R_far (p := ⟨gb445, 1, none⟩) (Kd.R_drewN (Kd.R_far (p := ⟨gb445, 0, none⟩) (Kd.R_types HO_3.out BK445.out (by decide)) (fun _ hk => hk.2) (.int .i64 ((rd_T55 t441 x12_1).f0))) _) (fun _ hk => hk.2) (.int .i64 ((rd_T55 t441 x12_1).f1))) (fun _ hk => trivial)⟩, ⟨by (with_reducible repeat (first | apply Kd.R_alloc | apply Kd.R_drewN | apply Kd.R_drew)); first | (with_reducible exact Kd.R_mono (Kd.R_far (p := ⟨gb445, 1, none⟩) (Kd.R_far (p := ⟨gb445, 0, none⟩) (Kd.R_mono HO_10.out (fun k_ hk => (⟨hk, hk.2⟩ : _ ∧ k_ ≠ gb445))) (fun _ hk => hk.2) (.int .i64 ((rd_T55 t441 x12_1).f0))) (fun _ hk => hk.2) (.int .i64 ((rd_T55 t441 x12_1).f1))) (fun _ hk => trivial)) | (with_reducible exact Kd.R_mono (Kd.R_far (p := ⟨gb445, 1, none⟩) (Kd.R_drewN (Kd.R_far (p := ⟨gb445, 0, none⟩) (Kd.R_mono HO_10.out (fun k_ hk => (⟨hk, hk.2⟩ : _ ∧ k_ ≠ gb445))) (fun _ hk => hk.2) (.int .i64 ((rd_T55 t441 x12_1).f0))) _) (fun _ hk => hk.2) (.int .i64 ((rd_T55 t441 x12_1).f1))) (fun _ hk => trivial)) | exact Kd.R_mono (Kd.R_far (p := ⟨gb445, 1, none⟩) (Kd.R_drewN (Kd.R_far (p := ⟨gb445, 0, none⟩) (Kd.R_mono HO_10.out (fun k_ hk => (⟨hk, hk.2⟩ : _ ∧ k_ ≠ gb445))) (fun _ hk => hk.2) (.int .i64 ((rd_T55 t441 x12_1).f0))) _) (fun _ hk => hk.2) (.int .i64 ((rd_T55 t441 x12_1).f1))) (fun _ hk => trivial)⟩, ⟨(bz1 HB.out GE445.out)⟩⟩
        ·rw [if_neg c12] at H
         have c12b0 : (((rd_T43 l0 x12_1).f0) == 1) = false := beq_eq_false_iff_ne.mpr c12
         have c12b1 : (((rd_T43 l0 x12_1).f0) != 1) = true := bne_iff_ne.mpr c12
         have H' := Aside0.mk H
         clear H
         have p444 : 0 ≤ (x12_1 : Int) := of_decide_eq_true az
         have q444 : x12_1 < (t441.length : Int) := of_decide_eq_true az
         obtain ⟨ad444, e444, hx444_0, hx444_1⟩ := at_T55 (Kd.R_reads' HO_10.out).2.2 x12_1 p444 q444
         cases e444
         replace p444 := eq_true p444
         replace q444 := eq_true q444
         go_wp2_with (first | ((with_reducible refine gate_dst (N := 5) rfl ?_); refine box_event ?hg (N := 5) ?hd (cs := #[.int .i64 0, .int .i64 0]) (t := 55) ?hr ?_; (case hd => rfl); (case hg => rfl); (case hr => first | (go_simp; done) | (go_simp; rfl)); intro gb445 hg w20 hbox hb; have n0_ := Aside0.mk (Kd.R_below (rz HO_3.out) hb); have n1_ := Aside0.mk (Kd.R_below (Kd.R_elderB (rz HO_10.out) gb445 (Nat.le_of_eq hg.symm)) hb); have n2_ := Aside0.mk (below_step (bz0 HB.out) hb); have n3_ := Aside0.mk (hbox); have n4_ := Aside0.mk ((by rw [hg]; exact (below_size (bz0 HB.out)) : w.heap.size ≤ gb445)); have n5_ := Aside0.mk ((by rw [hg]; exact (below_size (bz0 HB.out)) : w.heap.size ≤ gb445)); clear HO_3; clear HO_10; clear HB; have HO_3 := n0_; have HO_10 := n1_; have HB := n2_; have BK445 := n3_; have GW445 := n4_; have GE445 := n5_; clear n0_ n1_ n2_ n3_ n4_ n5_; clear hb hbox hg; have hcz21_0 : w20.cell? ⟨gb445, 0, none⟩ = some (.int .i64 0) := (blk_cell BK445.out 0).trans rfl; have hcz21_1 : w20.cell? ⟨gb445, 1, none⟩ = some (.int .i64 0) := (blk_cell BK445.out 1).trans rfl; have hfz21_0 := blk_frozen BK445.out 0; have hfz21_1 := blk_frozen BK445.out 1; have p446 : 0 ≤ (x12_1 : Int) := of_decide_eq_true az; have q446 : x12_1 < (l0.length : Int) := of_decide_eq_true az; obtain ⟨ad446, e446, hx446_0, hx446_1, hx446_2, hx446_3, hx446_4, hx446_5, hx446_6⟩ := at_T43 HR0.out x12_1 p446 q446; cases e446; have hn446_0 : ad446.block ≠ gb445 := Nat.ne_of_lt (Nat.lt_of_lt_of_le (by have := World.block_lt_of_cell? _ _ hx446_0; first | rwa [add_block] at this | exact this) GW445.out); have hn446_1 : ad446.block ≠ gb445 := Nat.ne_of_lt (Nat.lt_of_lt_of_le (by have := World.block_lt_of_cell? _ _ hx446_0; first | rwa [add_block] at this | exact this) GW445.out); replace hx446_0 := hz HB.out hx446_0; replace hx446_1 := hz HB.out hx446_1; replace hx446_2 := hz HB.out hx446_2; replace hx446_3 := hz HB.out hx446_3; replace hx446_4 := hz HB.out hx446_4; replace hx446_5 := hz HB.out hx446_5; replace hx446_6 := hz HB.out hx446_6; replace hx446_0 := (cell_far (p := ⟨gb445, 0, none⟩) (by first | (rw [add_block]; exact hn446_0) | (show (Addr.add _ _).block ≠ _; rw [add_block]; exact hn446_0) | exact hn446_0) (.int .i64 ((rd_T55 t441 x12_1).f0))).trans hx446_0; replace hx446_1 := (cell_far (p := ⟨gb445, 0, none⟩) (by first | (rw [add_block]; exact hn446_0) | (show (Addr.add _ _).block ≠ _; rw [add_block]; exact hn446_0) | exact hn446_0) (.int .i64 ((rd_T55 t441 x12_1).f0))).trans hx446_1; replace hx446_2 := (cell_far (p := ⟨gb445, 0, none⟩) (by first | (rw [add_block]; exact hn446_0) | (show (Addr.add _ _).block ≠ _; rw [add_block]; exact hn446_0) | exact hn446_0) (.int .i64 ((rd_T55 t441 x12_1).f0))).trans hx446_2; replace hx446_3 := (cell_far (p := ⟨gb445, 0, none⟩) (by first | (rw [add_block]; exact hn446_0) | (show (Addr.add _ _).block ≠ _; rw [add_block]; exact hn446_0) | exact hn446_0) (.int .i64 ((rd_T55 t441 x12_1).f0))).trans hx446_3; replace hx446_4 := (cell_far (p := ⟨gb445, 0, none⟩) (by first | (rw [add_block]; exact hn446_0) | (show (Addr.add _ _).block ≠ _; rw [add_block]; exact hn446_0) | exact hn446_0) (.int .i64 ((rd_T55 t441 x12_1).f0))).trans hx446_4; replace hx446_5 := (cell_far (p := ⟨gb445, 0, none⟩) (by first | (rw [add_block]; exact hn446_0) | (show (Addr.add _ _).block ≠ _; rw [add_block]; exact hn446_0) | exact hn446_0) (.int .i64 ((rd_T55 t441 x12_1).f0))).trans hx446_5; replace hx446_6 := (cell_far (p := ⟨gb445, 0, none⟩) (by first | (rw [add_block]; exact hn446_0) | (show (Addr.add _ _).block ≠ _; rw [add_block]; exact hn446_0) | exact hn446_0) (.int .i64 ((rd_T55 t441 x12_1).f0))).trans hx446_6; replace hx446_0 := (cell_far (p := ⟨gb445, 1, none⟩) (by first | (rw [add_block]; exact hn446_1) | (show (Addr.add _ _).block ≠ _; rw [add_block]; exact hn446_1) | exact hn446_1) (.int .i64 ((rd_T55 t441 x12_1).f1))).trans hx446_0; replace hx446_1 := (cell_far (p := ⟨gb445, 1, none⟩) (by first | (rw [add_block]; exact hn446_1) | (show (Addr.add _ _).block ≠ _; rw [add_block]; exact hn446_1) | exact hn446_1) (.int .i64 ((rd_T55 t441 x12_1).f1))).trans hx446_1; replace hx446_2 := (cell_far (p := ⟨gb445, 1, none⟩) (by first | (rw [add_block]; exact hn446_1) | (show (Addr.add _ _).block ≠ _; rw [add_block]; exact hn446_1) | exact hn446_1) (.int .i64 ((rd_T55 t441 x12_1).f1))).trans hx446_2; replace hx446_3 := (cell_far (p := ⟨gb445, 1, none⟩) (by first | (rw [add_block]; exact hn446_1) | (show (Addr.add _ _).block ≠ _; rw [add_block]; exact hn446_1) | exact hn446_1) (.int .i64 ((rd_T55 t441 x12_1).f1))).trans hx446_3; replace hx446_4 := (cell_far (p := ⟨gb445, 1, none⟩) (by first | (rw [add_block]; exact hn446_1) | (show (Addr.add _ _).block ≠ _; rw [add_block]; exact hn446_1) | exact hn446_1) (.int .i64 ((rd_T55 t441 x12_1).f1))).trans hx446_4; replace hx446_5 := (cell_far (p := ⟨gb445, 1, none⟩) (by first | (rw [add_block]; exact hn446_1) | (show (Addr.add _ _).block ≠ _; rw [add_block]; exact hn446_1) | exact hn446_1) (.int .i64 ((rd_T55 t441 x12_1).f1))).trans hx446_5; replace hx446_6 := (cell_far (p := ⟨gb445, 1, none⟩) (by first | (rw [add_block]; exact hn446_1) | (show (Addr.add _ _).block ≠ _; rw [add_block]; exact hn446_1) | exact hn446_1) (.int .i64 ((rd_T55 t441 x12_1).f1))).trans hx446_6; clear hn446_0; clear hn446_1; replace p446 := eq_true p446; replace q446 := eq_true q446))
         go_roundg k1
         case measure => have := HK1.out; omega
         case rel => exact ⟨(x3_1), (wrap64 (x12_1 + 1)), ez, H', ⟨by have := HK1.out; omega⟩, ⟨by (with_reducible repeat (first | apply Kd.R_alloc | apply Kd.R_drewN | apply Kd.R_drew)); first | (with_reducible exact Kd.R_mono (Kd.R_far (p := ⟨gb445, 1, none⟩) (Kd.R_far (p := ⟨gb445, 0, none⟩) (Kd.R_types HO_3.out BK445.out (by decide)) (fun _ hk => hk.2) (.int .i64 ((rd_T55 t441 x12_1).f0))) (fun _ hk => hk.2) (.int .i64 ((rd_T55 t441 x12_1).f1))) (fun _ hk => trivial)) | (with_reducible exact Kd.R_mono (Kd.R_far (p := ⟨gb445, 1, none⟩) (Kd.R_drewN (Kd.R_far (p := ⟨gb445, 0, none⟩) (Kd.R_types HO_3.out BK445.out (by decide)) (fun _ hk => hk.2) (.int .i64 ((rd_T55 t441 x12_1).f0))) _) (fun _ hk => hk.2) (.int .i64 ((rd_T55 t441 x12_1).f1))) (fun _ hk => trivial)) | exact Kd.R_mono (Kd.R_far (p := ⟨gb445, 1, none⟩) (Kd.R_drewN (Kd.R_far (p := ⟨gb445, 0, none⟩) (Kd.R_types HO_3.out BK445.out (by decide)) (fun _ hk => hk.2) (.int .i64 ((rd_T55 t441 x12_1).f0))) _) (fun _ hk => hk.2) (.int .i64 ((rd_T55 t441 x12_1).f1))) (fun _ hk => trivial)⟩, ⟨by (with_reducible repeat (first | apply Kd.R_alloc | apply Kd.R_drewN | apply Kd.R_drew)); first | (with_reducible exact Kd.R_mono (Kd.R_far (p := ⟨gb445, 1, none⟩) (Kd.R_far (p := ⟨gb445, 0, none⟩) (Kd.R_mono HO_10.out (fun k_ hk => (⟨hk, hk.2⟩ : _ ∧ k_ ≠ gb445))) (fun _ hk => hk.2) (.int .i64 ((rd_T55 t441 x12_1).f0))) (fun _ hk => hk.2) (.int .i64 ((rd_T55 t441 x12_1).f1))) (fun _ hk => trivial)) | (with_reducible exact Kd.R_mono (Kd.R_far (p := ⟨gb445, 1, none⟩) (Kd.R_drewN (Kd.R_far (p := ⟨gb445, 0, none⟩) (Kd.R_mono HO_10.out (fun k_ hk => (⟨hk, hk.2⟩ : _ ∧ k_ ≠ gb445))) (fun _ hk => hk.2) (.int .i64 ((rd_T55 t441 x12_1).f0))) _) (fun _ hk => hk.2) (.int .i64 ((rd_T55 t441 x12_1).f1))) (fun _ hk => trivial)) | exact Kd.R_mono (Kd.R_far (p := ⟨gb445, 1, none⟩) (Kd.R_drewN (Kd.R_far (p := ⟨gb445, 0, none⟩) (Kd.R_mono HO_10.out (fun k_ hk => (⟨hk, hk.2⟩ : _ ∧ k_ ≠ gb445))) (fun _ hk => hk.2) (.int .i64 ((rd_T55 t441 x12_1).f0))) _) (fun _ hk => hk.2) (.int .i64 ((rd_T55 t441 x12_1).f1))) (fun _ hk => trivial)⟩, ⟨(bz1 HB.out GE445.out)⟩⟩
       ·rw [if_neg c11] at H
        exact absurd H (by simp)
      ·rw [if_neg c10] at H
       exact absurd H (by simp)
     ·rw [if_neg c9] at H
      exact absurd H (by simp)
    ·rw [if_neg c8] at H
     have c8b0 : decide (x12_1 < (t441.length : Int)) = false := decide_eq_false c8
     clear c8
     replace H := Option.bind_eq_some_iff.mp H
     obtain ⟨⟨t451, t454⟩, A220, H⟩ := H
     replace H : (some t451) = some r := H
     have A22 := Aside0.mk A220
     clear A220
     obtain rfl := Option.some.inj H
     obtain ⟨Ao23, co23, eo23⟩ := Kd.R_slice HO_3.out
     subst eo23
     go_wp2_with (first | ((with_reducible refine gate_callee (f := 47) rfl ?_); refine goesL_ (some 38) rfl rfl Tryd.func47 (by kernel_rfl) rfl #[.slice Ao23 x3_1.length co23] rfl lz ?_; (with_reducible refine (impl_sorted.calls k1 (fun k_ => some k_ = (.slice Ao23 x3_1.length co23 : Value).ownBlock) (.slice Ao23 x3_1.length co23) x3_1 t451 t454 w _ ?side1 ?side2 A22.out).mono ?_); (case side1 => repeat (first | (with_reducible first | exact HB.out | apply below_alloc | apply pw_below_drewN | apply below_drew1) | exact HB.out)); (case side2 => exact Kd.R_tight rfl HO_3.out); rintro e w24 ⟨v452, rfl, ho0, hy0, hb, hkp⟩; refine ⟨_, rfl, ?_⟩; have n0_ := Aside0.mk (Kd.R_reok rfl hy0 (fun k_ e_ => HO_3.out.1 k_ e_)); have n1_ := Aside0.mk (Kd.R_mono (ok' := fun k_ => True) (Kd.R_keptB ((Kd.R_apart' HO_10.out (Kd.R_typed HO_3.out) (by decide))) hkp (fun k_ hk_ hs_ => (hk_.2) hs_)) (fun k_ hk_ => trivial)); have n2_ := Aside0.mk (Kd.R_mono (ok' := fun k_ => some k_ ≠ (.slice Ao23 x3_1.length co23 : Value).ownBlock) ho0 (fun k_ hk_ => hk_.2)); have n3_ := Aside0.mk (hb); clear HO_3; clear HO_10; clear HB; have HO_3 := n0_; have HO_10 := n1_; have HO453 := n2_; have HB := n3_; clear n0_ n1_ n2_ n3_; (try clear hb); (try clear hkp); (try clear ho0); (try clear hy0)))
     go_ret
     exact ⟨_, gz, by (with_reducible repeat (first | apply Kd.R_alloc | apply Kd.R_drewN | apply Kd.R_drew)); exact Kd.R_mono HO453.out (fun _ hk => trivial), (bz0 HB.out)⟩
 ·replace c3 := Bool.eq_false_iff.mpr c3
  subst c3
  have H1 : (some ([] : List ByteArray)) = some r := by rw [if_neg (show ¬ (false = true) by decide)] at H; exact H
  clear H
  have H := H1
  clear H1
  obtain rfl := Option.some.inj H
  go_enter Tryd.func26, Tryd.ntmps26
  go_wp2_with (first | ((with_reducible refine gate_callee (f := 36) rfl ?_); refine goesL_ (some 7) rfl rfl Tryd.func36 (by kernel_rfl) rfl #[.slice A0 l0.length c0] rfl lz ?_; (with_reducible refine (impl_NodesOk.calls k _ _ l0 false _ ?side1 ?side2 A2.out).mono ?_); (case side1 => repeat (first | exact HR0.out | (with_reducible refine Kd.C_alloc ?_ _) | (with_reducible refine Kd.C_drewN ?_ _) | (with_reducible refine Kd.C_drew ?_))); (case side2 => exact HC0.out); rintro e w25 ⟨rfl, hb⟩; refine ⟨_, rfl, ?_⟩; have n0_ := Aside0.mk (below_step (bz0 HB.out) hb); clear HB; have HB := n0_; clear n0_; (try clear hb); (try clear hb2); (try clear hk); (try clear hi)))
  go_ret
  exact ⟨_, gz, by first | exact Kd.R_nil _ _ _ _ _ | exact Kd.N_nil _ _ _ _ _ | exact Kd.V_nil _ _ _ _ _ | exact Kd.Q_nil _ _ _ _ _ | exact Kd.S_nil _ _ _ _ _, (bz0 HB.out)⟩
end Go.Proofs.YtmilegjmiiccdaaDoor.PFnExactFreeNames
