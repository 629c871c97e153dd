/- PFnExactCanonx19, of the words and walks that the law FnExactCanon needs; made by this session's program out of printed texts. -/

import Derived.Test.YtmilegjmiiccdaaDoorVECanonPx0
import Derived.Test.YtmilegjmiiccdaaDoorVECanonPx16
import Derived.Test.YtmilegjmiiccdaaDoorVECanonPx17
import Derived.Test.YtmilegjmiiccdaaDoorVECanonPx18
namespace Go.Proofs.YtmilegjmiiccdaaDoor.PFnExactCanon
open Go.RowKit Go.Proofs.YtmilegjmiiccdaaDoorW.PrintWords Go.Proofs.YtmilegjmiiccdaaDoorW.PrintLast Go.Proofs.YtmilegjmiiccdaaDoorW.PrintMore
attribute [local go_sem] max2_int min2_int max_two min_two max_three min_three max_four min_four
set_option linter.unusedVariables false
set_option linter.unusedSimpArgs false
mutual
def impl_binderOf.l0 : Nat -> List (S43) -> List Int -> Int -> ByteArray -> Option (Int × Int)
 | 0, _, _, _, _ => none
 | k + 1, x0, x1, x2, x3 => if 0 <= x2 then (if x2 < (x1.length : Int) then (if (rd x1 x2) ≥ 0 then (if 0 <= (rd x1 x2) then (if (rd x1 x2) < (x0.length : Int) then ((impl_bindsIn.f k ((rd_T43 x0 (rd x1 x2)).f0) ((rd_T43 x0 (rd x1 x2)).f1) ((rd_T43 x0 (rd x1 x2)).f2) ((rd_T43 x0 (rd x1 x2)).f3) ((rd_T43 x0 (rd x1 x2)).f4) ((rd_T43 x0 (rd x1 x2)).f5) ((rd_T43 x0 (rd x1 x2)).f6) x2).bind fun bt481 => (impl_binderOf.l1 k x0 x1 x2 x3 bt481.2 bt481.1 (bt481.1.length : Int) 0)) else (none)) else (none)) else (some ((-1), (-1)))) else (none)) else (none)
def impl_binderOf.l1 : Nat -> List (S43) -> List Int -> Int -> ByteArray -> List Int -> List ByteArray -> Int -> Int -> Option (Int × Int)
 | 0, _, _, _, _, _, _, _, _ => none
 | k + 1, x0, x1, x2, x3, x10, x30, x31, x32 => if x32 < x31 then (if 0 <= x32 then (if x32 < (x30.length : Int) then (if (rdOf ByteArray.empty x30 x32).toList = x3.toList then (if 0 <= x2 then (if x2 < (x1.length : Int) then (if x32 < (x10.length : Int) then (some (rd x1 x2, rd x10 x32)) else (none)) else (none)) else (none)) else (impl_binderOf.l1 k x0 x1 x2 x3 x10 x30 x31 (wrap64 (x32 + 1)))) else (none)) else (none)) else (if 0 <= x2 then (if x2 < (x1.length : Int) then (impl_binderOf.l0 k x0 x1 (rd x1 x2) x3) else (none)) else (none))
end
def impl_binderOf.f (k : Nat) (l0 : List (S43)) (l1 : List Int) (a2 : Int) (a3 : ByteArray) : Option (Int × Int) := impl_binderOf.l0 k l0 l1 a2 a3
theorem impl_binderOf.mono_l : ∀ k, (∀ y0 y1 y2 y3, LeO (impl_binderOf.l0 k y0 y1 y2 y3) (impl_binderOf.l0 (k + 1) y0 y1 y2 y3)) /\ (∀ y0 y1 y2 y3 y4 y5 y6 y7, LeO (impl_binderOf.l1 k y0 y1 y2 y3 y4 y5 y6 y7) (impl_binderOf.l1 (k + 1) y0 y1 y2 y3 y4 y5 y6 y7))
 | 0 => ⟨fun _ _ _ _ r h => by simp [impl_binderOf.l0] at h, fun _ _ _ _ _ _ _ _ r h => by simp [impl_binderOf.l1] at h⟩
 | k + 1 => by
  obtain ⟨ih0, ih1⟩ := impl_binderOf.mono_l k
  refine ⟨?_, ?_⟩
  ·intro y0 y1 y2 y3
   unfold impl_binderOf.l0
   with_reducible repeat' first | exact ih0 _ _ _ _ | exact ih1 _ _ _ _ _ _ _ _ | exact impl_bindsIn.mono _ _ _ _ _ _ _ _ _ | exact lrz _ | exact lnz _ | refine liz ?_ ?_ | refine lbz ?_ fun _ => ?_
  ·intro y0 y1 y2 y3 y4 y5 y6 y7
   unfold impl_binderOf.l1
   with_reducible repeat' first | exact ih0 _ _ _ _ | exact ih1 _ _ _ _ _ _ _ _ | exact impl_bindsIn.mono _ _ _ _ _ _ _ _ _ | exact lrz _ | exact lnz _ | refine liz ?_ ?_ | refine lbz ?_ fun _ => ?_
theorem impl_binderOf.mono : ∀ a0 a1 a2 a3 k, LeO (impl_binderOf.f k a0 a1 a2 a3) (impl_binderOf.f (k + 1) a0 a1 a2 a3) := by
 intro a0 a1 a2 a3 k
 obtain ⟨ih0, ih1⟩ := impl_binderOf.mono_l k
 unfold impl_binderOf.f
 with_reducible repeat' first | exact ih0 _ _ _ _ | exact ih1 _ _ _ _ _ _ _ _ | exact impl_bindsIn.mono _ _ _ _ _ _ _ _ _ | exact lrz _ | exact lnz _ | refine liz ?_ ?_ | refine lbz ?_ fun _ => ?_
def impl_binderOf.T7 : Bool × List (List Nat × List Nat) := (true, [([], []), ([], []), ([0, 1], [0, 1]), ([2], [2]), ([], []), ([], []), ([4, 5], [4, 5]), ([6], [6]), ([3, 7], [3, 7]), ([8, 0, 1, 2, 3, 4, 5, 6, 7, 8], [8])])
def impl_binderOf.B7 : List Nat := [0, 0, 3, 7, 0, 0, 48, 112, 255, 511]
theorem impl_binderOf.tab7 : rtab .any (opsOf Tryd.f77 7) = impl_binderOf.T7 := by kernel_rfl
theorem impl_binderOf.bits7 : waitsOk impl_binderOf.T7.2 impl_binderOf.B7 = true := by kernel_rfl
set_option maxHeartbeats 8000000 in
set_option maxRecDepth 100000 in
theorem impl_binderOf.calls (k : Nat) (A0 : Option Addr) (c0 : Nat) (l0 : List (S43)) (A1 : Option Addr) (c1 : Nat) (l1 : List Int) (a2 : Int) (a3 : ByteArray) (r1 : Int) (r2 : Int) (w : World) (hr0 : Kd.C k43 w A0 l0.length l0) (hc0 : l0.length <= c0) (hr1 : Kd.C (Kd.int .i64) w A1 l1.length l1) (hc1 : l1.length <= c1) (h : impl_binderOf.f k l0 l1 a2 a3 = some (r1, r2)) :
  Calls Tryd.prog 77 #[.slice A0 l0.length c0, .slice A1 l1.length c1, .int .i64 a2, .string a3] w fun e w' => e = .returned (.agg #[.int .i64 r1, .int .i64 r2]) /\ Below w.heap.size w w' := by
 have hu55 := Tryd.underlying55
 have hu43 := Tryd.underlying43
 have HR0 := Aside0.mk hr0
 have HC0 := Aside0.mk hc0
 clear hr0 hc0
 have HR1 := Aside0.mk hr1
 have HC1 := Aside0.mk hc1
 clear hr1 hc1
 have HB := Aside0.mk (Below.refl w.heap.size w)
 have H : (impl_binderOf.l0 k l0 l1 a2 a3) = some (r1, r2) := h
 clear h
 have H' := Aside0.mk H
 clear H
 go_enter Tryd.func77, Tryd.ntmps77
 go_wp2_with (first | ((with_reducible refine gate_dst (N := 8) rfl ?_); refine box_event ?hg (N := 8) ?hd (cs := #[.int .i64 0, .int .i64 0]) (t := 55) ?hr ?_; (case hd => rfl); (case hg => rfl); (case hr => exact vz); intro gb477 hg w5 hbox hb; have BK477 := Aside0.mk (hbox); have GW477 := Aside0.mk ((by rw [hg]; exact (below_size (bz0 HB.out)) : w.heap.size <= gb477)); have GE477 := Aside0.mk ((by rw [hg]; exact (below_size (bz0 HB.out)) : w.heap.size <= gb477)); replace HB := Aside0.mk (below_step (bz0 HB.out) hb); clear hb hbox hg))
 (try simp only [Act.put, sz1, sz2, sz3])
 go_loopg [2] k (fun kq v2 w' => ∃ (x2_1 : Int) (x478000_1 : Int) (x478001_1 : Int), v2 = .int .i64 x2_1 /\ Aside0 (impl_binderOf.l0 kq l0 l1 x2_1 a3 = some (r1, r2)) /\ Aside0 (kq <= k) /\ Aside0 (w'.heap[gb477]? = some (.cells #[.int .i64 x478000_1, .int .i64 x478001_1] 55 (0, 0))) /\ Aside0 (Below w.heap.size w w'))
 case atStart => exact ⟨(a2), (0), (0), ez, H', ⟨Nat.le_refl _⟩, ⟨by refine kq ?_; exact BK477.out⟩, ⟨(bz1 HB.out GE477.out)⟩⟩
 case round =>
  clear H'
  try clear c1
  try clear p2
  obtain ⟨x2_1, x478000_1, x478001_1, rfl, HA, HK1, BK477, HB⟩ := hrel
  cases gk with
  | zero => exact absurd HA.out (by simp [impl_binderOf.l0])
  | succ k1 =>
   have H := HA.out
   clear HA
   simp only [impl_binderOf.l0] at H
   replace H := iz H
   obtain ⟨c6, H⟩ := H
   have c6b0 := decide_eq_true c6
   clear c6
   replace H := iz H
   obtain ⟨c7, H⟩ := H
   have c7b0 := decide_eq_true c7
   clear c7
   by_cases c8 : (rd l1 x2_1) ≥ 0
   ·rw [if_pos c8] at H
    have c8b0 : decide (0 <= (rd l1 x2_1)) = true := decide_eq_true c8
    clear c8
    replace H := iz H
    obtain ⟨c9, H⟩ := H
    have c9b0 := decide_eq_true c9
    clear c9
    replace H := iz H
    obtain ⟨c10, H⟩ := H
    have c10b0 := decide_eq_true c10
    clear c10
    replace H := bi H
    obtain ⟨⟨t481, t484⟩, A110, H⟩ := H
    try dsimp only at H
    have A11 := Aside0.mk A110
    clear A110
    have H' := Aside0.mk H
    clear H
    have p478 : 0 <= (x2_1 : Int) := oz
    have q478 : x2_1 < (l1.length : Int) := oz
    obtain ⟨ad478, e478, hx478_0⟩ := Kd.at_int (Kd.C_below HR1.out HB.out) x2_1 p478 q478
    cases e478
    replace p478 := eq_true p478
    replace q478 := eq_true q478
    have p479 : 0 <= (x2_1 : Int) := oz
    have q479 : x2_1 < (l1.length : Int) := oz
    obtain ⟨ad479, e479, hx479_0⟩ := Kd.at_int (Kd.C_below HR1.out HB.out) x2_1 p479 q479
    obtain rfl : ad478 = ad479 := (by injection e479)
    replace p479 := eq_true p479
    replace q479 := eq_true q479
    have p480 : 0 <= ((rd l1 x2_1) : Int) := oz
    have q480 : (rd l1 x2_1) < (l0.length : Int) := oz
    obtain ⟨ad480, e480, hx480_0, hx480_1, hx480_2, hx480_3, hx480_4, hx480_5, hx480_6⟩ := at_T43 (Kd.C_below HR0.out HB.out) (rd l1 x2_1) p480 q480
    cases e480
    replace p480 := eq_true p480
    replace q480 := eq_true q480
    go_wp2_with (first | ((with_reducible refine gate_callee (f := 46) rfl ?_); refine goesL_ (some 27) rfl rfl Tryd.func46 (by kernel_rfl) rfl #[.agg #[.int .i64 ((rd_T43 l0 (rd l1 x2_1)).f0), .int .i64 ((rd_T43 l0 (rd l1 x2_1)).f1), .int .i64 ((rd_T43 l0 (rd l1 x2_1)).f2), .int .i64 ((rd_T43 l0 (rd l1 x2_1)).f3), .int .i64 ((rd_T43 l0 (rd l1 x2_1)).f4), .string ((rd_T43 l0 (rd l1 x2_1)).f5), .string ((rd_T43 l0 (rd l1 x2_1)).f6)], .int .i64 x2_1] rfl lz ?_; (with_reducible refine (impl_bindsIn.calls k1 ((rd_T43 l0 (rd l1 x2_1)).f0) ((rd_T43 l0 (rd l1 x2_1)).f1) ((rd_T43 l0 (rd l1 x2_1)).f2) ((rd_T43 l0 (rd l1 x2_1)).f3) ((rd_T43 l0 (rd l1 x2_1)).f4) ((rd_T43 l0 (rd l1 x2_1)).f5) ((rd_T43 l0 (rd l1 x2_1)).f6) x2_1 t481 t484 _ A11.out).mono ?_); rintro e w12 ⟨v482, v485, rfl, ho0, ho1, hb⟩; refine ⟨_, rfl, ?_⟩; have HO483 := Aside0.mk (Kd.R_lower ho0 (below_size (bz1 HB.out GE477.out))); have HO486 := Aside0.mk (Kd.R_lower ho1 (below_size (bz1 HB.out GE477.out))); replace BK477 := Aside0.mk (blk_below (kz BK477.out) hb); replace HB := Aside0.mk (below_step (bz1 HB.out GE477.out) hb); (try clear hb); (try clear ho0); (try clear ho1); obtain ⟨Ao13, co13, eo13⟩ := Kd.R_slice HO483.out; subst eo13))
    go_loopg [32] k1 (fun kq v32 w' => ∃ (x32_2 : Int) (x478000_2 : Int) (x478001_2 : Int), v32 = .int .i64 x32_2 /\ Aside0 (impl_binderOf.l1 kq l0 l1 x2_1 a3 t484 t481 (t481.length : Int) x32_2 = some (r1, r2)) /\ Aside0 (kq <= k1) /\ Aside0 (Kd.R (Kd.int .i64) 3 w' w.heap.size (fun _ => True) v485 t484) /\ Aside0 (Kd.R Kd.string 9 w' w.heap.size (fun _ => True) (.slice Ao13 t481.length co13) t481) /\ Aside0 (w'.heap[gb477]? = some (.cells #[.int .i64 x478000_2, .int .i64 x478001_2] 55 (0, 0))) /\ Aside0 (Below w.heap.size w w'))
    case atStart => exact ⟨(0), (x478000_1), (x478001_1), ez, H', ⟨Nat.le_refl _⟩, ⟨by refine rq ?_; exact HO486.out⟩, ⟨by refine rq ?_; exact HO483.out⟩, ⟨by refine kq ?_; exact BK477.out⟩, ⟨(bz1 HB.out GE477.out)⟩⟩
    case round =>
     clear H'
     try clear c1
     try clear p2
     try clear c4
     try clear p4
     try clear q4
     try clear hx4
     try clear c6
     try clear c6b0
     try clear c7
     try clear c7b0
     try clear c8
     try clear c8b0
     try clear c9
     try clear c9b0
     try clear c10
     try clear c10b0
     try clear hx478_0
     try clear hx479_0
     try clear hx480_0
     try clear hx480_1
     try clear hx480_2
     try clear hx480_3
     try clear hx480_4
     try clear hx480_5
     try clear hx480_6
     try clear p2
     try clear p478
     try clear p479
     try clear p480
     try clear q478
     try clear q479
     try clear q480
     obtain ⟨x32_2, x478000_2, x478001_2, rfl, HA, HK2, HO_10, HO_30, BK477, HB⟩ := hrel
     cases gk with
     | zero => exact absurd HA.out (by simp [impl_binderOf.l1])
     | succ k2 =>
      have H := HA.out
      clear HA
      simp only [impl_binderOf.l1] at H
      by_cases c14 : x32_2 < (t481.length : Int)
      ·rw [if_pos c14] at H
       have c14b0 := decide_eq_true c14
       clear c14
       replace H := iz H
       obtain ⟨c15, H⟩ := H
       have c15b0 := decide_eq_true c15
       clear c15
       replace H := iz H
       obtain ⟨c16, H⟩ := H
       have c16b0 := decide_eq_true c16
       clear c16
       by_cases c17 : (rdOf ByteArray.empty t481 x32_2).toList = a3.toList
       ·rw [if_pos c17] at H
        have c17b0 : ((rdOf ByteArray.empty t481 x32_2).toList == a3.toList) = true := beq_iff_eq.mpr c17
        have c17b1 : ((rdOf ByteArray.empty t481 x32_2).toList != a3.toList) = false := bne_eq_false_iff_eq.mpr c17
        clear c17
        replace H := iz H
        obtain ⟨c18, H⟩ := H
        have c18b0 := decide_eq_true c18
        clear c18
        replace H := iz H
        obtain ⟨c19, H⟩ := H
        have c19b0 := decide_eq_true c19
        clear c19
        replace H := iz H
        obtain ⟨c20, H⟩ := H
        have c20b0 := decide_eq_true c20
        clear c20
        simp only [Option.some.injEq, Prod.mk.injEq] at H
        obtain ⟨rfl, rfl⟩ := H
        have p487 : 0 <= (x32_2 : Int) := oz
        have q487 : x32_2 < (t481.length : Int) := oz
        obtain ⟨ad487, e487, hx487_0⟩ := Kd.at_string (Kd.R_reads' HO_30.out).2.2 x32_2 p487 q487
        cases e487
        replace p487 := eq_true p487
        replace q487 := eq_true q487
        try go_wp2
        have n0_ := Aside0.mk (Kd.R_drew HO_10.out)
        have n1_ := Aside0.mk (Kd.R_drew HO_30.out)
        have n2_ := Aside0.mk (blk_drew BK477.out)
        have n3_ := Aside0.mk (below_drew1 HB.out)
        clear HO_10
        clear HO_30
        clear BK477
        clear HB
        have HO_10 := n0_
        have HO_30 := n1_
        have BK477 := n2_
        have HB := n3_
        clear n0_ n1_ n2_ n3_
        have p488 : 0 <= (x2_1 : Int) := oz
        have q488 : x2_1 < (l1.length : Int) := oz
        obtain ⟨ad488, e488, hx488_0⟩ := Kd.at_int HR1.out x2_1 p488 q488
        have hw488_0 := hx488_0
        obtain rfl : ad478 = ad488 := (by injection e488)
        replace hx488_0 := hz HB.out hx488_0
        replace p488 := eq_true p488
        replace q488 := eq_true q488
        obtain ⟨Ao22, co22, eo22⟩ := Kd.R_slice HO_10.out
        (first | subst eo22 | (injection eo22 with f1_ f2_ f3_; have f4_ := f1_.symm; have f5_ := f3_.symm; clear f1_ f2_ f3_; subst f4_; subst f5_))
        have p489 : 0 <= (x32_2 : Int) := oz
        have q489 : x32_2 < (t484.length : Int) := oz
        obtain ⟨ad489, e489, hx489_0⟩ := Kd.at_int (Kd.R_reads' HO_10.out).2.2 x32_2 p489 q489
        cases e489
        replace p489 := eq_true p489
        replace q489 := eq_true q489
        refine start_ (n := 10) (S := fun w' => w'.cell? (ad478.add (x2_1).toNat) = some (.int .i64 (rd l1 x2_1)) /\ w'.cell? (ad489.add (x32_2).toNat) = some (.int .i64 (rd t484 x32_2))) (ds := []) #[ff, ff, ff, ff, ff, ff, ff, ff, ff, ff] (by kernel_rfl) rfl rfl ⟨(hz HB.out hw488_0), hx489_0⟩ (fun hHeld => ?_); refine with_tabW impl_binderOf.tab7 impl_binderOf.bits7 (fun HT_ HW_ => ?_)
        generalize wr.drew = w21 at HO_10 HO_30 BK477 HB hx488_0 hx489_0 hHeld ⊢
        refine pure_ (i := 0) (N := some 40) (v := ?_) (a' := ?_) #[tt, ff, ff, ff, ff, ff, ff, ff, ff, ff] rfl rfl (any_of HT_.out (by kernel_rfl)) (fun _ _ _ h => h) (Or.inl ⟨by rfl, ?_⟩) ?_ ?_
        rotate_left
        ·intro w'
         go_simp
         with_reducible rfl
        rotate_left
        ·simp only [Act.put, sz1, sz2, sz3, i64_w, i32_w]
         rfl
        refine pure_ (i := 1) (N := some 41) (v := ?_) (a' := ?_) #[tt, tt, ff, ff, ff, ff, ff, ff, ff, ff] rfl rfl (any_of HT_.out (by kernel_rfl)) (fun _ _ _ h => h) (Or.inl ⟨by rfl, ?_⟩) ?_ ?_
        rotate_left
        ·intro w'
         go_simp
         with_reducible rfl
        rotate_left
        ·simp only [Act.put, sz1, sz2, sz3, i64_w, i32_w]
         rfl
        refine pure_ (i := 2) (N := some 42) (v := ?_) (a' := ?_) #[tt, tt, tt, ff, ff, ff, ff, ff, ff, ff] rfl rfl (any_of HT_.out (by kernel_rfl)) (fun _ _ _ h => h) (Or.inl ⟨by rfl, ?_⟩) ?_ ?_
        rotate_left
        ·intro w'
         go_simp
         with_reducible rfl
        rotate_left
        ·simp only [Act.put, sz1, sz2, sz3, i64_w, i32_w]
         rfl
        refine pure_ (i := 4) (N := some 44) (v := ?_) (a' := ?_) #[tt, tt, tt, ff, tt, ff, ff, ff, ff, ff] rfl rfl (any_of HT_.out (by kernel_rfl)) (fun _ _ _ h => h) (Or.inl ⟨by rfl, ?_⟩) ?_ ?_
        rotate_left
        ·intro w'
         go_simp
         with_reducible rfl
        rotate_left
        ·simp only [Act.put, sz1, sz2, sz3, i64_w, i32_w]
         rfl
        refine pure_ (i := 5) (N := some 45) (v := ?_) (a' := ?_) #[tt, tt, tt, ff, tt, tt, ff, ff, ff, ff] rfl rfl (any_of HT_.out (by kernel_rfl)) (fun _ _ _ h => h) (Or.inl ⟨by rfl, ?_⟩) ?_ ?_
        rotate_left
        ·intro w'
         go_simp
         with_reducible rfl
        rotate_left
        ·simp only [Act.put, sz1, sz2, sz3, i64_w, i32_w]
         rfl
        refine pure_ (i := 6) (N := some 46) (v := ?_) (a' := ?_) #[tt, tt, tt, ff, tt, tt, tt, ff, ff, ff] rfl rfl (any_of HT_.out (by kernel_rfl)) (fun _ _ _ h => h) (Or.inl ⟨by rfl, ?_⟩) ?_ ?_
        rotate_left
        ·intro w'
         go_simp
         with_reducible rfl
        rotate_left
        ·simp only [Act.put, sz1, sz2, sz3, i64_w, i32_w]
         rfl
        refine take_ (i := 3) (N := some 43) (v := ?_) (a' := ?_) #[tt, tt, tt, tt, tt, tt, tt, ff, ff, ff] rfl rfl (take_ofW HT_.out HW_.out (by kernel_rfl)) (fun _ _ _ h => h) (Or.inl ⟨by rfl, ?_⟩) hHeld ?_ ?_
        rotate_left
        ·rintro w' ⟨s0, s1⟩
         go_simp
         with_reducible rfl
        rotate_left
        ·simp only [Act.put, sz1, sz2, sz3, i64_w, i32_w]
         rfl
        refine take_ (i := 7) (N := some 47) (v := ?_) (a' := ?_) #[tt, tt, tt, tt, tt, tt, tt, tt, ff, ff] rfl rfl (take_ofW HT_.out HW_.out (by kernel_rfl)) (fun _ _ _ h => h) (Or.inl ⟨by rfl, ?_⟩) hHeld ?_ ?_
        rotate_left
        ·rintro w' ⟨s0, s1⟩
         go_simp
         with_reducible rfl
        rotate_left
        ·simp only [Act.put, sz1, sz2, sz3, i64_w, i32_w]
         rfl
        refine pure_ (i := 8) (N := some 48) (v := ?_) (a' := ?_) #[tt, tt, tt, tt, tt, tt, tt, tt, tt, ff] rfl rfl (any_of HT_.out (by kernel_rfl)) (fun _ _ _ h => h) (Or.inl ⟨by rfl, ?_⟩) ?_ ?_
        rotate_left
        ·intro w'
         go_simp
         with_reducible rfl
        rotate_left
        ·simp only [Act.put, sz1, sz2, sz3, i64_w, i32_w]
         rfl
        refine one_ (i := 9) (N := none) #[tt, tt, tt, tt, tt, tt, tt, tt, tt, tt] rfl rfl (one_of HT_.out (by kernel_rfl)) (by decide) (fun K hK => ?_)
        have hs23 : w21.cell? ⟨gb477, 0, none⟩ = some (.int .i64 x478000_2) := (blk_cell BK477.out 0).trans rfl
        have hfs23 := blk_frozen BK477.out 0
        have hs24 : w21.cell? ⟨gb477, 1, none⟩ = some (.int .i64 x478001_2) := (blk_cell BK477.out 1).trans rfl
        have hfs24 := blk_frozen BK477.out 1
        refine skip_ (w1 := ?_) (by rfl) rfl ?_ ?_
        rotate_left
        ·go_simp
         rfl
        refine hK.out _ _ ⟨((cell_far (p := ⟨gb477, _, none⟩) (by first | exact Nat.ne_of_lt (Nat.lt_of_lt_of_le (by have := World.block_lt_of_cell? _ _ hw488_0; first | rwa [add_block] at this | exact this) GW477.out) | (rw [add_block]; exact Nat.ne_of_lt (Nat.lt_of_lt_of_le (by have := World.block_lt_of_cell? _ _ hw488_0; first | rwa [add_block] at this | exact this) GW477.out)) | (show (Addr.add _ _).block ≠ _; rw [add_block]; exact Nat.ne_of_lt (Nat.lt_of_lt_of_le (by have := World.block_lt_of_cell? _ _ hw488_0; first | rwa [add_block] at this | exact this) GW477.out)) | (dsimp only; exact Nat.ne_of_lt (Nat.lt_of_lt_of_le (by have := World.block_lt_of_cell? _ _ hw488_0; first | rwa [add_block] at this | exact this) GW477.out))) _).trans (((cell_far (p := ⟨gb477, _, none⟩) (by first | exact Nat.ne_of_lt (Nat.lt_of_lt_of_le (by have := World.block_lt_of_cell? _ _ hw488_0; first | rwa [add_block] at this | exact this) GW477.out) | (rw [add_block]; exact Nat.ne_of_lt (Nat.lt_of_lt_of_le (by have := World.block_lt_of_cell? _ _ hw488_0; first | rwa [add_block] at this | exact this) GW477.out)) | (show (Addr.add _ _).block ≠ _; rw [add_block]; exact Nat.ne_of_lt (Nat.lt_of_lt_of_le (by have := World.block_lt_of_cell? _ _ hw488_0; first | rwa [add_block] at this | exact this) GW477.out)) | (dsimp only; exact Nat.ne_of_lt (Nat.lt_of_lt_of_le (by have := World.block_lt_of_cell? _ _ hw488_0; first | rwa [add_block] at this | exact this) GW477.out))) _).trans (hHeld.1)))), ((cell_far (p := ⟨gb477, _, none⟩) (by first | exact Kd.own_blk (Kd.R_ne HO_10.out BK477.out (by decide)) | (rw [add_block]; exact Kd.own_blk (Kd.R_ne HO_10.out BK477.out (by decide))) | (show (Addr.add _ _).block ≠ _; rw [add_block]; exact Kd.own_blk (Kd.R_ne HO_10.out BK477.out (by decide))) | (dsimp only; exact Kd.own_blk (Kd.R_ne HO_10.out BK477.out (by decide)))) _).trans (((cell_far (p := ⟨gb477, _, none⟩) (by first | exact Kd.own_blk (Kd.R_ne HO_10.out BK477.out (by decide)) | (rw [add_block]; exact Kd.own_blk (Kd.R_ne HO_10.out BK477.out (by decide))) | (show (Addr.add _ _).block ≠ _; rw [add_block]; exact Kd.own_blk (Kd.R_ne HO_10.out BK477.out (by decide))) | (dsimp only; exact Kd.own_blk (Kd.R_ne HO_10.out BK477.out (by decide)))) _).trans (hHeld.2))))⟩ (fun hHeld => ?_)
        clear hK K
        refine done_ (done_of HT_.out (by kernel_rfl)) ?_
        try go_wp2
        refine bodyPost_ret (results_cell_row rfl _ _ gb477 55 #[.int .i64 (rd l1 x2_1), .int .i64 (rd t484 x32_2)] (0, 0) _ rfl (by refine kq ?_; refine blk_put (cs := #[.int .i64 (rd l1 x2_1), .int .i64 x478001_2]) ?_ 1 _ rfl; refine kq ?_; refine blk_put (cs := #[.int .i64 x478000_2, .int .i64 x478001_2]) ?_ 0 _ rfl; refine kq ?_; exact BK477.out) Tryd.underlying55 rfl (by kernel_rfl)) rfl ?_
        exact ⟨gz, (bz1 HB.out GE477.out)⟩
       ·rw [if_neg c17] at H
        have c17b0 : ((rdOf ByteArray.empty t481 x32_2).toList == a3.toList) = false := beq_eq_false_iff_ne.mpr c17
        have c17b1 : ((rdOf ByteArray.empty t481 x32_2).toList != a3.toList) = true := bne_iff_ne.mpr c17
        have H' := Aside0.mk H
        clear H
        have p487 : 0 <= (x32_2 : Int) := oz
        have q487 : x32_2 < (t481.length : Int) := oz
        obtain ⟨ad487, e487, hx487_0⟩ := Kd.at_string (Kd.R_reads' HO_30.out).2.2 x32_2 p487 q487
        cases e487
        replace p487 := eq_true p487
        replace q487 := eq_true q487
        go_wp2
        go_roundg k2
        case measure => have := HK1.out; have := HK2.out; omega
        case rel => exact ⟨(wrap64 (x32_2 + 1)), (x478000_2), (x478001_2), ez, H', ⟨by have := HK1.out; have := HK2.out; omega⟩, ⟨by refine rq ?_; exact HO_10.out⟩, ⟨by refine rq ?_; exact HO_30.out⟩, ⟨by refine kq ?_; exact BK477.out⟩, ⟨(bz1 HB.out GE477.out)⟩⟩
      ·rw [if_neg c14] at H
       have c14b0 := decide_eq_false c14
       clear c14
       replace H := iz H
       obtain ⟨c25, H⟩ := H
       have c25b0 := decide_eq_true c25
       clear c25
       replace H := iz H
       obtain ⟨c26, H⟩ := H
       have c26b0 := decide_eq_true c26
       clear c26
       have H' := Aside0.mk H
       clear H
       have p490 : 0 <= (x2_1 : Int) := oz
       have q490 : x2_1 < (l1.length : Int) := oz
       obtain ⟨ad490, e490, hx490_0⟩ := Kd.at_int (Kd.C_below HR1.out HB.out) x2_1 p490 q490
       obtain rfl : ad478 = ad490 := (by injection e490)
       replace p490 := eq_true p490
       replace q490 := eq_true q490
       go_wp2
       go_roundg k2
       case measure => have := HK1.out; have := HK2.out; omega
       case rel => exact ⟨(rd l1 x2_1), (x478000_2), (x478001_2), ez, H', ⟨by have := HK1.out; have := HK2.out; omega⟩, ⟨by refine kq ?_; exact BK477.out⟩, ⟨(bz1 HB.out GE477.out)⟩⟩
   ·rw [if_neg c8] at H
    have c8b0 : decide (0 <= (rd l1 x2_1)) = false := decide_eq_false c8
    clear c8
    simp only [Option.some.injEq, Prod.mk.injEq] at H
    obtain ⟨rfl, rfl⟩ := H
    have p478 : 0 <= (x2_1 : Int) := oz
    have q478 : x2_1 < (l1.length : Int) := oz
    obtain ⟨ad478, e478, hx478_0⟩ := Kd.at_int (Kd.C_below HR1.out HB.out) x2_1 p478 q478
    cases e478
    replace p478 := eq_true p478
    replace q478 := eq_true q478
    obtain ⟨hcz27_0, hcz27_1⟩ := cz2 BK477.out
    obtain ⟨hfz27_0, hfz27_1⟩ := fz2 BK477.out
    go_wp2
    refine bodyPost_ret (results_cell_row rfl _ _ gb477 55 #[.int .i64 (-1), .int .i64 (-1)] (0, 0) _ rfl (by refine kq ?_; refine blk_put (cs := #[.int .i64 (-1), .int .i64 x478001_1]) ?_ 1 _ rfl; refine kq ?_; refine blk_put (cs := #[.int .i64 x478000_1, .int .i64 x478001_1]) ?_ 0 _ rfl; refine kq ?_; exact BK477.out) Tryd.underlying55 rfl (by kernel_rfl)) rfl ?_
    exact ⟨gz, (bz1 HB.out GE477.out)⟩
def impl_binders.l0 : Nat -> List (S43) -> List Int -> List (S55) -> List (S43) -> Int -> Int -> Option ((List (S55)))
 | 0, _, _, _, _, _, _ => none
 | k + 1, x0, x3, x4, x10, x11, x12 => if x12 < x11 then (if 0 <= x12 then (if x12 < (x10.length : Int) then (if ((rd_T43 x10 x12).f0) = 1 then ((impl_binderOf.f k x0 x3 x12 ((rd_T43 x10 x12).f5)).bind fun bt497 => (if x4.length < 8796093022208 then (impl_binders.l0 k x0 x3 (x4 ++ [(⟨bt497.1, bt497.2⟩ : S55)]) x10 x11 (wrap64 (x12 + 1))) else (none))) else (if x4.length < 8796093022208 then (impl_binders.l0 k x0 x3 (x4 ++ [(⟨(-1), (-1)⟩ : S55)]) x10 x11 (wrap64 (x12 + 1))) else (none))) else (none)) else (none)) else (some x4)
def impl_binders.f (k : Nat) (l0 : List (S43)) : Option ((List (S55))) := (impl_parents.f k l0).bind fun t491 => (impl_binders.l0 k l0 t491 ([] : List (S55)) l0 (l0.length : Int) 0)
theorem impl_binders.mono_l : ∀ k, (∀ y0 y1 y2 y3 y4 y5, LeO (impl_binders.l0 k y0 y1 y2 y3 y4 y5) (impl_binders.l0 (k + 1) y0 y1 y2 y3 y4 y5))
 | 0 => fun _ _ _ _ _ _ r h => by simp [impl_binders.l0] at h
 | k + 1 => by
  have ih0 := impl_binders.mono_l k
  ·intro y0 y1 y2 y3 y4 y5
   unfold impl_binders.l0
   with_reducible repeat' first | exact ih0 _ _ _ _ _ _ | exact impl_binderOf.mono _ _ _ _ _ | exact impl_parents.mono _ _ | exact lrz _ | exact lnz _ | refine liz ?_ ?_ | refine lbz ?_ fun _ => ?_
theorem impl_binders.mono : ∀ a0 k, LeO (impl_binders.f k a0) (impl_binders.f (k + 1) a0) := by
 intro a0 k
 have ih0 := impl_binders.mono_l k
 unfold impl_binders.f
 with_reducible repeat' first | exact ih0 _ _ _ _ _ _ | exact impl_binderOf.mono _ _ _ _ _ | exact impl_parents.mono _ _ | exact lrz _ | exact lnz _ | refine liz ?_ ?_ | refine lbz ?_ fun _ => ?_
set_option maxHeartbeats 8000000 in
set_option maxRecDepth 100000 in
theorem impl_binders.calls (k : Nat) (A0 : Option Addr) (c0 : Nat) (l0 : List (S43)) (r : List (S55)) (w : World) (hr0 : Kd.C k43 w A0 l0.length l0) (hc0 : l0.length <= c0) (h : impl_binders.f k l0 = some r) :
  Calls Tryd.prog 50 #[.slice A0 l0.length c0] w fun e w' => ∃ v0_ : Value, e = .returned (v0_) /\ Kd.R k55 55 w' w.heap.size (fun _ => True) v0_ r /\ Below w.heap.size w w' := by
 have hu43 := Tryd.underlying43
 have hu55 := Tryd.underlying55
 have HR0 := Aside0.mk hr0
 have HC0 := Aside0.mk hc0
 clear hr0 hc0
 have HB := Aside0.mk (Below.refl w.heap.size w)
 have H : ((impl_parents.f k l0).bind fun t491 => (impl_binders.l0 k l0 t491 ([] : List (S55)) l0 (l0.length : Int) 0)) = some r := h
 clear h
 replace H := bi H
 obtain ⟨t491, A20, H⟩ := H
 try dsimp only at H
 have A2 := Aside0.mk A20
 clear A20
 have H' := Aside0.mk H
 clear H
 go_enter Tryd.func50, Tryd.ntmps50
 go_wp2_with (first | ((with_reducible refine gate_callee (f := 45) rfl ?_); refine goesL_ (some 9) rfl rfl Tryd.func45 (by kernel_rfl) rfl #[.slice A0 l0.length c0] rfl lz ?_; (with_reducible refine (impl_parents.calls k _ _ l0 t491 _ ?side1 ?side2 A2.out).mono ?_); (case side1 => repeat (first | exact HR0.out | (with_reducible refine Kd.C_alloc ?_ _) | (with_reducible refine Kd.C_drewN ?_ _) | (with_reducible refine Kd.C_drew ?_))); (case side2 => exact HC0.out); rintro e w3 ⟨v492, rfl, ho0, hb⟩; refine ⟨_, rfl, ?_⟩; have HO493 := Aside0.mk (Kd.R_lower ho0 (below_size (bz0 HB.out))); replace HB := Aside0.mk (below_step (bz0 HB.out) hb); (try clear hb); (try clear ho0)))
 go_loopg [4, 12] k (fun kq v4 v12 w' => ∃ (x4_1 : List (S55)) (x12_1 : Int), v12 = .int .i64 x12_1 /\ Aside0 (impl_binders.l0 kq l0 t491 x4_1 l0 (l0.length : Int) x12_1 = some r) /\ Aside0 (kq <= k) /\ Aside0 (Kd.R (Kd.int .i64) 3 w' w.heap.size (fun _ => True) v492 t491) /\ Aside0 (Kd.R k55 55 w' w.heap.size (fun _ => True) v4 x4_1) /\ Aside0 (Below w.heap.size w w'))
 case atStart => exact ⟨(([] : List (S55))), (0), ez, H', ⟨Nat.le_refl _⟩, ⟨by refine rq ?_; exact HO493.out⟩, ⟨by first | exact Kd.R_nil _ _ _ _ _ | exact Kd.N_nil _ _ _ _ _ | exact Kd.V_nil _ _ _ _ _ | exact Kd.Q_nil _ _ _ _ _ | exact Kd.S_nil _ _ _ _ _⟩, ⟨(bz0 HB.out)⟩⟩
 case round =>
  clear H'
  try clear p2
  obtain ⟨x4_1, x12_1, rfl, HA, HK1, HO_3, HO_4, HB⟩ := hrel
  cases gk with
  | zero => exact absurd HA.out (by simp [impl_binders.l0])
  | succ k1 =>
   have H := HA.out
   clear HA
   simp only [impl_binders.l0] at H
   by_cases c4 : x12_1 < (l0.length : Int)
   ·rw [if_pos c4] at H
    have c4b0 := decide_eq_true c4
    clear c4
    replace H := iz H
    obtain ⟨c5, H⟩ := H
    have c5b0 := decide_eq_true c5
    clear c5
    replace H := iz H
    obtain ⟨c6, H⟩ := H
    have c6b0 := decide_eq_true c6
    clear c6
    by_cases c7 : ((rd_T43 l0 x12_1).f0) = 1
    ·rw [if_pos c7] at H
     have c7b0 : (((rd_T43 l0 x12_1).f0) == 1) = true := beq_iff_eq.mpr c7
     have c7b1 : (((rd_T43 l0 x12_1).f0) != 1) = false := bne_eq_false_iff_eq.mpr c7
     clear c7
     replace H := bi H
     obtain ⟨⟨t497, t498⟩, A80, H⟩ := H
     try dsimp only at H
     have A8 := Aside0.mk A80
     clear A80
     replace H := iz H
     obtain ⟨c9, H⟩ := H
     have LMc9 := Aside0.mk c9
     clear c9
     obtain ⟨y499, hy499⟩ : ∃ y_ : List (S55), y_ = (x4_1 ++ [(⟨t497, t498⟩ : S55)]) := ⟨_, rfl⟩
     replace H : (impl_binders.l0 k1 l0 t491 y499 l0 (l0.length : Int) (wrap64 (x12_1 + 1))) = some r := yz hy499 H
     have Ny499 := Aside0.mk hy499
     clear hy499
     have H' := Aside0.mk H
     clear H
     have p494 : 0 <= (x12_1 : Int) := oz
     have q494 : x12_1 < (l0.length : Int) := oz
     obtain ⟨ad494, e494, hx494_0, hx494_1, hx494_2, hx494_3, hx494_4, hx494_5, hx494_6⟩ := at_T43 (Kd.C_below HR0.out HB.out) x12_1 p494 q494
     cases e494
     replace p494 := eq_true p494
     replace q494 := eq_true q494
     go_wp2_with (first | ((with_reducible refine gate_dst (N := 6) rfl ?_); refine box_event ?hg (N := 6) ?hd (cs := #[.int .i64 0, .int .i64 0, .int .i64 0, .int .i64 0, .int .i64 0, .string (⟨#[]⟩ : ByteArray), .string (⟨#[]⟩ : ByteArray)]) (t := 43) ?hr ?_; (case hd => rfl); (case hg => rfl); (case hr => exact vz); intro gb495 hg w10 hbox hb; replace HO_3 := qz HO_3 hb; replace HO_4 := qz HO_4 hb; have BK495 := Aside0.mk (hbox); have GW495 := Aside0.mk ((by rw [hg]; exact (below_size (bz0 HB.out)) : w.heap.size <= gb495)); have GE495 := Aside0.mk ((by rw [hg]; exact (below_size (bz0 HB.out)) : w.heap.size <= gb495)); replace HB := Aside0.mk (below_step (bz0 HB.out) hb); clear hb hbox hg; obtain ⟨hcz11_0, hcz11_1, hcz11_2, hcz11_3, hcz11_4, hcz11_5, hcz11_6⟩ := cz7 BK495.out; obtain ⟨hfz11_0, hfz11_1, hfz11_2, hfz11_3, hfz11_4, hfz11_5, hfz11_6⟩ := fz7 BK495.out) | ((with_reducible refine gate_dst (N := 7) rfl ?_); refine box_event ?hg (N := 7) ?hd (cs := #[.int .i64 0, .int .i64 0]) (t := 55) ?hr ?_; (case hd => rfl); (case hg => rfl); (case hr => exact vz); intro gb496 hg w12 hbox hb; replace HO_3 := Aside0.mk (Kd.R_below (by refine rq ?_; exact (Kd.R_mono (Kd.R_far (p := ⟨gb495, 6, none⟩) (Kd.R_far (p := ⟨gb495, 5, none⟩) (Kd.R_far (p := ⟨gb495, 4, none⟩) (Kd.R_far (p := ⟨gb495, 3, none⟩) (Kd.R_far (p := ⟨gb495, 2, none⟩) (Kd.R_far (p := ⟨gb495, 1, none⟩) (Kd.R_far (p := ⟨gb495, 0, none⟩) (Kd.R_types HO_3.out BK495.out (by decide)) (fun _ hk => hk.2) (.int .i64 ((rd_T43 l0 x12_1).f0))) (fun _ hk => hk.2) (.int .i64 ((rd_T43 l0 x12_1).f1))) (fun _ hk => hk.2) (.int .i64 ((rd_T43 l0 x12_1).f2))) (fun _ hk => hk.2) (.int .i64 ((rd_T43 l0 x12_1).f3))) (fun _ hk => hk.2) (.int .i64 ((rd_T43 l0 x12_1).f4))) (fun _ hk => hk.2) (.string ((rd_T43 l0 x12_1).f5))) (fun _ hk => hk.2) (.string ((rd_T43 l0 x12_1).f6))) (fun _ h_ => h_.1))) hb); replace HO_4 := Aside0.mk (Kd.R_below (Kd.R_elderB (by refine rq ?_; exact (Kd.R_mono (Kd.R_far (p := ⟨gb495, 6, none⟩) (Kd.R_far (p := ⟨gb495, 5, none⟩) (Kd.R_far (p := ⟨gb495, 4, none⟩) (Kd.R_far (p := ⟨gb495, 3, none⟩) (Kd.R_far (p := ⟨gb495, 2, none⟩) (Kd.R_far (p := ⟨gb495, 1, none⟩) (Kd.R_far (p := ⟨gb495, 0, none⟩) (Kd.R_types HO_4.out BK495.out (by decide)) (fun _ hk => hk.2) (.int .i64 ((rd_T43 l0 x12_1).f0))) (fun _ hk => hk.2) (.int .i64 ((rd_T43 l0 x12_1).f1))) (fun _ hk => hk.2) (.int .i64 ((rd_T43 l0 x12_1).f2))) (fun _ hk => hk.2) (.int .i64 ((rd_T43 l0 x12_1).f3))) (fun _ hk => hk.2) (.int .i64 ((rd_T43 l0 x12_1).f4))) (fun _ hk => hk.2) (.string ((rd_T43 l0 x12_1).f5))) (fun _ hk => hk.2) (.string ((rd_T43 l0 x12_1).f6))) (fun _ h_ => h_.1))) gb496 (Nat.le_of_eq hg.symm)) hb); have BK496 := Aside0.mk (hbox); have GW496 := Aside0.mk ((by rw [hg]; exact (below_size (bz1 HB.out GE495.out)) : w.heap.size <= gb496)); have GE496 := Aside0.mk ((by rw [hg]; exact (below_size (bz1 HB.out GE495.out)) : w.heap.size <= gb496)); replace HB := Aside0.mk (below_step (bz1 HB.out GE495.out) hb); have NB495_496 := Aside0.mk ((by rw [hg]; exact Nat.ne_of_lt (blk_lt (g := gb495) (o := .cells #[.int .i64 ((rd_T43 l0 x12_1).f0), .int .i64 ((rd_T43 l0 x12_1).f1), .int .i64 ((rd_T43 l0 x12_1).f2), .int .i64 ((rd_T43 l0 x12_1).f3), .int .i64 ((rd_T43 l0 x12_1).f4), .string ((rd_T43 l0 x12_1).f5), .string ((rd_T43 l0 x12_1).f6)] 43 (0, 0)) (by refine kq ?_; refine blk_put (cs := #[.int .i64 ((rd_T43 l0 x12_1).f0), .int .i64 ((rd_T43 l0 x12_1).f1), .int .i64 ((rd_T43 l0 x12_1).f2), .int .i64 ((rd_T43 l0 x12_1).f3), .int .i64 ((rd_T43 l0 x12_1).f4), .string ((rd_T43 l0 x12_1).f5), .string (⟨#[]⟩ : ByteArray)]) ?_ 6 _ rfl; refine kq ?_; refine blk_put (cs := #[.int .i64 ((rd_T43 l0 x12_1).f0), .int .i64 ((rd_T43 l0 x12_1).f1), .int .i64 ((rd_T43 l0 x12_1).f2), .int .i64 ((rd_T43 l0 x12_1).f3), .int .i64 ((rd_T43 l0 x12_1).f4), .string (⟨#[]⟩ : ByteArray), .string (⟨#[]⟩ : ByteArray)]) ?_ 5 _ rfl; refine kq ?_; refine blk_put (cs := #[.int .i64 ((rd_T43 l0 x12_1).f0), .int .i64 ((rd_T43 l0 x12_1).f1), .int .i64 ((rd_T43 l0 x12_1).f2), .int .i64 ((rd_T43 l0 x12_1).f3), .int .i64 0, .string (⟨#[]⟩ : ByteArray), .string (⟨#[]⟩ : ByteArray)]) ?_ 4 _ rfl; refine kq ?_; refine blk_put (cs := #[.int .i64 ((rd_T43 l0 x12_1).f0), .int .i64 ((rd_T43 l0 x12_1).f1), .int .i64 ((rd_T43 l0 x12_1).f2), .int .i64 0, .int .i64 0, .string (⟨#[]⟩ : ByteArray), .string (⟨#[]⟩ : ByteArray)]) ?_ 3 _ rfl; refine kq ?_; refine blk_put (cs := #[.int .i64 ((rd_T43 l0 x12_1).f0), .int .i64 ((rd_T43 l0 x12_1).f1), .int .i64 0, .int .i64 0, .int .i64 0, .string (⟨#[]⟩ : ByteArray), .string (⟨#[]⟩ : ByteArray)]) ?_ 2 _ rfl; refine kq ?_; refine blk_put (cs := #[.int .i64 ((rd_T43 l0 x12_1).f0), .int .i64 0, .int .i64 0, .int .i64 0, .int .i64 0, .string (⟨#[]⟩ : ByteArray), .string (⟨#[]⟩ : ByteArray)]) ?_ 1 _ rfl; refine kq ?_; refine blk_put (cs := #[.int .i64 0, .int .i64 0, .int .i64 0, .int .i64 0, .int .i64 0, .string (⟨#[]⟩ : ByteArray), .string (⟨#[]⟩ : ByteArray)]) ?_ 0 _ rfl; refine kq ?_; exact BK495.out)) : gb495 ≠ gb496)); have NB496_495 := Aside0.mk ((by rw [hg]; exact Nat.ne_of_gt (blk_lt (g := gb495) (o := .cells #[.int .i64 ((rd_T43 l0 x12_1).f0), .int .i64 ((rd_T43 l0 x12_1).f1), .int .i64 ((rd_T43 l0 x12_1).f2), .int .i64 ((rd_T43 l0 x12_1).f3), .int .i64 ((rd_T43 l0 x12_1).f4), .string ((rd_T43 l0 x12_1).f5), .string ((rd_T43 l0 x12_1).f6)] 43 (0, 0)) (by refine kq ?_; refine blk_put (cs := #[.int .i64 ((rd_T43 l0 x12_1).f0), .int .i64 ((rd_T43 l0 x12_1).f1), .int .i64 ((rd_T43 l0 x12_1).f2), .int .i64 ((rd_T43 l0 x12_1).f3), .int .i64 ((rd_T43 l0 x12_1).f4), .string ((rd_T43 l0 x12_1).f5), .string (⟨#[]⟩ : ByteArray)]) ?_ 6 _ rfl; refine kq ?_; refine blk_put (cs := #[.int .i64 ((rd_T43 l0 x12_1).f0), .int .i64 ((rd_T43 l0 x12_1).f1), .int .i64 ((rd_T43 l0 x12_1).f2), .int .i64 ((rd_T43 l0 x12_1).f3), .int .i64 ((rd_T43 l0 x12_1).f4), .string (⟨#[]⟩ : ByteArray), .string (⟨#[]⟩ : ByteArray)]) ?_ 5 _ rfl; refine kq ?_; refine blk_put (cs := #[.int .i64 ((rd_T43 l0 x12_1).f0), .int .i64 ((rd_T43 l0 x12_1).f1), .int .i64 ((rd_T43 l0 x12_1).f2), .int .i64 ((rd_T43 l0 x12_1).f3), .int .i64 0, .string (⟨#[]⟩ : ByteArray), .string (⟨#[]⟩ : ByteArray)]) ?_ 4 _ rfl; refine kq ?_; refine blk_put (cs := #[.int .i64 ((rd_T43 l0 x12_1).f0), .int .i64 ((rd_T43 l0 x12_1).f1), .int .i64 ((rd_T43 l0 x12_1).f2), .int .i64 0, .int .i64 0, .string (⟨#[]⟩ : ByteArray), .string (⟨#[]⟩ : ByteArray)]) ?_ 3 _ rfl; refine kq ?_; refine blk_put (cs := #[.int .i64 ((rd_T43 l0 x12_1).f0), .int .i64 ((rd_T43 l0 x12_1).f1), .int .i64 0, .int .i64 0, .int .i64 0, .string (⟨#[]⟩ : ByteArray), .string (⟨#[]⟩ : ByteArray)]) ?_ 2 _ rfl; refine kq ?_; refine blk_put (cs := #[.int .i64 ((rd_T43 l0 x12_1).f0), .int .i64 0, .int .i64 0, .int .i64 0, .int .i64 0, .string (⟨#[]⟩ : ByteArray), .string (⟨#[]⟩ : ByteArray)]) ?_ 1 _ rfl; refine kq ?_; refine blk_put (cs := #[.int .i64 0, .int .i64 0, .int .i64 0, .int .i64 0, .int .i64 0, .string (⟨#[]⟩ : ByteArray), .string (⟨#[]⟩ : ByteArray)]) ?_ 0 _ rfl; refine kq ?_; exact BK495.out)) : gb496 ≠ gb495)); replace BK495 := Aside0.mk (blk_below (g := gb495) (o := .cells #[.int .i64 ((rd_T43 l0 x12_1).f0), .int .i64 ((rd_T43 l0 x12_1).f1), .int .i64 ((rd_T43 l0 x12_1).f2), .int .i64 ((rd_T43 l0 x12_1).f3), .int .i64 ((rd_T43 l0 x12_1).f4), .string ((rd_T43 l0 x12_1).f5), .string ((rd_T43 l0 x12_1).f6)] 43 (0, 0)) (by refine kq ?_; refine blk_put (cs := #[.int .i64 ((rd_T43 l0 x12_1).f0), .int .i64 ((rd_T43 l0 x12_1).f1), .int .i64 ((rd_T43 l0 x12_1).f2), .int .i64 ((rd_T43 l0 x12_1).f3), .int .i64 ((rd_T43 l0 x12_1).f4), .string ((rd_T43 l0 x12_1).f5), .string (⟨#[]⟩ : ByteArray)]) ?_ 6 _ rfl; refine kq ?_; refine blk_put (cs := #[.int .i64 ((rd_T43 l0 x12_1).f0), .int .i64 ((rd_T43 l0 x12_1).f1), .int .i64 ((rd_T43 l0 x12_1).f2), .int .i64 ((rd_T43 l0 x12_1).f3), .int .i64 ((rd_T43 l0 x12_1).f4), .string (⟨#[]⟩ : ByteArray), .string (⟨#[]⟩ : ByteArray)]) ?_ 5 _ rfl; refine kq ?_; refine blk_put (cs := #[.int .i64 ((rd_T43 l0 x12_1).f0), .int .i64 ((rd_T43 l0 x12_1).f1), .int .i64 ((rd_T43 l0 x12_1).f2), .int .i64 ((rd_T43 l0 x12_1).f3), .int .i64 0, .string (⟨#[]⟩ : ByteArray), .string (⟨#[]⟩ : ByteArray)]) ?_ 4 _ rfl; refine kq ?_; refine blk_put (cs := #[.int .i64 ((rd_T43 l0 x12_1).f0), .int .i64 ((rd_T43 l0 x12_1).f1), .int .i64 ((rd_T43 l0 x12_1).f2), .int .i64 0, .int .i64 0, .string (⟨#[]⟩ : ByteArray), .string (⟨#[]⟩ : ByteArray)]) ?_ 3 _ rfl; refine kq ?_; refine blk_put (cs := #[.int .i64 ((rd_T43 l0 x12_1).f0), .int .i64 ((rd_T43 l0 x12_1).f1), .int .i64 0, .int .i64 0, .int .i64 0, .string (⟨#[]⟩ : ByteArray), .string (⟨#[]⟩ : ByteArray)]) ?_ 2 _ rfl; refine kq ?_; refine blk_put (cs := #[.int .i64 ((rd_T43 l0 x12_1).f0), .int .i64 0, .int .i64 0, .int .i64 0, .int .i64 0, .string (⟨#[]⟩ : ByteArray), .string (⟨#[]⟩ : ByteArray)]) ?_ 1 _ rfl; refine kq ?_; refine blk_put (cs := #[.int .i64 0, .int .i64 0, .int .i64 0, .int .i64 0, .int .i64 0, .string (⟨#[]⟩ : ByteArray), .string (⟨#[]⟩ : ByteArray)]) ?_ 0 _ rfl; refine kq ?_; exact BK495.out) hb); clear hb hbox hg; have hnb13 := NB496_495.out; have hnc13 := NB495_496.out; obtain ⟨hcz14_0, hcz14_1⟩ := cz2 BK496.out; obtain ⟨hfz14_0, hfz14_1⟩ := fz2 BK496.out; obtain ⟨hcz15_0, hcz15_1, hcz15_2, hcz15_3, hcz15_4, hcz15_5, hcz15_6⟩ := cz7 BK495.out; obtain ⟨hfz15_0, hfz15_1, hfz15_2, hfz15_3, hfz15_4, hfz15_5, hfz15_6⟩ := fz7 BK495.out; obtain ⟨Ao16, co16, eo16⟩ := Kd.R_slice HO_3.out; subst eo16) | ((with_reducible refine gate_callee (f := 77) rfl ?_); refine goesL_ (some 26) rfl rfl Tryd.func77 (by kernel_rfl) rfl #[.slice (some ad494) l0.length c0, .slice Ao16 t491.length co16, .int .i64 x12_1, .string ((rd_T43 l0 x12_1).f5)] rfl lz ?_; (with_reducible refine (impl_binderOf.calls k1 _ _ l0 _ _ t491 x12_1 ((rd_T43 l0 x12_1).f5) t497 t498 _ ?side1 ?side2 ?side3 ?side4 A8.out).mono ?_); (case side1 => exact Kd.C_below HR0.out (bz2 HB.out GE495.out GE496.out)); (case side2 => exact HC0.out); (case side3 => refine (Kd.R_reads' (e := 3) (base := w.heap.size) (ok := fun k_ => True) (n := t491.length) (c := co16) ?_).2.2; exact (by refine rq ?_; exact (Kd.R_mono (Kd.R_far (p := ⟨gb496, 1, none⟩) (Kd.R_far (p := ⟨gb496, 0, none⟩) (Kd.R_types HO_3.out BK496.out (by decide)) (fun _ hk => hk.2) (.int .i64 (-1))) (fun _ hk => hk.2) (.int .i64 (-1))) (fun _ h_ => h_.1)))); (case side4 => exact (Kd.R_reads' HO_3.out).2.1); rintro e w17 ⟨rfl, hb⟩; refine ⟨_, rfl, ?_⟩; replace HO_3 := Aside0.mk (Kd.R_below (by refine rq ?_; exact (Kd.R_mono (Kd.R_far (p := ⟨gb496, 1, none⟩) (Kd.R_far (p := ⟨gb496, 0, none⟩) (Kd.R_types HO_3.out BK496.out (by decide)) (fun _ hk => hk.2) (.int .i64 (-1))) (fun _ hk => hk.2) (.int .i64 (-1))) (fun _ h_ => h_.1))) hb); replace HO_4 := Aside0.mk (Kd.R_below (by refine rq ?_; exact (Kd.R_mono (Kd.R_far (p := ⟨gb496, 1, none⟩) (Kd.R_far (p := ⟨gb496, 0, none⟩) (Kd.R_mono HO_4.out (fun k_ hk => (⟨hk, hk.2⟩ : _ /\ k_ ≠ gb496))) (fun _ hk => hk.2) (.int .i64 (-1))) (fun _ hk => hk.2) (.int .i64 (-1))) (fun _ h_ => h_.1))) hb); replace BK495 := Aside0.mk (blk_below (g := gb495) (o := .cells #[.int .i64 ((rd_T43 l0 x12_1).f0), .int .i64 ((rd_T43 l0 x12_1).f1), .int .i64 ((rd_T43 l0 x12_1).f2), .int .i64 ((rd_T43 l0 x12_1).f3), .int .i64 ((rd_T43 l0 x12_1).f4), .string ((rd_T43 l0 x12_1).f5), .string ((rd_T43 l0 x12_1).f6)] 43 (0, 0)) (by refine kq ?_; refine blk_far ?_ NB495_496.out _; refine kq ?_; refine blk_far ?_ NB495_496.out _; refine kq ?_; exact BK495.out) hb); replace BK496 := Aside0.mk (blk_below (g := gb496) (o := .cells #[.int .i64 (-1), .int .i64 (-1)] 55 (0, 0)) (by refine kq ?_; refine blk_put (cs := #[.int .i64 (-1), .int .i64 0]) ?_ 1 _ rfl; refine kq ?_; refine blk_put (cs := #[.int .i64 0, .int .i64 0]) ?_ 0 _ rfl; refine kq ?_; exact BK496.out) hb); replace HB := Aside0.mk (below_step (bz2 HB.out GE495.out GE496.out) hb); (try clear hb); (try clear hk); obtain ⟨hcz18_0, hcz18_1⟩ := cz2 BK496.out; obtain ⟨hfz18_0, hfz18_1⟩ := fz2 BK496.out) | ((with_reducible refine gate_builtin (b := .append) (xs := #[.tmp 27, .tmp 29]) rfl ?_); at_builtin; refine Kd.R_append k55 (w0 := w) w.heap.size rfl (.tmp 27) (.tmp 29) 57 55 (.agg #[(.int .i64 0), (.int .i64 0)]) 16 rfl Tryd.underlying57 info55 rfl (by decide) (by omega) u4 x4_1 (⟨t497, t498⟩ : S55) [.int .i64 t497, .int .i64 t498] (fun k_ => k_ ≠ gb496) (fun _ => False) rfl (by first | (go_simp; done) | (go_simp; rfl)) ?aP (fun _ hk => hk.elim) ?aF ?aO ?aB ?aS ?aL ?_; (case aP => exact k55_mkM _ _ _ (⟨t497, t498⟩ : S55)); (case aB => exact (bz2 HB.out GE495.out GE496.out)); (case aF => exact (fun k_ hk => Kd.freshB (g := gb496) (o := .cells #[.int .i64 t497, .int .i64 t498] 55 (0, 0)) (by refine kq ?_; refine blk_put (cs := #[.int .i64 t497, .int .i64 (-1)]) ?_ 1 _ rfl; refine kq ?_; refine blk_put (cs := #[.int .i64 (-1), .int .i64 (-1)]) ?_ 0 _ rfl; refine kq ?_; exact BK496.out) k_ hk)); (case aO => exact (by refine rq ?_; first | (with_reducible exact Kd.R_mono (Kd.R_far (p := ⟨gb496, 1, none⟩) (Kd.R_far (p := ⟨gb496, 0, none⟩) (Kd.R_mono HO_4.out (fun k_ hk => (⟨hk, hk.2⟩ : _ /\ k_ ≠ gb496))) (fun _ hk => hk.2) (.int .i64 t497)) (fun _ hk => hk.2) (.int .i64 t498)) (fun _ hk => hk.1.2)) | (with_reducible exact Kd.R_mono (Kd.R_far (p := ⟨gb496, 1, none⟩) (Kd.R_drewN (Kd.R_far (p := ⟨gb496, 0, none⟩) (Kd.R_mono HO_4.out (fun k_ hk => (⟨hk, hk.2⟩ : _ /\ k_ ≠ gb496))) (fun _ hk => hk.2) (.int .i64 t497)) _) (fun _ hk => hk.2) (.int .i64 t498)) (fun _ hk => hk.1.2)) | exact Kd.R_mono (Kd.R_far (p := ⟨gb496, 1, none⟩) (Kd.R_drewN (Kd.R_far (p := ⟨gb496, 0, none⟩) (Kd.R_mono HO_4.out (fun k_ hk => (⟨hk, hk.2⟩ : _ /\ k_ ≠ gb496))) (fun _ hk => hk.2) (.int .i64 t497)) _) (fun _ hk => hk.2) (.int .i64 t498)) (fun _ hk => hk.1.2))); (case aS => exact (below_size (bz2 HB.out GE495.out GE496.out))); (case aL => have := LMc9.out; omega); intro v500 w19 ho hb hg hat; rw [<- Ny499.out] at ho; have n0_ := Aside0.mk (Kd.R_over' (by refine rq ?_; exact (Kd.R_mono (Kd.R_far (p := ⟨gb496, 1, none⟩) (Kd.R_far (p := ⟨gb496, 0, none⟩) (Kd.R_types HO_3.out BK496.out (by decide)) (fun _ hk => hk.2) (.int .i64 t497)) (fun _ hk => hk.2) (.int .i64 t498)) (fun _ h_ => h_.1))) (Kd.R_typed (by refine rq ?_; exact (Kd.R_mono (Kd.R_far (p := ⟨gb496, 1, none⟩) (Kd.R_far (p := ⟨gb496, 0, none⟩) (Kd.R_mono HO_4.out (fun k_ hk => (⟨hk, hk.2⟩ : _ /\ k_ ≠ gb496))) (fun _ hk => hk.2) (.int .i64 t497)) (fun _ hk => hk.2) (.int .i64 t498)) (fun _ h_ => h_.1)))) (by decide) hg); have n1_ := Aside0.mk (blk_grown (g := gb495) (o := .cells #[.int .i64 ((rd_T43 l0 x12_1).f0), .int .i64 ((rd_T43 l0 x12_1).f1), .int .i64 ((rd_T43 l0 x12_1).f2), .int .i64 ((rd_T43 l0 x12_1).f3), .int .i64 ((rd_T43 l0 x12_1).f4), .string ((rd_T43 l0 x12_1).f5), .string ((rd_T43 l0 x12_1).f6)] 43 (0, 0)) (by refine kq ?_; refine blk_far ?_ NB495_496.out _; refine kq ?_; refine blk_far ?_ NB495_496.out _; refine kq ?_; exact BK495.out) hg (Kd.R_ne HO_4.out BK495.out (by decide))); have n2_ := Aside0.mk (blk_grown (g := gb496) (o := .cells #[.int .i64 t497, .int .i64 t498] 55 (0, 0)) (by refine kq ?_; refine blk_put (cs := #[.int .i64 t497, .int .i64 (-1)]) ?_ 1 _ rfl; refine kq ?_; refine blk_put (cs := #[.int .i64 (-1), .int .i64 (-1)]) ?_ 0 _ rfl; refine kq ?_; exact BK496.out) hg (Kd.R_away HO_4.out (fun _ hk => hk.2))); have n3_ := Aside0.mk (hb); have n4_ := Aside0.mk (ho); clear HO_3; clear BK495; clear BK496; clear HB; clear HO_4; have HO_3 := n0_; have BK495 := n1_; have BK496 := n2_; have HB := n3_; have HO501 := n4_; clear n0_ n1_ n2_ n3_ n4_; clear ho hb hg hat))
     go_roundg k1
     case measure => have := HK1.out; omega
     case rel => exact ⟨(y499), (wrap64 (x12_1 + 1)), ez, H', ⟨by have := HK1.out; omega⟩, ⟨by refine rq ?_; exact HO_3.out⟩, ⟨by refine rq ?_; exact Kd.R_mono HO501.out (fun _ hk => trivial)⟩, ⟨(bz2 HB.out GE495.out GE496.out)⟩⟩
    ·rw [if_neg c7] at H
     have c7b0 : (((rd_T43 l0 x12_1).f0) == 1) = false := beq_eq_false_iff_ne.mpr c7
     have c7b1 : (((rd_T43 l0 x12_1).f0) != 1) = true := bne_iff_ne.mpr c7
     replace H := iz H
     obtain ⟨c20, H⟩ := H
     have LMc20 := Aside0.mk c20
     clear c20
     obtain ⟨y502, hy502⟩ : ∃ y_ : List (S55), y_ = (x4_1 ++ [(⟨(-1), (-1)⟩ : S55)]) := ⟨_, rfl⟩
     replace H : (impl_binders.l0 k1 l0 t491 y502 l0 (l0.length : Int) (wrap64 (x12_1 + 1))) = some r := yz hy502 H
     have Ny502 := Aside0.mk hy502
     clear hy502
     have H' := Aside0.mk H
     clear H
     have p494 : 0 <= (x12_1 : Int) := oz
     have q494 : x12_1 < (l0.length : Int) := oz
     obtain ⟨ad494, e494, hx494_0, hx494_1, hx494_2, hx494_3, hx494_4, hx494_5, hx494_6⟩ := at_T43 (Kd.C_below HR0.out HB.out) x12_1 p494 q494
     cases e494
     replace p494 := eq_true p494
     replace q494 := eq_true q494
     go_wp2_with (first | ((with_reducible refine gate_dst (N := 6) rfl ?_); refine box_event ?hg (N := 6) ?hd (cs := #[.int .i64 0, .int .i64 0, .int .i64 0, .int .i64 0, .int .i64 0, .string (⟨#[]⟩ : ByteArray), .string (⟨#[]⟩ : ByteArray)]) (t := 43) ?hr ?_; (case hd => rfl); (case hg => rfl); (case hr => exact vz); intro gb495 hg w21 hbox hb; replace HO_3 := qz HO_3 hb; replace HO_4 := qz HO_4 hb; have BK495 := Aside0.mk (hbox); have GW495 := Aside0.mk ((by rw [hg]; exact (below_size (bz0 HB.out)) : w.heap.size <= gb495)); have GE495 := Aside0.mk ((by rw [hg]; exact (below_size (bz0 HB.out)) : w.heap.size <= gb495)); replace HB := Aside0.mk (below_step (bz0 HB.out) hb); clear hb hbox hg; obtain ⟨hcz22_0, hcz22_1, hcz22_2, hcz22_3, hcz22_4, hcz22_5, hcz22_6⟩ := cz7 BK495.out; obtain ⟨hfz22_0, hfz22_1, hfz22_2, hfz22_3, hfz22_4, hfz22_5, hfz22_6⟩ := fz7 BK495.out) | ((with_reducible refine gate_dst (N := 7) rfl ?_); refine box_event ?hg (N := 7) ?hd (cs := #[.int .i64 0, .int .i64 0]) (t := 55) ?hr ?_; (case hd => rfl); (case hg => rfl); (case hr => exact vz); intro gb496 hg w23 hbox hb; replace HO_3 := Aside0.mk (Kd.R_below (by refine rq ?_; exact (Kd.R_mono (Kd.R_far (p := ⟨gb495, 6, none⟩) (Kd.R_far (p := ⟨gb495, 5, none⟩) (Kd.R_far (p := ⟨gb495, 4, none⟩) (Kd.R_far (p := ⟨gb495, 3, none⟩) (Kd.R_far (p := ⟨gb495, 2, none⟩) (Kd.R_far (p := ⟨gb495, 1, none⟩) (Kd.R_far (p := ⟨gb495, 0, none⟩) (Kd.R_types HO_3.out BK495.out (by decide)) (fun _ hk => hk.2) (.int .i64 ((rd_T43 l0 x12_1).f0))) (fun _ hk => hk.2) (.int .i64 ((rd_T43 l0 x12_1).f1))) (fun _ hk => hk.2) (.int .i64 ((rd_T43 l0 x12_1).f2))) (fun _ hk => hk.2) (.int .i64 ((rd_T43 l0 x12_1).f3))) (fun _ hk => hk.2) (.int .i64 ((rd_T43 l0 x12_1).f4))) (fun _ hk => hk.2) (.string ((rd_T43 l0 x12_1).f5))) (fun _ hk => hk.2) (.string ((rd_T43 l0 x12_1).f6))) (fun _ h_ => h_.1))) hb); replace HO_4 := Aside0.mk (Kd.R_below (Kd.R_elderB (by refine rq ?_; exact (Kd.R_mono (Kd.R_far (p := ⟨gb495, 6, none⟩) (Kd.R_far (p := ⟨gb495, 5, none⟩) (Kd.R_far (p := ⟨gb495, 4, none⟩) (Kd.R_far (p := ⟨gb495, 3, none⟩) (Kd.R_far (p := ⟨gb495, 2, none⟩) (Kd.R_far (p := ⟨gb495, 1, none⟩) (Kd.R_far (p := ⟨gb495, 0, none⟩) (Kd.R_types HO_4.out BK495.out (by decide)) (fun _ hk => hk.2) (.int .i64 ((rd_T43 l0 x12_1).f0))) (fun _ hk => hk.2) (.int .i64 ((rd_T43 l0 x12_1).f1))) (fun _ hk => hk.2) (.int .i64 ((rd_T43 l0 x12_1).f2))) (fun _ hk => hk.2) (.int .i64 ((rd_T43 l0 x12_1).f3))) (fun _ hk => hk.2) (.int .i64 ((rd_T43 l0 x12_1).f4))) (fun _ hk => hk.2) (.string ((rd_T43 l0 x12_1).f5))) (fun _ hk => hk.2) (.string ((rd_T43 l0 x12_1).f6))) (fun _ h_ => h_.1))) gb496 (Nat.le_of_eq hg.symm)) hb); have BK496 := Aside0.mk (hbox); have GW496 := Aside0.mk ((by rw [hg]; exact (below_size (bz1 HB.out GE495.out)) : w.heap.size <= gb496)); have GE496 := Aside0.mk ((by rw [hg]; exact (below_size (bz1 HB.out GE495.out)) : w.heap.size <= gb496)); replace HB := Aside0.mk (below_step (bz1 HB.out GE495.out) hb); have NB495_496 := Aside0.mk ((by rw [hg]; exact Nat.ne_of_lt (blk_lt (g := gb495) (o := .cells #[.int .i64 ((rd_T43 l0 x12_1).f0), .int .i64 ((rd_T43 l0 x12_1).f1), .int .i64 ((rd_T43 l0 x12_1).f2), .int .i64 ((rd_T43 l0 x12_1).f3), .int .i64 ((rd_T43 l0 x12_1).f4), .string ((rd_T43 l0 x12_1).f5), .string ((rd_T43 l0 x12_1).f6)] 43 (0, 0)) (by refine kq ?_; refine blk_put (cs := #[.int .i64 ((rd_T43 l0 x12_1).f0), .int .i64 ((rd_T43 l0 x12_1).f1), .int .i64 ((rd_T43 l0 x12_1).f2), .int .i64 ((rd_T43 l0 x12_1).f3), .int .i64 ((rd_T43 l0 x12_1).f4), .string ((rd_T43 l0 x12_1).f5), .string (⟨#[]⟩ : ByteArray)]) ?_ 6 _ rfl; refine kq ?_; refine blk_put (cs := #[.int .i64 ((rd_T43 l0 x12_1).f0), .int .i64 ((rd_T43 l0 x12_1).f1), .int .i64 ((rd_T43 l0 x12_1).f2), .int .i64 ((rd_T43 l0 x12_1).f3), .int .i64 ((rd_T43 l0 x12_1).f4), .string (⟨#[]⟩ : ByteArray), .string (⟨#[]⟩ : ByteArray)]) ?_ 5 _ rfl; refine kq ?_; refine blk_put (cs := #[.int .i64 ((rd_T43 l0 x12_1).f0), .int .i64 ((rd_T43 l0 x12_1).f1), .int .i64 ((rd_T43 l0 x12_1).f2), .int .i64 ((rd_T43 l0 x12_1).f3), .int .i64 0, .string (⟨#[]⟩ : ByteArray), .string (⟨#[]⟩ : ByteArray)]) ?_ 4 _ rfl; refine kq ?_; refine blk_put (cs := #[.int .i64 ((rd_T43 l0 x12_1).f0), .int .i64 ((rd_T43 l0 x12_1).f1), .int .i64 ((rd_T43 l0 x12_1).f2), .int .i64 0, .int .i64 0, .string (⟨#[]⟩ : ByteArray), .string (⟨#[]⟩ : ByteArray)]) ?_ 3 _ rfl; refine kq ?_; refine blk_put (cs := #[.int .i64 ((rd_T43 l0 x12_1).f0), .int .i64 ((rd_T43 l0 x12_1).f1), .int .i64 0, .int .i64 0, .int .i64 0, .string (⟨#[]⟩ : ByteArray), .string (⟨#[]⟩ : ByteArray)]) ?_ 2 _ rfl; refine kq ?_; refine blk_put (cs := #[.int .i64 ((rd_T43 l0 x12_1).f0), .int .i64 0, .int .i64 0, .int .i64 0, .int .i64 0, .string (⟨#[]⟩ : ByteArray), .string (⟨#[]⟩ : ByteArray)]) ?_ 1 _ rfl; refine kq ?_; refine blk_put (cs := #[.int .i64 0, .int .i64 0, .int .i64 0, .int .i64 0, .int .i64 0, .string (⟨#[]⟩ : ByteArray), .string (⟨#[]⟩ : ByteArray)]) ?_ 0 _ rfl; refine kq ?_; exact BK495.out)) : gb495 ≠ gb496)); have NB496_495 := Aside0.mk ((by rw [hg]; exact Nat.ne_of_gt (blk_lt (g := gb495) (o := .cells #[.int .i64 ((rd_T43 l0 x12_1).f0), .int .i64 ((rd_T43 l0 x12_1).f1), .int .i64 ((rd_T43 l0 x12_1).f2), .int .i64 ((rd_T43 l0 x12_1).f3), .int .i64 ((rd_T43 l0 x12_1).f4), .string ((rd_T43 l0 x12_1).f5), .string ((rd_T43 l0 x12_1).f6)] 43 (0, 0)) (by refine kq ?_; refine blk_put (cs := #[.int .i64 ((rd_T43 l0 x12_1).f0), .int .i64 ((rd_T43 l0 x12_1).f1), .int .i64 ((rd_T43 l0 x12_1).f2), .int .i64 ((rd_T43 l0 x12_1).f3), .int .i64 ((rd_T43 l0 x12_1).f4), .string ((rd_T43 l0 x12_1).f5), .string (⟨#[]⟩ : ByteArray)]) ?_ 6 _ rfl; refine kq ?_; refine blk_put (cs := #[.int .i64 ((rd_T43 l0 x12_1).f0), .int .i64 ((rd_T43 l0 x12_1).f1), .int .i64 ((rd_T43 l0 x12_1).f2), .int .i64 ((rd_T43 l0 x12_1).f3), .int .i64 ((rd_T43 l0 x12_1).f4), .string (⟨#[]⟩ : ByteArray), .string (⟨#[]⟩ : ByteArray)]) ?_ 5 _ rfl; refine kq ?_; refine blk_put (cs := #[.int .i64 ((rd_T43 l0 x12_1).f0), .int .i64 ((rd_T43 l0 x12_1).f1), .int .i64 ((rd_T43 l0 x12_1).f2), .int .i64 ((rd_T43 l0 x12_1).f3), .int .i64 0, .string (⟨#[]⟩ : ByteArray), .string (⟨#[]⟩ : ByteArray)]) ?_ 4 _ rfl; refine kq ?_; refine blk_put (cs := #[.int .i64 ((rd_T43 l0 x12_1).f0), .int .i64 ((rd_T43 l0 x12_1).f1), .int .i64 ((rd_T43 l0 x12_1).f2), .int .i64 0, .int .i64 0, .string (⟨#[]⟩ : ByteArray), .string (⟨#[]⟩ : ByteArray)]) ?_ 3 _ rfl; refine kq ?_; refine blk_put (cs := #[.int .i64 ((rd_T43 l0 x12_1).f0), .int .i64 ((rd_T43 l0 x12_1).f1), .int .i64 0, .int .i64 0, .int .i64 0, .string (⟨#[]⟩ : ByteArray), .string (⟨#[]⟩ : ByteArray)]) ?_ 2 _ rfl; refine kq ?_; refine blk_put (cs := #[.int .i64 ((rd_T43 l0 x12_1).f0), .int .i64 0, .int .i64 0, .int .i64 0, .int .i64 0, .string (⟨#[]⟩ : ByteArray), .string (⟨#[]⟩ : ByteArray)]) ?_ 1 _ rfl; refine kq ?_; refine blk_put (cs := #[.int .i64 0, .int .i64 0, .int .i64 0, .int .i64 0, .int .i64 0, .string (⟨#[]⟩ : ByteArray), .string (⟨#[]⟩ : ByteArray)]) ?_ 0 _ rfl; refine kq ?_; exact BK495.out)) : gb496 ≠ gb495)); replace BK495 := Aside0.mk (blk_below (g := gb495) (o := .cells #[.int .i64 ((rd_T43 l0 x12_1).f0), .int .i64 ((rd_T43 l0 x12_1).f1), .int .i64 ((rd_T43 l0 x12_1).f2), .int .i64 ((rd_T43 l0 x12_1).f3), .int .i64 ((rd_T43 l0 x12_1).f4), .string ((rd_T43 l0 x12_1).f5), .string ((rd_T43 l0 x12_1).f6)] 43 (0, 0)) (by refine kq ?_; refine blk_put (cs := #[.int .i64 ((rd_T43 l0 x12_1).f0), .int .i64 ((rd_T43 l0 x12_1).f1), .int .i64 ((rd_T43 l0 x12_1).f2), .int .i64 ((rd_T43 l0 x12_1).f3), .int .i64 ((rd_T43 l0 x12_1).f4), .string ((rd_T43 l0 x12_1).f5), .string (⟨#[]⟩ : ByteArray)]) ?_ 6 _ rfl; refine kq ?_; refine blk_put (cs := #[.int .i64 ((rd_T43 l0 x12_1).f0), .int .i64 ((rd_T43 l0 x12_1).f1), .int .i64 ((rd_T43 l0 x12_1).f2), .int .i64 ((rd_T43 l0 x12_1).f3), .int .i64 ((rd_T43 l0 x12_1).f4), .string (⟨#[]⟩ : ByteArray), .string (⟨#[]⟩ : ByteArray)]) ?_ 5 _ rfl; refine kq ?_; refine blk_put (cs := #[.int .i64 ((rd_T43 l0 x12_1).f0), .int .i64 ((rd_T43 l0 x12_1).f1), .int .i64 ((rd_T43 l0 x12_1).f2), .int .i64 ((rd_T43 l0 x12_1).f3), .int .i64 0, .string (⟨#[]⟩ : ByteArray), .string (⟨#[]⟩ : ByteArray)]) ?_ 4 _ rfl; refine kq ?_; refine blk_put (cs := #[.int .i64 ((rd_T43 l0 x12_1).f0), .int .i64 ((rd_T43 l0 x12_1).f1), .int .i64 ((rd_T43 l0 x12_1).f2), .int .i64 0, .int .i64 0, .string (⟨#[]⟩ : ByteArray), .string (⟨#[]⟩ : ByteArray)]) ?_ 3 _ rfl; refine kq ?_; refine blk_put (cs := #[.int .i64 ((rd_T43 l0 x12_1).f0), .int .i64 ((rd_T43 l0 x12_1).f1), .int .i64 0, .int .i64 0, .int .i64 0, .string (⟨#[]⟩ : ByteArray), .string (⟨#[]⟩ : ByteArray)]) ?_ 2 _ rfl; refine kq ?_; refine blk_put (cs := #[.int .i64 ((rd_T43 l0 x12_1).f0), .int .i64 0, .int .i64 0, .int .i64 0, .int .i64 0, .string (⟨#[]⟩ : ByteArray), .string (⟨#[]⟩ : ByteArray)]) ?_ 1 _ rfl; refine kq ?_; refine blk_put (cs := #[.int .i64 0, .int .i64 0, .int .i64 0, .int .i64 0, .int .i64 0, .string (⟨#[]⟩ : ByteArray), .string (⟨#[]⟩ : ByteArray)]) ?_ 0 _ rfl; refine kq ?_; exact BK495.out) hb); clear hb hbox hg; have hnb24 := NB496_495.out; have hnc24 := NB495_496.out; obtain ⟨hcz25_0, hcz25_1⟩ := cz2 BK496.out; obtain ⟨hfz25_0, hfz25_1⟩ := fz2 BK496.out; obtain ⟨hcz26_0, hcz26_1, hcz26_2, hcz26_3, hcz26_4, hcz26_5, hcz26_6⟩ := cz7 BK495.out; obtain ⟨hfz26_0, hfz26_1, hfz26_2, hfz26_3, hfz26_4, hfz26_5, hfz26_6⟩ := fz7 BK495.out) | ((with_reducible refine gate_builtin (b := .append) (xs := #[.tmp 27, .tmp 29]) rfl ?_); at_builtin; refine Kd.R_append k55 (w0 := w) w.heap.size rfl (.tmp 27) (.tmp 29) 57 55 (.agg #[(.int .i64 0), (.int .i64 0)]) 16 rfl Tryd.underlying57 info55 rfl (by decide) (by omega) u4 x4_1 (⟨(-1), (-1)⟩ : S55) [.int .i64 (-1), .int .i64 (-1)] (fun k_ => k_ ≠ gb496) (fun _ => False) rfl (by first | (go_simp; done) | (go_simp; rfl)) ?aP (fun _ hk => hk.elim) ?aF ?aO ?aB ?aS ?aL ?_; (case aP => exact k55_mkM _ _ _ (⟨(-1), (-1)⟩ : S55)); (case aB => exact (bz2 HB.out GE495.out GE496.out)); (case aF => exact (fun k_ hk => Kd.freshB (g := gb496) (o := .cells #[.int .i64 (-1), .int .i64 (-1)] 55 (0, 0)) (by refine kq ?_; refine blk_put (cs := #[.int .i64 (-1), .int .i64 0]) ?_ 1 _ rfl; refine kq ?_; refine blk_put (cs := #[.int .i64 0, .int .i64 0]) ?_ 0 _ rfl; refine kq ?_; exact BK496.out) k_ hk)); (case aO => exact (by refine rq ?_; first | (with_reducible exact Kd.R_mono (Kd.R_far (p := ⟨gb496, 1, none⟩) (Kd.R_far (p := ⟨gb496, 0, none⟩) (Kd.R_mono HO_4.out (fun k_ hk => (⟨hk, hk.2⟩ : _ /\ k_ ≠ gb496))) (fun _ hk => hk.2) (.int .i64 (-1))) (fun _ hk => hk.2) (.int .i64 (-1))) (fun _ hk => hk.1.2)) | (with_reducible exact Kd.R_mono (Kd.R_far (p := ⟨gb496, 1, none⟩) (Kd.R_drewN (Kd.R_far (p := ⟨gb496, 0, none⟩) (Kd.R_mono HO_4.out (fun k_ hk => (⟨hk, hk.2⟩ : _ /\ k_ ≠ gb496))) (fun _ hk => hk.2) (.int .i64 (-1))) _) (fun _ hk => hk.2) (.int .i64 (-1))) (fun _ hk => hk.1.2)) | exact Kd.R_mono (Kd.R_far (p := ⟨gb496, 1, none⟩) (Kd.R_drewN (Kd.R_far (p := ⟨gb496, 0, none⟩) (Kd.R_mono HO_4.out (fun k_ hk => (⟨hk, hk.2⟩ : _ /\ k_ ≠ gb496))) (fun _ hk => hk.2) (.int .i64 (-1))) _) (fun _ hk => hk.2) (.int .i64 (-1))) (fun _ hk => hk.1.2))); (case aS => exact (below_size (bz2 HB.out GE495.out GE496.out))); (case aL => have := LMc20.out; omega); intro v503 w27 ho hb hg hat; rw [<- Ny502.out] at ho; have n0_ := Aside0.mk (Kd.R_over' (by refine rq ?_; exact (Kd.R_mono (Kd.R_far (p := ⟨gb496, 1, none⟩) (Kd.R_far (p := ⟨gb496, 0, none⟩) (Kd.R_types HO_3.out BK496.out (by decide)) (fun _ hk => hk.2) (.int .i64 (-1))) (fun _ hk => hk.2) (.int .i64 (-1))) (fun _ h_ => h_.1))) (Kd.R_typed (by refine rq ?_; exact (Kd.R_mono (Kd.R_far (p := ⟨gb496, 1, none⟩) (Kd.R_far (p := ⟨gb496, 0, none⟩) (Kd.R_mono HO_4.out (fun k_ hk => (⟨hk, hk.2⟩ : _ /\ k_ ≠ gb496))) (fun _ hk => hk.2) (.int .i64 (-1))) (fun _ hk => hk.2) (.int .i64 (-1))) (fun _ h_ => h_.1)))) (by decide) hg); have n1_ := Aside0.mk (blk_grown (g := gb495) (o := .cells #[.int .i64 ((rd_T43 l0 x12_1).f0), .int .i64 ((rd_T43 l0 x12_1).f1), .int .i64 ((rd_T43 l0 x12_1).f2), .int .i64 ((rd_T43 l0 x12_1).f3), .int .i64 ((rd_T43 l0 x12_1).f4), .string ((rd_T43 l0 x12_1).f5), .string ((rd_T43 l0 x12_1).f6)] 43 (0, 0)) (by refine kq ?_; refine blk_far ?_ NB495_496.out _; refine kq ?_; refine blk_far ?_ NB495_496.out _; refine kq ?_; exact BK495.out) hg (Kd.R_ne HO_4.out BK495.out (by decide))); have n2_ := Aside0.mk (blk_grown (g := gb496) (o := .cells #[.int .i64 (-1), .int .i64 (-1)] 55 (0, 0)) (by refine kq ?_; refine blk_put (cs := #[.int .i64 (-1), .int .i64 0]) ?_ 1 _ rfl; refine kq ?_; refine blk_put (cs := #[.int .i64 0, .int .i64 0]) ?_ 0 _ rfl; refine kq ?_; exact BK496.out) hg (Kd.R_away HO_4.out (fun _ hk => hk.2))); have n3_ := Aside0.mk (hb); have n4_ := Aside0.mk (ho); clear HO_3; clear BK495; clear BK496; clear HB; clear HO_4; have HO_3 := n0_; have BK495 := n1_; have BK496 := n2_; have HB := n3_; have HO504 := n4_; clear n0_ n1_ n2_ n3_ n4_; clear ho hb hg hat))
     go_roundg k1
     case measure => have := HK1.out; omega
     case rel => exact ⟨(y502), (wrap64 (x12_1 + 1)), ez, H', ⟨by have := HK1.out; omega⟩, ⟨by refine rq ?_; exact HO_3.out⟩, ⟨by refine rq ?_; exact Kd.R_mono HO504.out (fun _ hk => trivial)⟩, ⟨(bz2 HB.out GE495.out GE496.out)⟩⟩
   ·rw [if_neg c4] at H
    have c4b0 := decide_eq_false c4
    clear c4
    obtain rfl := Option.some.inj H
    go_wp2
    go_ret
    exact ⟨_, gz, by refine rq ?_; exact HO_4.out, (bz0 HB.out)⟩
def impl_FreeNames.l0 : Nat -> List (S43) -> List ByteArray -> List (S55) -> Int -> Int -> Option (List ByteArray)
 | 0, _, _, _, _, _ => none
 | k + 1, x0, x3, x10, x11, x12 => if x12 < x11 then (if 0 <= x12 then (if x12 < (x10.length : Int) then (if x12 < (x0.length : Int) then (if ((rd_T43 x0 x12).f0) = 1 then (if ((rd_T55 x10 x12).f0) < 0 then (if x3.length < 8796093022208 then (impl_FreeNames.l0 k x0 (x3 ++ [(rd_T43 x0 x12).f5]) x10 x11 (wrap64 (x12 + 1))) else (none)) else (impl_FreeNames.l0 k x0 x3 x10 x11 (wrap64 (x12 + 1)))) else (impl_FreeNames.l0 k x0 x3 x10 x11 (wrap64 (x12 + 1)))) else (none)) else (none)) else (none)) else ((impl_sorted.f k x3).bind fun bt516 => (some bt516.1))
def impl_FreeNames.f (k : Nat) (l0 : List (S43)) : Option (List ByteArray) := (impl_NodesOk.f k l0).bind fun t505 => (if t505 = true then ((impl_binders.f k l0).bind fun t506 => (impl_FreeNames.l0 k l0 ([] : List ByteArray) t506 (t506.length : Int) 0)) else (some ([] : List ByteArray)))
theorem impl_FreeNames.mono_l : ∀ k, (∀ y0 y1 y2 y3 y4, LeO (impl_FreeNames.l0 k y0 y1 y2 y3 y4) (impl_FreeNames.l0 (k + 1) y0 y1 y2 y3 y4))
 | 0 => fun _ _ _ _ _ r h => by simp [impl_FreeNames.l0] at h
 | k + 1 => by
  have ih0 := impl_FreeNames.mono_l k
  ·intro y0 y1 y2 y3 y4
   unfold impl_FreeNames.l0
   with_reducible repeat' first | exact ih0 _ _ _ _ _ | exact impl_NodesOk.mono _ _ | exact impl_binders.mono _ _ | exact impl_sorted.mono _ _ | exact lrz _ | exact lnz _ | refine liz ?_ ?_ | refine lbz ?_ fun _ => ?_
theorem impl_FreeNames.mono : ∀ a0 k, LeO (impl_FreeNames.f k a0) (impl_FreeNames.f (k + 1) a0) := by
 intro a0 k
 have ih0 := impl_FreeNames.mono_l k
 unfold impl_FreeNames.f
 with_reducible repeat' first | exact ih0 _ _ _ _ _ | exact impl_NodesOk.mono _ _ | exact impl_binders.mono _ _ | exact impl_sorted.mono _ _ | exact lrz _ | exact lnz _ | refine liz ?_ ?_ | refine lbz ?_ fun _ => ?_
set_option maxHeartbeats 8000000 in
set_option maxRecDepth 100000 in
theorem impl_FreeNames.calls (k : Nat) (A0 : Option Addr) (c0 : Nat) (l0 : List (S43)) (r : List ByteArray) (w : World) (hr0 : Kd.C k43 w A0 l0.length l0) (hc0 : l0.length <= c0) (h : impl_FreeNames.f k l0 = some r) :
  Calls Tryd.prog 26 #[.slice A0 l0.length c0] w fun e w' => ∃ v0_ : Value, e = .returned (v0_) /\ Kd.R Kd.string 9 w' w.heap.size (fun _ => True) v0_ r /\ Below w.heap.size w w' := by
 have hu55 := Tryd.underlying55
 have HR0 := Aside0.mk hr0
 have HC0 := Aside0.mk hc0
 clear hr0 hc0
 have HB := Aside0.mk (Below.refl w.heap.size w)
 have H : ((impl_NodesOk.f k l0).bind fun t505 => (if t505 = true then ((impl_binders.f k l0).bind fun t506 => (impl_FreeNames.l0 k l0 ([] : List ByteArray) t506 (t506.length : Int) 0)) else (some ([] : List ByteArray)))) = some r := h
 clear h
 replace H := bi H
 obtain ⟨t505, A20, H⟩ := H
 try dsimp only at H
 have A2 := Aside0.mk A20
 clear A20
 by_cases c3 : t505 = true
 ·subst c3
  have H1 := hp H
  clear H
  have H := H1
  clear H1
  replace H := bi H
  obtain ⟨t506, A40, H⟩ := H
  try dsimp only at H
  have A4 := Aside0.mk A40
  clear A40
  have H' := Aside0.mk H
  clear H
  go_enter Tryd.func26, Tryd.ntmps26
  go_wp2_with (first | ((with_reducible refine gate_callee (f := 36) rfl ?_); refine goesL_ (some 7) rfl rfl Tryd.func36 (by kernel_rfl) rfl #[.slice A0 l0.length c0] rfl lz ?_; (with_reducible refine (impl_NodesOk.calls k _ _ l0 true _ ?side1 ?side2 A2.out).mono ?_); (case side1 => repeat (first | exact HR0.out | (with_reducible refine Kd.C_alloc ?_ _) | (with_reducible refine Kd.C_drewN ?_ _) | (with_reducible refine Kd.C_drew ?_))); (case side2 => exact HC0.out); rintro e w5 ⟨rfl, hb⟩; refine ⟨_, rfl, ?_⟩; replace HB := Aside0.mk (below_step (bz0 HB.out) hb); (try clear hb); (try clear hi)) | ((with_reducible refine gate_callee (f := 50) rfl ?_); refine goesL_ (some 10) rfl rfl Tryd.func50 (by kernel_rfl) rfl #[.slice A0 l0.length c0] rfl lz ?_; (with_reducible refine (impl_binders.calls k _ _ l0 t506 _ ?side1 ?side2 A4.out).mono ?_); (case side1 => exact cz (Kd.C_below HR0.out HB.out)); (case side2 => exact HC0.out); rintro e w6 ⟨v507, rfl, ho0, hb⟩; refine ⟨_, rfl, ?_⟩; have HO508 := Aside0.mk (Kd.R_lower ho0 (below_size (bz0 HB.out))); replace HB := Aside0.mk (below_step (bz0 HB.out) hb); (try clear hb); (try clear ho0); obtain ⟨Ao7, co7, eo7⟩ := Kd.R_slice HO508.out; subst eo7))
  go_loopg [3, 12] k (fun kq v3 v12 w' => ∃ (x3_1 : List ByteArray) (x12_1 : Int), v12 = .int .i64 x12_1 /\ Aside0 (impl_FreeNames.l0 kq l0 x3_1 t506 (t506.length : Int) x12_1 = some r) /\ Aside0 (kq <= k) /\ Aside0 (Kd.R Kd.string 9 w' w.heap.size (fun _ => True) v3 x3_1) /\ Aside0 (Kd.R k55 55 w' w.heap.size (fun _ => True) (.slice Ao7 t506.length co7) t506) /\ Aside0 (Below w.heap.size w w'))
  case atStart => exact ⟨(([] : List ByteArray)), (0), ez, H', ⟨Nat.le_refl _⟩, ⟨by first | exact Kd.R_nil _ _ _ _ _ | exact Kd.N_nil _ _ _ _ _ | exact Kd.V_nil _ _ _ _ _ | exact Kd.Q_nil _ _ _ _ _ | exact Kd.S_nil _ _ _ _ _⟩, ⟨by refine rq ?_; exact HO508.out⟩, ⟨(bz0 HB.out)⟩⟩
  case round =>
   clear H'
   try clear c2
   try clear p2
   try clear c3
   try clear c5
   obtain ⟨x3_1, x12_1, rfl, HA, HK1, HO_3, HO_10, HB⟩ := hrel
   cases gk with
   | zero => exact absurd HA.out (by simp [impl_FreeNames.l0])
   | succ k1 =>
    have H := HA.out
    clear HA
    simp only [impl_FreeNames.l0] at H
    by_cases c8 : x12_1 < (t506.length : Int)
    ·rw [if_pos c8] at H
     have c8b0 := decide_eq_true c8
     clear c8
     replace H := iz H
     obtain ⟨c9, H⟩ := H
     have c9b0 := decide_eq_true c9
     clear c9
     replace H := iz H
     obtain ⟨c10, H⟩ := H
     have c10b0 := decide_eq_true c10
     clear c10
     replace H := iz H
     obtain ⟨c11, H⟩ := H
     have c11b0 := decide_eq_true c11
     clear c11
     by_cases c12 : ((rd_T43 l0 x12_1).f0) = 1
     ·rw [if_pos c12] at H
      have c12b0 : (((rd_T43 l0 x12_1).f0) == 1) = true := beq_iff_eq.mpr c12
      have c12b1 : (((rd_T43 l0 x12_1).f0) != 1) = false := bne_eq_false_iff_eq.mpr c12
      clear c12
      by_cases c13 : ((rd_T55 t506 x12_1).f0) < 0
      ·rw [if_pos c13] at H
       have c13b0 := decide_eq_true c13
       clear c13
       replace H := iz H
       obtain ⟨c14, H⟩ := H
       have LMc14 := Aside0.mk c14
       clear c14
       obtain ⟨y513, hy513⟩ : ∃ y_ : List ByteArray, y_ = (x3_1 ++ [(rd_T43 l0 x12_1).f5]) := ⟨_, rfl⟩
       replace H : (impl_FreeNames.l0 k1 l0 y513 t506 (t506.length : Int) (wrap64 (x12_1 + 1))) = some r := yz hy513 H
       have Ny513 := Aside0.mk hy513
       clear hy513
       have H' := Aside0.mk H
       clear H
       have p509 : 0 <= (x12_1 : Int) := oz
       have q509 : x12_1 < (t506.length : Int) := oz
       obtain ⟨ad509, e509, hx509_0, hx509_1⟩ := at_T55 (Kd.R_reads' HO_10.out).2.2 x12_1 p509 q509
       cases e509
       replace p509 := eq_true p509
       replace q509 := eq_true q509
       go_wp2_with (first | ((with_reducible refine gate_dst (N := 5) rfl ?_); refine box_event ?hg (N := 5) ?hd (cs := #[.int .i64 0, .int .i64 0]) (t := 55) ?hr ?_; (case hd => rfl); (case hg => rfl); (case hr => exact vz); intro gb510 hg w15 hbox hb; replace HO_3 := qz HO_3 hb; replace HO_10 := Aside0.mk (Kd.R_below (Kd.R_elderB (rz HO_10.out) gb510 (Nat.le_of_eq hg.symm)) hb); have BK510 := Aside0.mk (hbox); have GW510 := Aside0.mk ((by rw [hg]; exact (below_size (bz0 HB.out)) : w.heap.size <= gb510)); have GE510 := Aside0.mk ((by rw [hg]; exact (below_size (bz0 HB.out)) : w.heap.size <= gb510)); replace HB := Aside0.mk (below_step (bz0 HB.out) hb); clear hb hbox hg; obtain ⟨hcz16_0, hcz16_1⟩ := cz2 BK510.out; obtain ⟨hfz16_0, hfz16_1⟩ := fz2 BK510.out; have p511 : 0 <= (x12_1 : Int) := oz; have q511 : x12_1 < (l0.length : Int) := oz; obtain ⟨ad511, e511, hx511_0, hx511_1, hx511_2, hx511_3, hx511_4, hx511_5, hx511_6⟩ := at_T43 HR0.out x12_1 p511 q511; cases e511; have hn511_0 : ad511.block ≠ gb510 := Nat.ne_of_lt (Nat.lt_of_lt_of_le (by have := World.block_lt_of_cell? _ _ hx511_0; first | rwa [add_block] at this | exact this) GW510.out); have hn511_1 : ad511.block ≠ gb510 := Nat.ne_of_lt (Nat.lt_of_lt_of_le (by have := World.block_lt_of_cell? _ _ hx511_0; first | rwa [add_block] at this | exact this) GW510.out); replace hx511_0 := hz HB.out hx511_0; replace hx511_1 := hz HB.out hx511_1; replace hx511_2 := hz HB.out hx511_2; replace hx511_3 := hz HB.out hx511_3; replace hx511_4 := hz HB.out hx511_4; replace hx511_5 := hz HB.out hx511_5; replace hx511_6 := hz HB.out hx511_6; replace hx511_0 := (cell_far (p := ⟨gb510, 0, none⟩) (nz hn511_0) (.int .i64 ((rd_T55 t506 x12_1).f0))).trans hx511_0; replace hx511_1 := (cell_far (p := ⟨gb510, 0, none⟩) (nz hn511_0) (.int .i64 ((rd_T55 t506 x12_1).f0))).trans hx511_1; replace hx511_2 := (cell_far (p := ⟨gb510, 0, none⟩) (nz hn511_0) (.int .i64 ((rd_T55 t506 x12_1).f0))).trans hx511_2; replace hx511_3 := (cell_far (p := ⟨gb510, 0, none⟩) (nz hn511_0) (.int .i64 ((rd_T55 t506 x12_1).f0))).trans hx511_3; replace hx511_4 := (cell_far (p := ⟨gb510, 0, none⟩) (nz hn511_0) (.int .i64 ((rd_T55 t506 x12_1).f0))).trans hx511_4; replace hx511_5 := (cell_far (p := ⟨gb510, 0, none⟩) (nz hn511_0) (.int .i64 ((rd_T55 t506 x12_1).f0))).trans hx511_5; replace hx511_6 := (cell_far (p := ⟨gb510, 0, none⟩) (nz hn511_0) (.int .i64 ((rd_T55 t506 x12_1).f0))).trans hx511_6; replace hx511_0 := (cell_far (p := ⟨gb510, 1, none⟩) (nz hn511_1) (.int .i64 ((rd_T55 t506 x12_1).f1))).trans hx511_0; replace hx511_1 := (cell_far (p := ⟨gb510, 1, none⟩) (nz hn511_1) (.int .i64 ((rd_T55 t506 x12_1).f1))).trans hx511_1; replace hx511_2 := (cell_far (p := ⟨gb510, 1, none⟩) (nz hn511_1) (.int .i64 ((rd_T55 t506 x12_1).f1))).trans hx511_2; replace hx511_3 := (cell_far (p := ⟨gb510, 1, none⟩) (nz hn511_1) (.int .i64 ((rd_T55 t506 x12_1).f1))).trans hx511_3; replace hx511_4 := (cell_far (p := ⟨gb510, 1, none⟩) (nz hn511_1) (.int .i64 ((rd_T55 t506 x12_1).f1))).trans hx511_4; replace hx511_5 := (cell_far (p := ⟨gb510, 1, none⟩) (nz hn511_1) (.int .i64 ((rd_T55 t506 x12_1).f1))).trans hx511_5; replace hx511_6 := (cell_far (p := ⟨gb510, 1, none⟩) (nz hn511_1) (.int .i64 ((rd_T55 t506 x12_1).f1))).trans hx511_6; clear hn511_0; clear hn511_1; replace p511 := eq_true p511; replace q511 := eq_true q511; have p512 : 0 <= (x12_1 : Int) := oz; have q512 : x12_1 < (l0.length : Int) := oz; obtain ⟨ad512, e512, hx512_0, hx512_1, hx512_2, hx512_3, hx512_4, hx512_5, hx512_6⟩ := at_T43 HR0.out x12_1 p512 q512; obtain rfl : ad511 = ad512 := (by injection e512); have hn512_0 : ad511.block ≠ gb510 := Nat.ne_of_lt (Nat.lt_of_lt_of_le (by have := World.block_lt_of_cell? _ _ hx512_0; first | rwa [add_block] at this | exact this) GW510.out); have hn512_1 : ad511.block ≠ gb510 := Nat.ne_of_lt (Nat.lt_of_lt_of_le (by have := World.block_lt_of_cell? _ _ hx512_0; first | rwa [add_block] at this | exact this) GW510.out); replace hx512_0 := hz HB.out hx512_0; replace hx512_1 := hz HB.out hx512_1; replace hx512_2 := hz HB.out hx512_2; replace hx512_3 := hz HB.out hx512_3; replace hx512_4 := hz HB.out hx512_4; replace hx512_5 := hz HB.out hx512_5; replace hx512_6 := hz HB.out hx512_6; replace hx512_0 := (cell_far (p := ⟨gb510, 0, none⟩) (nz hn512_0) (.int .i64 ((rd_T55 t506 x12_1).f0))).trans hx512_0; replace hx512_1 := (cell_far (p := ⟨gb510, 0, none⟩) (nz hn512_0) (.int .i64 ((rd_T55 t506 x12_1).f0))).trans hx512_1; replace hx512_2 := (cell_far (p := ⟨gb510, 0, none⟩) (nz hn512_0) (.int .i64 ((rd_T55 t506 x12_1).f0))).trans hx512_2; replace hx512_3 := (cell_far (p := ⟨gb510, 0, none⟩) (nz hn512_0) (.int .i64 ((rd_T55 t506 x12_1).f0))).trans hx512_3; replace hx512_4 := (cell_far (p := ⟨gb510, 0, none⟩) (nz hn512_0) (.int .i64 ((rd_T55 t506 x12_1).f0))).trans hx512_4; replace hx512_5 := (cell_far (p := ⟨gb510, 0, none⟩) (nz hn512_0) (.int .i64 ((rd_T55 t506 x12_1).f0))).trans hx512_5; replace hx512_6 := (cell_far (p := ⟨gb510, 0, none⟩) (nz hn512_0) (.int .i64 ((rd_T55 t506 x12_1).f0))).trans hx512_6; replace hx512_0 := (cell_far (p := ⟨gb510, 1, none⟩) (nz hn512_1) (.int .i64 ((rd_T55 t506 x12_1).f1))).trans hx512_0; replace hx512_1 := (cell_far (p := ⟨gb510, 1, none⟩) (nz hn512_1) (.int .i64 ((rd_T55 t506 x12_1).f1))).trans hx512_1; replace hx512_2 := (cell_far (p := ⟨gb510, 1, none⟩) (nz hn512_1) (.int .i64 ((rd_T55 t506 x12_1).f1))).trans hx512_2; replace hx512_3 := (cell_far (p := ⟨gb510, 1, none⟩) (nz hn512_1) (.int .i64 ((rd_T55 t506 x12_1).f1))).trans hx512_3; replace hx512_4 := (cell_far (p := ⟨gb510, 1, none⟩) (nz hn512_1) (.int .i64 ((rd_T55 t506 x12_1).f1))).trans hx512_4; replace hx512_5 := (cell_far (p := ⟨gb510, 1, none⟩) (nz hn512_1) (.int .i64 ((rd_T55 t506 x12_1).f1))).trans hx512_5; replace hx512_6 := (cell_far (p := ⟨gb510, 1, none⟩) (nz hn512_1) (.int .i64 ((rd_T55 t506 x12_1).f1))).trans hx512_6; clear hn512_0; clear hn512_1; replace p512 := eq_true p512; replace q512 := eq_true q512) | ((with_reducible refine gate_builtin (b := .append) (xs := #[.tmp 28, .tmp 34]) rfl ?_); at_builtin; refine Kd.R_append Kd.string (w0 := w) w.heap.size rfl (.tmp 28) (.tmp 34) 32 9 (.string ⟨#[]⟩) 16 rfl Tryd.underlying32 info9 rfl (by decide) (by omega) u3 x3_1 ((rd_T43 l0 x12_1).f5) [.string ((rd_T43 l0 x12_1).f5)] (fun _ => True) (fun _ => False) rfl (by first | (go_simp; done) | (go_simp; rfl)) ?aP (fun _ hk => hk.elim) ?aF ?aO ?aB ?aS ?aL ?_; (case aP => exact rfl); (case aB => exact (bz1 HB.out GE510.out)); (case aF => exact (fun _ _ => trivial)); (case aO => exact (by refine rq ?_; first | (with_reducible exact Kd.R_mono (Kd.R_far (p := ⟨gb510, 1, none⟩) (Kd.R_far (p := ⟨gb510, 0, none⟩) (Kd.R_types HO_3.out BK510.out (by decide)) (fun _ hk => hk.2) (.int .i64 ((rd_T55 t506 x12_1).f0))) (fun _ hk => hk.2) (.int .i64 ((rd_T55 t506 x12_1).f1))) (fun _ hk => trivial)) | (with_reducible exact Kd.R_mono (Kd.R_far (p := ⟨gb510, 1, none⟩) (Kd.R_drewN (Kd.R_far (p := ⟨gb510, 0, none⟩) (Kd.R_types HO_3.out BK510.out (by decide)) (fun _ hk => hk.2) (.int .i64 ((rd_T55 t506 x12_1).f0))) _) (fun _ hk => hk.2) (.int .i64 ((rd_T55 t506 x12_1).f1))) (fun _ hk => trivial)) | exact Kd.R_mono (Kd.R_far (p := ⟨gb510, 1, none⟩) (Kd.R_drewN (Kd.R_far (p := ⟨gb510, 0, none⟩) (Kd.R_types HO_3.out BK510.out (by decide)) (fun _ hk => hk.2) (.int .i64 ((rd_T55 t506 x12_1).f0))) _) (fun _ hk => hk.2) (.int .i64 ((rd_T55 t506 x12_1).f1))) (fun _ hk => trivial))); (case aS => exact (below_size (bz1 HB.out GE510.out))); (case aL => have := LMc14.out; omega); intro v514 w17 ho hb hg hat; rw [<- Ny513.out] at ho; have n0_ := Aside0.mk (Kd.R_over' (by refine rq ?_; exact (Kd.R_mono (Kd.R_far (p := ⟨gb510, 1, none⟩) (Kd.R_far (p := ⟨gb510, 0, none⟩) (Kd.R_mono HO_10.out (fun k_ hk => (⟨hk, hk.2⟩ : _ /\ k_ ≠ gb510))) (fun _ hk => hk.2) (.int .i64 ((rd_T55 t506 x12_1).f0))) (fun _ hk => hk.2) (.int .i64 ((rd_T55 t506 x12_1).f1))) (fun _ h_ => h_.1))) (Kd.R_typed (by refine rq ?_; exact (Kd.R_mono (Kd.R_far (p := ⟨gb510, 1, none⟩) (Kd.R_far (p := ⟨gb510, 0, none⟩) (Kd.R_types HO_3.out BK510.out (by decide)) (fun _ hk => hk.2) (.int .i64 ((rd_T55 t506 x12_1).f0))) (fun _ hk => hk.2) (.int .i64 ((rd_T55 t506 x12_1).f1))) (fun _ h_ => h_.1)))) (by decide) hg); have n1_ := Aside0.mk (blk_grown (g := gb510) (o := .cells #[.int .i64 ((rd_T55 t506 x12_1).f0), .int .i64 ((rd_T55 t506 x12_1).f1)] 55 (0, 0)) (by refine kq ?_; refine blk_put (cs := #[.int .i64 ((rd_T55 t506 x12_1).f0), .int .i64 0]) ?_ 1 _ rfl; refine kq ?_; refine blk_put (cs := #[.int .i64 0, .int .i64 0]) ?_ 0 _ rfl; refine kq ?_; exact BK510.out) hg (Kd.R_ne HO_3.out BK510.out (by decide))); have n2_ := Aside0.mk (hb); have n3_ := Aside0.mk (ho); clear HO_10; clear BK510; clear HB; clear HO_3; have HO_10 := n0_; have BK510 := n1_; have HB := n2_; have HO515 := n3_; clear n0_ n1_ n2_ n3_; clear ho hb hg hat))
       go_roundg k1
       case measure => have := HK1.out; omega
       case rel => exact ⟨(y513), (wrap64 (x12_1 + 1)), ez, H', ⟨by have := HK1.out; omega⟩, ⟨by refine rq ?_; exact HO515.out⟩, ⟨by refine rq ?_; exact Kd.R_mono HO_10.out (fun _ hk => trivial)⟩, ⟨(bz1 HB.out GE510.out)⟩⟩
      ·rw [if_neg c13] at H
       have c13b0 := decide_eq_false c13
       clear c13
       have H' := Aside0.mk H
       clear H
       have p509 : 0 <= (x12_1 : Int) := oz
       have q509 : x12_1 < (t506.length : Int) := oz
       obtain ⟨ad509, e509, hx509_0, hx509_1⟩ := at_T55 (Kd.R_reads' HO_10.out).2.2 x12_1 p509 q509
       cases e509
       replace p509 := eq_true p509
       replace q509 := eq_true q509
       go_wp2_with (first | ((with_reducible refine gate_dst (N := 5) rfl ?_); refine box_event ?hg (N := 5) ?hd (cs := #[.int .i64 0, .int .i64 0]) (t := 55) ?hr ?_; (case hd => rfl); (case hg => rfl); (case hr => exact vz); intro gb510 hg w18 hbox hb; replace HO_3 := qz HO_3 hb; replace HO_10 := Aside0.mk (Kd.R_below (Kd.R_elderB (rz HO_10.out) gb510 (Nat.le_of_eq hg.symm)) hb); have BK510 := Aside0.mk (hbox); have GW510 := Aside0.mk ((by rw [hg]; exact (below_size (bz0 HB.out)) : w.heap.size <= gb510)); have GE510 := Aside0.mk ((by rw [hg]; exact (below_size (bz0 HB.out)) : w.heap.size <= gb510)); replace HB := Aside0.mk (below_step (bz0 HB.out) hb); clear hb hbox hg; obtain ⟨hcz19_0, hcz19_1⟩ := cz2 BK510.out; obtain ⟨hfz19_0, hfz19_1⟩ := fz2 BK510.out; have p511 : 0 <= (x12_1 : Int) := oz; have q511 : x12_1 < (l0.length : Int) := oz; obtain ⟨ad511, e511, hx511_0, hx511_1, hx511_2, hx511_3, hx511_4, hx511_5, hx511_6⟩ := at_T43 HR0.out x12_1 p511 q511; cases e511; have hn511_0 : ad511.block ≠ gb510 := Nat.ne_of_lt (Nat.lt_of_lt_of_le (by have := World.block_lt_of_cell? _ _ hx511_0; first | rwa [add_block] at this | exact this) GW510.out); have hn511_1 : ad511.block ≠ gb510 := Nat.ne_of_lt (Nat.lt_of_lt_of_le (by have := World.block_lt_of_cell? _ _ hx511_0; first | rwa [add_block] at this | exact this) GW510.out); replace hx511_0 := hz HB.out hx511_0; replace hx511_1 := hz HB.out hx511_1; replace hx511_2 := hz HB.out hx511_2; replace hx511_3 := hz HB.out hx511_3; replace hx511_4 := hz HB.out hx511_4; replace hx511_5 := hz HB.out hx511_5; replace hx511_6 := hz HB.out hx511_6; replace hx511_0 := (cell_far (p := ⟨gb510, 0, none⟩) (nz hn511_0) (.int .i64 ((rd_T55 t506 x12_1).f0))).trans hx511_0; replace hx511_1 := (cell_far (p := ⟨gb510, 0, none⟩) (nz hn511_0) (.int .i64 ((rd_T55 t506 x12_1).f0))).trans hx511_1; replace hx511_2 := (cell_far (p := ⟨gb510, 0, none⟩) (nz hn511_0) (.int .i64 ((rd_T55 t506 x12_1).f0))).trans hx511_2; replace hx511_3 := (cell_far (p := ⟨gb510, 0, none⟩) (nz hn511_0) (.int .i64 ((rd_T55 t506 x12_1).f0))).trans hx511_3; replace hx511_4 := (cell_far (p := ⟨gb510, 0, none⟩) (nz hn511_0) (.int .i64 ((rd_T55 t506 x12_1).f0))).trans hx511_4; replace hx511_5 := (cell_far (p := ⟨gb510, 0, none⟩) (nz hn511_0) (.int .i64 ((rd_T55 t506 x12_1).f0))).trans hx511_5; replace hx511_6 := (cell_far (p := ⟨gb510, 0, none⟩) (nz hn511_0) (.int .i64 ((rd_T55 t506 x12_1).f0))).trans hx511_6; replace hx511_0 := (cell_far (p := ⟨gb510, 1, none⟩) (nz hn511_1) (.int .i64 ((rd_T55 t506 x12_1).f1))).trans hx511_0; replace hx511_1 := (cell_far (p := ⟨gb510, 1, none⟩) (nz hn511_1) (.int .i64 ((rd_T55 t506 x12_1).f1))).trans hx511_1; replace hx511_2 := (cell_far (p := ⟨gb510, 1, none⟩) (nz hn511_1) (.int .i64 ((rd_T55 t506 x12_1).f1))).trans hx511_2; replace hx511_3 := (cell_far (p := ⟨gb510, 1, none⟩) (nz hn511_1) (.int .i64 ((rd_T55 t506 x12_1).f1))).trans hx511_3; replace hx511_4 := (cell_far (p := ⟨gb510, 1, none⟩) (nz hn511_1) (.int .i64 ((rd_T55 t506 x12_1).f1))).trans hx511_4; replace hx511_5 := (cell_far (p := ⟨gb510, 1, none⟩) (nz hn511_1) (.int .i64 ((rd_T55 t506 x12_1).f1))).trans hx511_5; replace hx511_6 := (cell_far (p := ⟨gb510, 1, none⟩) (nz hn511_1) (.int .i64 ((rd_T55 t506 x12_1).f1))).trans hx511_6; clear hn511_0; clear hn511_1; replace p511 := eq_true p511; replace q511 := eq_true q511))
       go_roundg k1
       case measure => have := HK1.out; omega
       case rel => exact ⟨(x3_1), (wrap64 (x12_1 + 1)), ez, H', ⟨by have := HK1.out; omega⟩, ⟨by refine rq ?_; first | (with_reducible exact Kd.R_mono (Kd.R_far (p := ⟨gb510, 1, none⟩) (Kd.R_far (p := ⟨gb510, 0, none⟩) (Kd.R_types HO_3.out BK510.out (by decide)) (fun _ hk => hk.2) (.int .i64 ((rd_T55 t506 x12_1).f0))) (fun _ hk => hk.2) (.int .i64 ((rd_T55 t506 x12_1).f1))) (fun _ hk => trivial)) | (with_reducible exact Kd.R_mono (Kd.R_far (p := ⟨gb510, 1, none⟩) (Kd.R_drewN (Kd.R_far (p := ⟨gb510, 0, none⟩) (Kd.R_types HO_3.out BK510.out (by decide)) (fun _ hk => hk.2) (.int .i64 ((rd_T55 t506 x12_1).f0))) _) (fun _ hk => hk.2) (.int .i64 ((rd_T55 t506 x12_1).f1))) (fun _ hk => trivial)) | exact Kd.R_mono (Kd.R_far (p := ⟨gb510, 1, none⟩) (Kd.R_drewN (Kd.R_far (p := ⟨gb510, 0, none⟩) (Kd.R_types HO_3.out BK510.out (by decide)) (fun _ hk => hk.2) (.int .i64 ((rd_T55 t506 x12_1).f0))) _) (fun _ hk => hk.2) (.int .i64 ((rd_T55 t506 x12_1).f1))) (fun _ hk => trivial)⟩, ⟨by refine rq ?_; first | (with_reducible exact Kd.R_mono (Kd.R_far (p := ⟨gb510, 1, none⟩) (Kd.R_far (p := ⟨gb510, 0, none⟩) (Kd.R_mono HO_10.out (fun k_ hk => (⟨hk, hk.2⟩ : _ /\ k_ ≠ gb510))) (fun _ hk => hk.2) (.int .i64 ((rd_T55 t506 x12_1).f0))) (fun _ hk => hk.2) (.int .i64 ((rd_T55 t506 x12_1).f1))) (fun _ hk => trivial)) | (with_reducible exact Kd.R_mono (Kd.R_far (p := ⟨gb510, 1, none⟩) (Kd.R_drewN (Kd.R_far (p := ⟨gb510, 0, none⟩) (Kd.R_mono HO_10.out (fun k_ hk => (⟨hk, hk.2⟩ : _ /\ k_ ≠ gb510))) (fun _ hk => hk.2) (.int .i64 ((rd_T55 t506 x12_1).f0))) _) (fun _ hk => hk.2) (.int .i64 ((rd_T55 t506 x12_1).f1))) (fun _ hk => trivial)) | exact Kd.R_mono (Kd.R_far (p := ⟨gb510, 1, none⟩) (Kd.R_drewN (Kd.R_far (p := ⟨gb510, 0, none⟩) (Kd.R_mono HO_10.out (fun k_ hk => (⟨hk, hk.2⟩ : _ /\ k_ ≠ gb510))) (fun _ hk => hk.2) (.int .i64 ((rd_T55 t506 x12_1).f0))) _) (fun _ hk => hk.2) (.int .i64 ((rd_T55 t506 x12_1).f1))) (fun _ hk => trivial)⟩, ⟨(bz1 HB.out GE510.out)⟩⟩
     ·rw [if_neg c12] at H
      have c12b0 : (((rd_T43 l0 x12_1).f0) == 1) = false := beq_eq_false_iff_ne.mpr c12
      have c12b1 : (((rd_T43 l0 x12_1).f0) != 1) = true := bne_iff_ne.mpr c12
      have H' := Aside0.mk H
      clear H
      have p509 : 0 <= (x12_1 : Int) := oz
      have q509 : x12_1 < (t506.length : Int) := oz
      obtain ⟨ad509, e509, hx509_0, hx509_1⟩ := at_T55 (Kd.R_reads' HO_10.out).2.2 x12_1 p509 q509
      cases e509
      replace p509 := eq_true p509
      replace q509 := eq_true q509
      go_wp2_with (first | ((with_reducible refine gate_dst (N := 5) rfl ?_); refine box_event ?hg (N := 5) ?hd (cs := #[.int .i64 0, .int .i64 0]) (t := 55) ?hr ?_; (case hd => rfl); (case hg => rfl); (case hr => exact vz); intro gb510 hg w20 hbox hb; replace HO_3 := qz HO_3 hb; replace HO_10 := Aside0.mk (Kd.R_below (Kd.R_elderB (rz HO_10.out) gb510 (Nat.le_of_eq hg.symm)) hb); have BK510 := Aside0.mk (hbox); have GW510 := Aside0.mk ((by rw [hg]; exact (below_size (bz0 HB.out)) : w.heap.size <= gb510)); have GE510 := Aside0.mk ((by rw [hg]; exact (below_size (bz0 HB.out)) : w.heap.size <= gb510)); replace HB := Aside0.mk (below_step (bz0 HB.out) hb); clear hb hbox hg; obtain ⟨hcz21_0, hcz21_1⟩ := cz2 BK510.out; obtain ⟨hfz21_0, hfz21_1⟩ := fz2 BK510.out; have p511 : 0 <= (x12_1 : Int) := oz; have q511 : x12_1 < (l0.length : Int) := oz; obtain ⟨ad511, e511, hx511_0, hx511_1, hx511_2, hx511_3, hx511_4, hx511_5, hx511_6⟩ := at_T43 HR0.out x12_1 p511 q511; cases e511; have hn511_0 : ad511.block ≠ gb510 := Nat.ne_of_lt (Nat.lt_of_lt_of_le (by have := World.block_lt_of_cell? _ _ hx511_0; first | rwa [add_block] at this | exact this) GW510.out); have hn511_1 : ad511.block ≠ gb510 := Nat.ne_of_lt (Nat.lt_of_lt_of_le (by have := World.block_lt_of_cell? _ _ hx511_0; first | rwa [add_block] at this | exact this) GW510.out); replace hx511_0 := hz HB.out hx511_0; replace hx511_1 := hz HB.out hx511_1; replace hx511_2 := hz HB.out hx511_2; replace hx511_3 := hz HB.out hx511_3; replace hx511_4 := hz HB.out hx511_4; replace hx511_5 := hz HB.out hx511_5; replace hx511_6 := hz HB.out hx511_6; replace hx511_0 := (cell_far (p := ⟨gb510, 0, none⟩) (nz hn511_0) (.int .i64 ((rd_T55 t506 x12_1).f0))).trans hx511_0; replace hx511_1 := (cell_far (p := ⟨gb510, 0, none⟩) (nz hn511_0) (.int .i64 ((rd_T55 t506 x12_1).f0))).trans hx511_1; replace hx511_2 := (cell_far (p := ⟨gb510, 0, none⟩) (nz hn511_0) (.int .i64 ((rd_T55 t506 x12_1).f0))).trans hx511_2; replace hx511_3 := (cell_far (p := ⟨gb510, 0, none⟩) (nz hn511_0) (.int .i64 ((rd_T55 t506 x12_1).f0))).trans hx511_3; replace hx511_4 := (cell_far (p := ⟨gb510, 0, none⟩) (nz hn511_0) (.int .i64 ((rd_T55 t506 x12_1).f0))).trans hx511_4; replace hx511_5 := (cell_far (p := ⟨gb510, 0, none⟩) (nz hn511_0) (.int .i64 ((rd_T55 t506 x12_1).f0))).trans hx511_5; replace hx511_6 := (cell_far (p := ⟨gb510, 0, none⟩) (nz hn511_0) (.int .i64 ((rd_T55 t506 x12_1).f0))).trans hx511_6; replace hx511_0 := (cell_far (p := ⟨gb510, 1, none⟩) (nz hn511_1) (.int .i64 ((rd_T55 t506 x12_1).f1))).trans hx511_0; replace hx511_1 := (cell_far (p := ⟨gb510, 1, none⟩) (nz hn511_1) (.int .i64 ((rd_T55 t506 x12_1).f1))).trans hx511_1; replace hx511_2 := (cell_far (p := ⟨gb510, 1, none⟩) (nz hn511_1) (.int .i64 ((rd_T55 t506 x12_1).f1))).trans hx511_2; replace hx511_3 := (cell_far (p := ⟨gb510, 1, none⟩) (nz hn511_1) (.int .i64 ((rd_T55 t506 x12_1).f1))).trans hx511_3; replace hx511_4 := (cell_far (p := ⟨gb510, 1, none⟩) (nz hn511_1) (.int .i64 ((rd_T55 t506 x12_1).f1))).trans hx511_4; replace hx511_5 := (cell_far (p := ⟨gb510, 1, none⟩) (nz hn511_1) (.int .i64 ((rd_T55 t506 x12_1).f1))).trans hx511_5; replace hx511_6 := (cell_far (p := ⟨gb510, 1, none⟩) (nz hn511_1) (.int .i64 ((rd_T55 t506 x12_1).f1))).trans hx511_6; clear hn511_0; clear hn511_1; replace p511 := eq_true p511; replace q511 := eq_true q511))
      go_roundg k1
      case measure => have := HK1.out; omega
      case rel => exact ⟨(x3_1), (wrap64 (x12_1 + 1)), ez, H', ⟨by have := HK1.out; omega⟩, ⟨by refine rq ?_; first | (with_reducible exact Kd.R_mono (Kd.R_far (p := ⟨gb510, 1, none⟩) (Kd.R_far (p := ⟨gb510, 0, none⟩) (Kd.R_types HO_3.out BK510.out (by decide)) (fun _ hk => hk.2) (.int .i64 ((rd_T55 t506 x12_1).f0))) (fun _ hk => hk.2) (.int .i64 ((rd_T55 t506 x12_1).f1))) (fun _ hk => trivial)) | (with_reducible exact Kd.R_mono (Kd.R_far (p := ⟨gb510, 1, none⟩) (Kd.R_drewN (Kd.R_far (p := ⟨gb510, 0, none⟩) (Kd.R_types HO_3.out BK510.out (by decide)) (fun _ hk => hk.2) (.int .i64 ((rd_T55 t506 x12_1).f0))) _) (fun _ hk => hk.2) (.int .i64 ((rd_T55 t506 x12_1).f1))) (fun _ hk => trivial)) | exact Kd.R_mono (Kd.R_far (p := ⟨gb510, 1, none⟩) (Kd.R_drewN (Kd.R_far (p := ⟨gb510, 0, none⟩) (Kd.R_types HO_3.out BK510.out (by decide)) (fun _ hk => hk.2) (.int .i64 ((rd_T55 t506 x12_1).f0))) _) (fun _ hk => hk.2) (.int .i64 ((rd_T55 t506 x12_1).f1))) (fun _ hk => trivial)⟩, ⟨by refine rq ?_; first | (with_reducible exact Kd.R_mono (Kd.R_far (p := ⟨gb510, 1, none⟩) (Kd.R_far (p := ⟨gb510, 0, none⟩) (Kd.R_mono HO_10.out (fun k_ hk => (⟨hk, hk.2⟩ : _ /\ k_ ≠ gb510))) (fun _ hk => hk.2) (.int .i64 ((rd_T55 t506 x12_1).f0))) (fun _ hk => hk.2) (.int .i64 ((rd_T55 t506 x12_1).f1))) (fun _ hk => trivial)) | (with_reducible exact Kd.R_mono (Kd.R_far (p := ⟨gb510, 1, none⟩) (Kd.R_drewN (Kd.R_far (p := ⟨gb510, 0, none⟩) (Kd.R_mono HO_10.out (fun k_ hk => (⟨hk, hk.2⟩ : _ /\ k_ ≠ gb510))) (fun _ hk => hk.2) (.int .i64 ((rd_T55 t506 x12_1).f0))) _) (fun _ hk => hk.2) (.int .i64 ((rd_T55 t506 x12_1).f1))) (fun _ hk => trivial)) | exact Kd.R_mono (Kd.R_far (p := ⟨gb510, 1, none⟩) (Kd.R_drewN (Kd.R_far (p := ⟨gb510, 0, none⟩) (Kd.R_mono HO_10.out (fun k_ hk => (⟨hk, hk.2⟩ : _ /\ k_ ≠ gb510))) (fun _ hk => hk.2) (.int .i64 ((rd_T55 t506 x12_1).f0))) _) (fun _ hk => hk.2) (.int .i64 ((rd_T55 t506 x12_1).f1))) (fun _ hk => trivial)⟩, ⟨(bz1 HB.out GE510.out)⟩⟩
    ·rw [if_neg c8] at H
     have c8b0 := decide_eq_false c8
     clear c8
     replace H := bi H
     obtain ⟨⟨t516, t519⟩, A220, H⟩ := H
     try dsimp only at H
     have A22 := Aside0.mk A220
     clear A220
     obtain rfl := Option.some.inj H
     obtain ⟨Ao23, co23, eo23⟩ := Kd.R_slice HO_3.out
     subst eo23
     go_wp2_with (first | ((with_reducible refine gate_callee (f := 47) rfl ?_); refine goesL_ (some 38) rfl rfl Tryd.func47 (by kernel_rfl) rfl #[.slice Ao23 x3_1.length co23] rfl lz ?_; (with_reducible refine (impl_sorted.calls k1 (fun k_ => some k_ = (.slice Ao23 x3_1.length co23 : Value).ownBlock) (.slice Ao23 x3_1.length co23) x3_1 t516 t519 w _ ?side1 ?side2 A22.out).mono ?_); (case side1 => repeat (first | (with_reducible first | exact HB.out | apply below_alloc | apply pw_below_drewN | apply below_drew1) | exact HB.out)); (case side2 => exact Kd.R_tight rfl HO_3.out); rintro e w24 ⟨v517, rfl, ho0, hy0, hb, hkp⟩; refine ⟨_, rfl, ?_⟩; replace HO_10 := Aside0.mk (Kd.R_mono (ok' := fun k_ => True) (Kd.R_keptB ((Kd.R_apart' HO_10.out (Kd.R_typed HO_3.out) (by decide))) hkp (fun k_ hk_ hs_ => (hk_.2) hs_)) (fun k_ hk_ => trivial)); replace HO_3 := Aside0.mk (Kd.R_reok rfl hy0 (fun k_ e_ => HO_3.out.1 k_ e_)); have HO518 := Aside0.mk (Kd.R_mono (ok' := fun k_ => some k_ ≠ (.slice Ao23 x3_1.length co23 : Value).ownBlock) ho0 (fun k_ hk_ => hk_.2)); replace HB := Aside0.mk (hb); (try clear hb); (try clear hkp); (try clear ho0); (try clear hy0)))
     go_ret
     exact ⟨_, gz, by refine rq ?_; exact Kd.R_mono HO518.out (fun _ hk => trivial), (bz0 HB.out)⟩
 ·replace c3 := Bool.eq_false_iff.mpr c3
  subst c3
  have H1 := hq H
  clear H
  have H := H1
  clear H1
  obtain rfl := Option.some.inj H
  go_enter Tryd.func26, Tryd.ntmps26
  go_wp2_with (first | ((with_reducible refine gate_callee (f := 36) rfl ?_); refine goesL_ (some 7) rfl rfl Tryd.func36 (by kernel_rfl) rfl #[.slice A0 l0.length c0] rfl lz ?_; (with_reducible refine (impl_NodesOk.calls k _ _ l0 false _ ?side1 ?side2 A2.out).mono ?_); (case side1 => repeat (first | exact HR0.out | (with_reducible refine Kd.C_alloc ?_ _) | (with_reducible refine Kd.C_drewN ?_ _) | (with_reducible refine Kd.C_drew ?_))); (case side2 => exact HC0.out); rintro e w25 ⟨rfl, hb⟩; refine ⟨_, rfl, ?_⟩; replace HB := Aside0.mk (below_step (bz0 HB.out) hb); (try clear hb); (try clear hi)))
  go_ret
  exact ⟨_, gz, by first | exact Kd.R_nil _ _ _ _ _ | exact Kd.N_nil _ _ _ _ _ | exact Kd.V_nil _ _ _ _ _ | exact Kd.Q_nil _ _ _ _ _ | exact Kd.S_nil _ _ _ _ _, (bz0 HB.out)⟩
def impl_copyNodes.f (l0 : List (S43)) : Option ((List (S43))) := if ([] : List (S43)).length + l0.length < 1954687338268 then (some (([] : List (S43)) ++ l0)) else (none)
set_option maxHeartbeats 8000000 in
set_option maxRecDepth 100000 in
theorem impl_copyNodes.calls (A0 : Option Addr) (c0 : Nat) (l0 : List (S43)) (r : List (S43)) (w : World) (hr0 : Kd.C k43 w A0 l0.length l0) (hc0 : l0.length <= c0) (h : impl_copyNodes.f l0 = some r) :
  Calls Tryd.prog 58 #[.slice A0 l0.length c0] w fun e w' => ∃ v0_ : Value, e = .returned (v0_) /\ Kd.R k43 43 w' w.heap.size (fun _ => True) v0_ r /\ Below w.heap.size w w' := by
 have HR0 := Aside0.mk hr0
 have HC0 := Aside0.mk hc0
 clear hr0 hc0
 have HB := Aside0.mk (Below.refl w.heap.size w)
 have H : (if ([] : List (S43)).length + l0.length < 1954687338268 then (some (([] : List (S43)) ++ l0)) else (none)) = some r := h
 clear h
 replace H := iz H
 obtain ⟨c2, H⟩ := H
 have LMc2 := Aside0.mk c2
 clear c2
 obtain ⟨y520, hy520⟩ : ∃ y_ : List (S43), y_ = (([] : List (S43)) ++ l0) := ⟨_, rfl⟩
 replace H : (some y520) = some r := yz hy520 H
 have Ny520 := Aside0.mk hy520
 clear hy520
 obtain rfl := Option.some.inj H
 go_enter Tryd.func58, Tryd.ntmps58
 go_wp2_with (first | ((with_reducible refine gate_builtin (b := .append) (xs := #[.const (.slice none 0 0), .tmp 3]) rfl ?_); at_builtin; refine Kd.R_append_rows k43 (w0 := w) w.heap.size rfl (.const (.slice none 0 0)) (.tmp 3) 25 43 (.agg #[(.int .i64 0), (.int .i64 0), (.int .i64 0), (.int .i64 0), (.int .i64 0), (.string ⟨#[]⟩), (.string ⟨#[]⟩)]) 72 rfl Tryd.underlying25 info43 rfl (by decide) (by omega) (.slice none 0 0) ([] : List (S43)) l0 _ _ _ (fun _ => True) (fun _ => False) rfl rfl ?aO ?aR (fun _ _ h => h) (fun _ h => h.elim) ?aF ?aB ?aS ?aL ?_; (case aR => repeat (first | exact HR0.out | (with_reducible refine Kd.C_alloc ?_ _) | (with_reducible refine Kd.C_drewN ?_ _) | (with_reducible refine Kd.C_drew ?_))); (case aB => exact (bz0 HB.out)); (case aF => exact (fun _ _ => trivial)); (case aO => exact ((Kd.R_nil _ _ _ _ (fun _ => True)))); (case aS => exact (below_size (bz0 HB.out))); (case aL => have := LMc2.out; omega); intro v521 w3 ho hb hg hat; rw [<- Ny520.out] at ho; replace HB := Aside0.mk (hb); have HO522 := Aside0.mk (ho); clear ho hb hg hat))
 go_ret
 exact ⟨_, gz, by refine rq ?_; exact HO522.out, (bz0 HB.out)⟩
end Go.Proofs.YtmilegjmiiccdaaDoor.PFnExactCanon
