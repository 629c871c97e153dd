/- PFnExactCanonx9, of the words and walks that the law FnExactCanon needs; made by this session's program out of printed texts. -/

import Derived.Test.YtmilegjmiiccdaaDoorVECanonPx0
import Derived.Test.YtmilegjmiiccdaaDoorVECanonPx3
import Derived.Test.YtmilegjmiiccdaaDoorVECanonPx6
namespace Go.Proofs.YtmilegjmiiccdaaDoor.PFnExactCanon
open Go.RowKit Go.Proofs.YtmilegjmiiccdaaDoorW.PrintWords Go.Proofs.YtmilegjmiiccdaaDoorW.PrintLast Go.Proofs.YtmilegjmiiccdaaDoorW.PrintMore
attribute [local go_sem] max2_int min2_int max_two min_two max_three min_three max_four min_four
set_option linter.unusedVariables false
set_option linter.unusedSimpArgs false
mutual
def spec_Sites.l0 : Nat -> List (S43) -> List (S55) -> Int -> Option ((List (S55)))
 | 0, _, _, _ => none
 | k + 1, x0, x3, x4 => if x4 < (x0.length : Int) then ((spec_NodesOk.f k x0).bind fun t305 => (spec_Sites.j1 k x0 x3 x4 t305)) else (spec_Sites.j1 k x0 x3 x4 false)
def spec_Sites.j1 : Nat -> List (S43) -> List (S55) -> Int -> Bool -> Option ((List (S55)))
 | 0, _, _, _, _ => none
 | k + 1, x0, x3, x4, x13 => if x13 = true then (if 0 <= x4 then (if x4 < (x0.length : Int) then (if ((rd_T43 x0 x4).f0) = 3 then (spec_Sites.j2 k x0 x3 x4 ((rd_T43 x0 x4).f0) (((rd_T43 x0 x4).f0) == 3)) else (if ((rd_T43 x0 x4).f0) = 5 then (spec_Sites.j2 k x0 x3 x4 ((rd_T43 x0 x4).f0) (((rd_T43 x0 x4).f0) == 5)) else (spec_Sites.j2 k x0 x3 x4 ((rd_T43 x0 x4).f0) (((rd_T43 x0 x4).f0) == 19)))) else (none)) else (none)) else (some x3)
def spec_Sites.j2 : Nat -> List (S43) -> List (S55) -> Int -> Int -> Bool -> Option ((List (S55)))
 | 0, _, _, _, _, _ => none
 | k + 1, x0, x3, x4, x20, x21 => if x21 = true then (if x3.length < 8796093022208 then (spec_Sites.l0 k x0 (x3 ++ [(⟨x4, 0⟩ : S55)]) (wrap64 (x4 + 1))) else (none)) else (if x20 = 6 then ((some (([(⟨x4, 0⟩ : S55), (⟨x4, 1⟩ : S55)] : List (S55)) : List (S55))).bind fun y310 => (if x3.length + y310.length < 8796093022208 then (spec_Sites.l0 k x0 (x3 ++ y310) (wrap64 (x4 + 1))) else (none))) else (if x20 = 14 then ((some (([(⟨x4, 0⟩ : S55), (⟨x4, 1⟩ : S55)] : List (S55)) : List (S55))).bind fun y316 => (if x3.length + y316.length < 8796093022208 then (spec_Sites.l0 k x0 (x3 ++ y316) (wrap64 (x4 + 1))) else (none))) else (spec_Sites.l0 k x0 x3 (wrap64 (x4 + 1)))))
end
def spec_Sites.f (k : Nat) (l0 : List (S43)) : Option ((List (S55))) := spec_Sites.l0 k l0 (([] : List (S55))) 0
theorem spec_Sites.mono_l : ∀ k, (∀ y0 y1 y2, LeO (spec_Sites.l0 k y0 y1 y2) (spec_Sites.l0 (k + 1) y0 y1 y2)) /\ (∀ y0 y1 y2 y3, LeO (spec_Sites.j1 k y0 y1 y2 y3) (spec_Sites.j1 (k + 1) y0 y1 y2 y3)) /\ (∀ y0 y1 y2 y3 y4, LeO (spec_Sites.j2 k y0 y1 y2 y3 y4) (spec_Sites.j2 (k + 1) y0 y1 y2 y3 y4))
 | 0 => ⟨fun _ _ _ r h => by simp [spec_Sites.l0] at h, fun _ _ _ _ r h => by simp [spec_Sites.j1] at h, fun _ _ _ _ _ r h => by simp [spec_Sites.j2] at h⟩
 | k + 1 => by
  obtain ⟨ih0, ih1, ih2⟩ := spec_Sites.mono_l k
  refine ⟨?_, ?_, ?_⟩
  ·intro y0 y1 y2
   unfold spec_Sites.l0
   with_reducible repeat' first | exact ih0 _ _ _ | exact ih1 _ _ _ _ | exact ih2 _ _ _ _ _ | exact spec_NodesOk.mono _ _ | exact lrz _ | exact lnz _ | refine liz ?_ ?_ | refine lbz ?_ fun _ => ?_
  ·intro y0 y1 y2 y3
   unfold spec_Sites.j1
   with_reducible repeat' first | exact ih0 _ _ _ | exact ih1 _ _ _ _ | exact ih2 _ _ _ _ _ | exact spec_NodesOk.mono _ _ | exact lrz _ | exact lnz _ | refine liz ?_ ?_ | refine lbz ?_ fun _ => ?_
  ·intro y0 y1 y2 y3 y4
   unfold spec_Sites.j2
   with_reducible repeat' first | exact ih0 _ _ _ | exact ih1 _ _ _ _ | exact ih2 _ _ _ _ _ | exact spec_NodesOk.mono _ _ | exact lrz _ | exact lnz _ | refine liz ?_ ?_ | refine lbz ?_ fun _ => ?_
theorem spec_Sites.mono : ∀ a0 k, LeO (spec_Sites.f k a0) (spec_Sites.f (k + 1) a0) := by
 intro a0 k
 obtain ⟨ih0, ih1, ih2⟩ := spec_Sites.mono_l k
 unfold spec_Sites.f
 with_reducible repeat' first | exact ih0 _ _ _ | exact ih1 _ _ _ _ | exact ih2 _ _ _ _ _ | exact spec_NodesOk.mono _ _ | exact lrz _ | exact lnz _ | refine liz ?_ ?_ | refine lbz ?_ fun _ => ?_
set_option maxHeartbeats 8000000 in
set_option maxRecDepth 100000 in
theorem spec_Sites.calls (k : Nat) (A0 : Option Addr) (c0 : Nat) (l0 : List (S43)) (r : List (S55)) (w : World) (hr0 : Kd.C k43 w A0 l0.length l0) (hc0 : l0.length <= c0) (h : spec_Sites.f k l0 = some r) :
  Calls Tryd.prog 53 #[.slice A0 l0.length c0] w fun e w' => ∃ v0_ : Value, e = .returned (v0_) /\ Kd.R k55 55 w' w.heap.size (fun _ => True) v0_ r /\ Below w.heap.size w w' := by
 have hu55 := Tryd.underlying55
 have HR0 := Aside0.mk hr0
 have HC0 := Aside0.mk hc0
 clear hr0 hc0
 have HB := Aside0.mk (Below.refl w.heap.size w)
 have H : (spec_Sites.l0 k l0 (([] : List (S55))) 0) = some r := h
 clear h
 obtain ⟨y302, hy302⟩ : ∃ y_ : List (S55), y_ = (([] : List (S55))) := ⟨_, rfl⟩
 replace H : (spec_Sites.l0 k l0 y302 0) = some r := yz hy302 H
 have Ny302 := Aside0.mk hy302
 clear hy302
 have H' := Aside0.mk H
 clear H
 go_enter Tryd.func53, Tryd.ntmps53
 go_wp2_with (first | ((with_reducible refine gate_dst (N := 5) rfl ?_); refine Kd.R_lit k55 _ 55 ?hg (N := 5) ?hd (xs := ([] : List (S55))) (inner := []) (ok := fun _ => True) (okp := fun _ => True) ?hr ?hp (fun _ hk => hk) trivial (Below.refl _ _) (Nat.le_refl _) (by simp) ?_; (case hd => rfl); (case hg => rfl); (case hr => exact vz); (case hp => exact (Reps.none _ _)); intro v303 w2 ho3 hb hg_ hnew_; clear hg_ hnew_; (first | rw [<- Ny302.out] at ho3 | (simp only [Int.reduceToNat] at ho3; rw [<- Ny302.out] at ho3)); have HO304 := Aside0.mk (Kd.R_lower ho3 (below_size (bz0 HB.out))); replace HB := Aside0.mk (below_step (bz0 HB.out) hb); clear hb ho3))
 (try simp only [Act.put, sz1, sz2, sz3])
 go_loopg [3, 4] k (fun kq v3 v4 w' => ∃ (x3_1 : List (S55)) (x4_1 : Int), v4 = .int .i64 x4_1 /\ Aside0 (spec_Sites.l0 kq l0 x3_1 x4_1 = some r) /\ Aside0 (kq <= k) /\ Aside0 (Kd.R k55 55 w' w.heap.size (fun _ => True) v3 x3_1) /\ Aside0 (Below w.heap.size w w'))
 case atStart => exact ⟨(y302), (0), ez, H', ⟨Nat.le_refl _⟩, ⟨by refine rq ?_; exact HO304.out⟩, ⟨(bz0 HB.out)⟩⟩
 case round =>
  clear H'
  try clear p2
  obtain ⟨x3_1, x4_1, rfl, HA, HK1, HO_3, HB⟩ := hrel
  cases gk with
  | zero => exact absurd HA.out (by simp [spec_Sites.l0])
  | succ k1 =>
   have H := HA.out
   clear HA
   simp only [spec_Sites.l0] at H
   have HC4 := Aside0.mk H
   clear H
   go_upto_region 3 with (fail)
   go_cut [13] (fun v13 wc => ∃ (kq : Nat) (x13_3 : Bool), v13 = .bool x13_3 /\ Aside0 (spec_Sites.j1 kq l0 x3_1 x4_1 x13_3 = some r) /\ Aside0 (kq <= k1) /\ Aside0 (Kd.R k55 55 wc w.heap.size (fun _ => True) u3 x3_1) /\ Aside0 (Below w.heap.size w wc))
   case first =>
    have H := HC4.out
    clear HC4
    by_cases c5 : x4_1 < (l0.length : Int)
    ·rw [if_pos c5] at H
     have c5b0 := decide_eq_true c5
     clear c5
     (first | rw [c5b0] | (simp only [i64_w, i32_w]; rw [c5b0]) | skip)
     replace H := bi H
     obtain ⟨t305, A60, H⟩ := H
     try dsimp only at H
     have A6 := Aside0.mk A60
     clear A60
     have H' := Aside0.mk H
     clear H
     go_wp2_with (first | (go_at_call 33; (with_reducible refine (spec_NodesOk.calls k1 _ _ l0 t305 _ ?side1 ?side2 A6.out).mono ?_); (case side1 => exact cz (Kd.C_below HR0.out HB.out)); (case side2 => exact HC0.out); rintro e w7 ⟨rfl, hb⟩; replace HO_3 := qz HO_3 hb; replace HB := Aside0.mk (below_step (bz0 HB.out) hb); (try clear hb); (try clear hi)))
     go_meet
     case rel => exact ⟨_, (t305), ez, H', ⟨by have := HK1.out; first | omega | exact Nat.le_refl _⟩, ⟨by refine rq ?_; exact HO_3.out⟩, ⟨(bz0 HB.out)⟩⟩
    ·rw [if_neg c5] at H
     have c5b0 := decide_eq_false c5
     clear c5
     (first | rw [c5b0] | (simp only [i64_w, i32_w]; rw [c5b0]) | skip)
     have H' := Aside0.mk H
     clear H
     go_wp2
     go_meet
     case rel => exact ⟨_, (false), ez, H', ⟨by have := HK1.out; first | omega | exact Nat.le_refl _⟩, ⟨by refine rq ?_; exact HO_3.out⟩, ⟨(bz0 HB.out)⟩⟩
   case rest =>
    clear HC4
    try clear p2
    try clear c5
    try clear c5b0
    try clear p2
    obtain ⟨kq, x13_3, rfl, HA, HJ3, HO_3, HB⟩ := hcut
    cases kq with
    | zero => exact absurd HA.out (by simp [spec_Sites.j1])
    | succ kj3 =>
     have H := HA.out
     clear HA
     simp only [spec_Sites.j1] at H
     by_cases c8 : x13_3 = true
     ·subst c8
      have H1 := hp H
      clear H
      have H := H1
      clear H1
      replace H := iz H
      obtain ⟨c9, H⟩ := H
      have c9b0 := decide_eq_true c9
      clear c9
      replace H := iz H
      obtain ⟨c10, H⟩ := H
      have c10b0 := decide_eq_true c10
      clear c10
      have HC11 := Aside0.mk H
      clear H
      have p306 : 0 <= (x4_1 : Int) := oz
      have q306 : x4_1 < (l0.length : Int) := oz
      obtain ⟨ad306, e306, hx306_0, hx306_1, hx306_2, hx306_3, hx306_4, hx306_5, hx306_6⟩ := at_T43 (Kd.C_below HR0.out HB.out) x4_1 p306 q306
      cases e306
      replace p306 := eq_true p306
      replace q306 := eq_true q306
      go_upto_if 21 with (fail)
      go_cut [21] (fun v21 wc => ∃ (kq : Nat) (x21_10 : Bool), v21 = .bool x21_10 /\ Aside0 (spec_Sites.j2 kq l0 x3_1 x4_1 ((rd_T43 l0 x4_1).f0) x21_10 = some r) /\ Aside0 (kq <= kj3) /\ Aside0 (Kd.R k55 55 wc w.heap.size (fun _ => True) u3 x3_1) /\ Aside0 (Below w.heap.size w wc))
      case first =>
       have H := HC11.out
       clear HC11
       by_cases c12 : ((rd_T43 l0 x4_1).f0) = 3
       ·rw [if_pos c12] at H
        have c12b0 : (((rd_T43 l0 x4_1).f0) == 3) = true := beq_iff_eq.mpr c12
        have c12b1 : (((rd_T43 l0 x4_1).f0) != 3) = false := bne_eq_false_iff_eq.mpr c12
        clear c12
        (first | rw [c12b0] | (simp only [i64_w, i32_w]; rw [c12b0]) | skip)
        have H' := Aside0.mk H
        clear H
        go_wp2
        go_meet
        case rel => exact ⟨_, ((((rd_T43 l0 x4_1).f0) == 3)), ez, H', ⟨by have := HK1.out; have := HJ3.out; first | omega | exact Nat.le_refl _⟩, ⟨by refine rq ?_; exact HO_3.out⟩, ⟨(bz0 HB.out)⟩⟩
       ·rw [if_neg c12] at H
        have c12b0 : (((rd_T43 l0 x4_1).f0) == 3) = false := beq_eq_false_iff_ne.mpr c12
        have c12b1 : (((rd_T43 l0 x4_1).f0) != 3) = true := bne_iff_ne.mpr c12
        (first | rw [c12b0] | (simp only [i64_w, i32_w]; rw [c12b0]) | skip)
        by_cases c13 : ((rd_T43 l0 x4_1).f0) = 5
        ·rw [if_pos c13] at H
         have c13b0 : (((rd_T43 l0 x4_1).f0) == 5) = true := beq_iff_eq.mpr c13
         have c13b1 : (((rd_T43 l0 x4_1).f0) != 5) = false := bne_eq_false_iff_eq.mpr c13
         clear c13
         have H' := Aside0.mk H
         clear H
         go_wp2
         go_meet
         case rel => exact ⟨_, ((((rd_T43 l0 x4_1).f0) == 5)), ez, H', ⟨by have := HK1.out; have := HJ3.out; first | omega | exact Nat.le_refl _⟩, ⟨by refine rq ?_; exact HO_3.out⟩, ⟨(bz0 HB.out)⟩⟩
        ·rw [if_neg c13] at H
         have c13b0 : (((rd_T43 l0 x4_1).f0) == 5) = false := beq_eq_false_iff_ne.mpr c13
         have c13b1 : (((rd_T43 l0 x4_1).f0) != 5) = true := bne_iff_ne.mpr c13
         have H' := Aside0.mk H
         clear H
         go_wp2
         go_meet
         case rel => exact ⟨_, ((((rd_T43 l0 x4_1).f0) == 19)), ez, H', ⟨by have := HK1.out; have := HJ3.out; first | omega | exact Nat.le_refl _⟩, ⟨by refine rq ?_; exact HO_3.out⟩, ⟨(bz0 HB.out)⟩⟩
      case rest =>
       clear HC11
       try clear c1
       try clear p2
       try clear p3
       try clear q3
       try clear hx3
       try clear c5
       try clear c5b0
       try clear c8
       try clear c9
       try clear c9b0
       try clear c10
       try clear c10b0
       try clear c12
       try clear c12b0
       try clear c12b1
       try clear c13
       try clear c13b0
       try clear c13b1
       try clear hx306_0
       try clear hx306_1
       try clear hx306_2
       try clear hx306_3
       try clear hx306_4
       try clear hx306_5
       try clear hx306_6
       try clear p2
       try clear p306
       try clear q306
       obtain ⟨kq, x21_10, rfl, HA, HJ10, HO_3, HB⟩ := hcut
       cases kq with
       | zero => exact absurd HA.out (by simp [spec_Sites.j2])
       | succ kj10 =>
        have H := HA.out
        clear HA
        simp only [spec_Sites.j2] at H
        by_cases c14 : x21_10 = true
        ·subst c14
         have H1 := hp H
         clear H
         have H := H1
         clear H1
         replace H := iz H
         obtain ⟨c15, H⟩ := H
         have LMc15 := Aside0.mk c15
         clear c15
         obtain ⟨y307, hy307⟩ : ∃ y_ : List (S55), y_ = (x3_1 ++ [(⟨x4_1, 0⟩ : S55)]) := ⟨_, rfl⟩
         replace H : (spec_Sites.l0 kj10 l0 y307 (wrap64 (x4_1 + 1))) = some r := yz hy307 H
         have Ny307 := Aside0.mk hy307
         clear hy307
         have H' := Aside0.mk H
         clear H
         go_wp2_with (first | ((with_reducible refine gate_builtin (b := .append) (xs := #[.tmp 25, .tmp 28]) rfl ?_); at_builtin; refine Kd.R_append k55 (w0 := w) w.heap.size rfl (.tmp 25) (.tmp 28) 57 55 (.agg #[(.int .i64 0), (.int .i64 0)]) 16 rfl Tryd.underlying57 info55 rfl (by decide) (by omega) u3 x3_1 (⟨x4_1, 0⟩ : S55) [.int .i64 x4_1, .int .i64 0] (fun _ => True) (fun _ => False) rfl rfl ?aP (fun _ hk => hk.elim) ?aF ?aO ?aB ?aS ?aL ?_; (case aP => exact k55_mkM _ _ _ (⟨x4_1, 0⟩ : S55)); (case aB => exact (bz0 HB.out)); (case aF => exact (fun _ _ => trivial)); (case aO => exact (rz HO_3.out)); (case aS => exact (below_size (bz0 HB.out))); (case aL => have := LMc15.out; omega); intro v308 w16 ho hb hg hat; rw [<- Ny307.out] at ho; have n0_ := Aside0.mk (hb); have n1_ := Aside0.mk (ho); clear HB; clear HO_3; have HB := n0_; have HO309 := n1_; clear n0_ n1_; clear ho hb hg hat))
         go_roundg kj10
         case measure => have := HK1.out; have := HJ3.out; have := HJ10.out; omega
         case rel => exact ⟨(y307), (wrap64 (x4_1 + 1)), ez, H', ⟨by have := HK1.out; have := HJ3.out; have := HJ10.out; omega⟩, ⟨by refine rq ?_; exact HO309.out⟩, ⟨(bz0 HB.out)⟩⟩
        ·replace c14 := Bool.eq_false_iff.mpr c14
         subst c14
         have H1 := hq H
         clear H
         have H := H1
         clear H1
         by_cases c17 : ((rd_T43 l0 x4_1).f0) = 6
         ·rw [if_pos c17] at H
          have c17b0 : (((rd_T43 l0 x4_1).f0) == 6) = true := beq_iff_eq.mpr c17
          have c17b1 : (((rd_T43 l0 x4_1).f0) != 6) = false := bne_eq_false_iff_eq.mpr c17
          clear c17
          obtain ⟨y310, hy310⟩ : ∃ y_ : List (S55), y_ = (([(⟨x4_1, 0⟩ : S55), (⟨x4_1, 1⟩ : S55)] : List (S55))) := ⟨_, rfl⟩
          replace H : (if x3_1.length + y310.length < 8796093022208 then (spec_Sites.l0 kj10 l0 (x3_1 ++ y310) (wrap64 (x4_1 + 1))) else (none)) = some r := yz hy310 H
          have Ny310 := Aside0.mk hy310
          clear hy310
          replace H := iz H
          obtain ⟨c18, H⟩ := H
          have LMc18 := Aside0.mk c18
          clear c18
          obtain ⟨y313, hy313⟩ : ∃ y_ : List (S55), y_ = (x3_1 ++ y310) := ⟨_, rfl⟩
          replace H : (spec_Sites.l0 kj10 l0 y313 (wrap64 (x4_1 + 1))) = some r := yz hy313 H
          have Ny313 := Aside0.mk hy313
          clear hy313
          have H' := Aside0.mk H
          clear H
          go_wp2_with (first | ((with_reducible refine gate_dst (N := 38) rfl ?_); refine Kd.R_lit k55 _ 55 ?hg (N := 38) ?hd (xs := ([(⟨x4_1, 0⟩ : S55), (⟨x4_1, 1⟩ : S55)] : List (S55))) (inner := [.int .i64 x4_1, .int .i64 0, .int .i64 x4_1, .int .i64 1]) (ok := fun _ => True) (okp := fun _ => True) ?hr ?hp (fun _ hk => hk) trivial (Below.refl _ _) (Nat.le_refl _) (by simp) ?_; (case hd => rfl); (case hg => rfl); (case hr => exact vz); (case hp => exact (Reps.c2 (show Kd.M k55 _ _ _ (⟨x4_1, 0⟩ : S55) [.int .i64 x4_1, .int .i64 0] from (k55_mkM _ _ _ (⟨x4_1, 0⟩ : S55) )) (Reps.c2 (show Kd.M k55 _ _ _ (⟨x4_1, 1⟩ : S55) [.int .i64 x4_1, .int .i64 1] from (k55_mkM _ _ _ (⟨x4_1, 1⟩ : S55) )) (Reps.none _ _)))); intro v311 w19 ho20 hb hg_ hnew_; clear hg_ hnew_; (first | rw [<- Ny310.out] at ho20 | (simp only [Int.reduceToNat] at ho20; rw [<- Ny310.out] at ho20)); have HO312 := Aside0.mk (Kd.R_lower (Kd.R_new' ho20 (Kd.R_lt (rz HO_3.out))) (below_size (bz0 HB.out))); replace HO_3 := Aside0.mk (Kd.R_elder' (rz HO_3.out) (Kd.R_base ho20) hb); replace HB := Aside0.mk (below_step (bz0 HB.out) hb); clear hb ho20; obtain ⟨Ao22, co22, eo22⟩ := Kd.R_slice HO312.out; subst eo22) | ((with_reducible refine gate_builtin (b := .append) (xs := #[.tmp 33, .tmp 38]) rfl ?_); at_builtin; refine Kd.R_append_rows k55 (w0 := w) w.heap.size rfl (.tmp 33) (.tmp 38) 57 55 (.agg #[(.int .i64 0), (.int .i64 0)]) 16 rfl Tryd.underlying57 info55 rfl (by decide) (by omega) u3 x3_1 y310 _ _ _ (fun k_ => some k_ ≠ (.slice Ao22 y310.length co22 : Value).ownBlock) (fun _ => False) rfl rfl ?aO ?aR (fun _ _ h => h) (fun _ h => h.elim) ?aF ?aB ?aS ?aL ?_; (case aR => exact cz (Kd.R_reads' HO312.out).2.2); (case aB => exact (bz0 HB.out)); (case aF => exact (fun k_ hk => Kd.fresh' (Kd.R_lt (rz HO312.out)) k_ hk)); (case aO => exact (by refine rq ?_; exact Kd.R_mono HO_3.out (fun _ hk => hk.2))); (case aS => exact (below_size (bz0 HB.out))); (case aL => have := LMc18.out; omega); intro v314 w21 ho hb hg hat; rw [<- Ny313.out] at ho; have n0_ := Aside0.mk (Kd.R_after (ok := (fun _ => True)) (rz HO312.out) hg hat); have n1_ := Aside0.mk (hb); have n2_ := Aside0.mk (ho); clear HO312; clear HB; clear HO_3; have HO312 := n0_; have HB := n1_; have HO315 := n2_; clear n0_ n1_ n2_; clear ho hb hg hat))
          go_roundg kj10
          case measure => have := HK1.out; have := HJ3.out; have := HJ10.out; omega
          case rel => exact ⟨(y313), (wrap64 (x4_1 + 1)), ez, H', ⟨by have := HK1.out; have := HJ3.out; have := HJ10.out; omega⟩, ⟨by refine rq ?_; exact Kd.R_mono HO315.out (fun _ hk => trivial)⟩, ⟨(bz0 HB.out)⟩⟩
         ·rw [if_neg c17] at H
          have c17b0 : (((rd_T43 l0 x4_1).f0) == 6) = false := beq_eq_false_iff_ne.mpr c17
          have c17b1 : (((rd_T43 l0 x4_1).f0) != 6) = true := bne_iff_ne.mpr c17
          by_cases c23 : ((rd_T43 l0 x4_1).f0) = 14
          ·rw [if_pos c23] at H
           have c23b0 : (((rd_T43 l0 x4_1).f0) == 14) = true := beq_iff_eq.mpr c23
           have c23b1 : (((rd_T43 l0 x4_1).f0) != 14) = false := bne_eq_false_iff_eq.mpr c23
           clear c23
           obtain ⟨y316, hy316⟩ : ∃ y_ : List (S55), y_ = (([(⟨x4_1, 0⟩ : S55), (⟨x4_1, 1⟩ : S55)] : List (S55))) := ⟨_, rfl⟩
           replace H : (if x3_1.length + y316.length < 8796093022208 then (spec_Sites.l0 kj10 l0 (x3_1 ++ y316) (wrap64 (x4_1 + 1))) else (none)) = some r := yz hy316 H
           have Ny316 := Aside0.mk hy316
           clear hy316
           replace H := iz H
           obtain ⟨c24, H⟩ := H
           have LMc24 := Aside0.mk c24
           clear c24
           obtain ⟨y319, hy319⟩ : ∃ y_ : List (S55), y_ = (x3_1 ++ y316) := ⟨_, rfl⟩
           replace H : (spec_Sites.l0 kj10 l0 y319 (wrap64 (x4_1 + 1))) = some r := yz hy319 H
           have Ny319 := Aside0.mk hy319
           clear hy319
           have H' := Aside0.mk H
           clear H
           go_wp2_with (first | ((with_reducible refine gate_dst (N := 38) rfl ?_); refine Kd.R_lit k55 _ 55 ?hg (N := 38) ?hd (xs := ([(⟨x4_1, 0⟩ : S55), (⟨x4_1, 1⟩ : S55)] : List (S55))) (inner := [.int .i64 x4_1, .int .i64 0, .int .i64 x4_1, .int .i64 1]) (ok := fun _ => True) (okp := fun _ => True) ?hr ?hp (fun _ hk => hk) trivial (Below.refl _ _) (Nat.le_refl _) (by simp) ?_; (case hd => rfl); (case hg => rfl); (case hr => exact vz); (case hp => exact (Reps.c2 (show Kd.M k55 _ _ _ (⟨x4_1, 0⟩ : S55) [.int .i64 x4_1, .int .i64 0] from (k55_mkM _ _ _ (⟨x4_1, 0⟩ : S55) )) (Reps.c2 (show Kd.M k55 _ _ _ (⟨x4_1, 1⟩ : S55) [.int .i64 x4_1, .int .i64 1] from (k55_mkM _ _ _ (⟨x4_1, 1⟩ : S55) )) (Reps.none _ _)))); intro v317 w25 ho26 hb hg_ hnew_; clear hg_ hnew_; (first | rw [<- Ny316.out] at ho26 | (simp only [Int.reduceToNat] at ho26; rw [<- Ny316.out] at ho26)); have HO318 := Aside0.mk (Kd.R_lower (Kd.R_new' ho26 (Kd.R_lt (rz HO_3.out))) (below_size (bz0 HB.out))); replace HO_3 := Aside0.mk (Kd.R_elder' (rz HO_3.out) (Kd.R_base ho26) hb); replace HB := Aside0.mk (below_step (bz0 HB.out) hb); clear hb ho26; obtain ⟨Ao28, co28, eo28⟩ := Kd.R_slice HO318.out; subst eo28) | ((with_reducible refine gate_builtin (b := .append) (xs := #[.tmp 33, .tmp 38]) rfl ?_); at_builtin; refine Kd.R_append_rows k55 (w0 := w) w.heap.size rfl (.tmp 33) (.tmp 38) 57 55 (.agg #[(.int .i64 0), (.int .i64 0)]) 16 rfl Tryd.underlying57 info55 rfl (by decide) (by omega) u3 x3_1 y316 _ _ _ (fun k_ => some k_ ≠ (.slice Ao28 y316.length co28 : Value).ownBlock) (fun _ => False) rfl rfl ?aO ?aR (fun _ _ h => h) (fun _ h => h.elim) ?aF ?aB ?aS ?aL ?_; (case aR => exact cz (Kd.R_reads' HO318.out).2.2); (case aB => exact (bz0 HB.out)); (case aF => exact (fun k_ hk => Kd.fresh' (Kd.R_lt (rz HO318.out)) k_ hk)); (case aO => exact (by refine rq ?_; exact Kd.R_mono HO_3.out (fun _ hk => hk.2))); (case aS => exact (below_size (bz0 HB.out))); (case aL => have := LMc24.out; omega); intro v320 w27 ho hb hg hat; rw [<- Ny319.out] at ho; have n0_ := Aside0.mk (Kd.R_after (ok := (fun _ => True)) (rz HO318.out) hg hat); have n1_ := Aside0.mk (hb); have n2_ := Aside0.mk (ho); clear HO318; clear HB; clear HO_3; have HO318 := n0_; have HB := n1_; have HO321 := n2_; clear n0_ n1_ n2_; clear ho hb hg hat))
           go_roundg kj10
           case measure => have := HK1.out; have := HJ3.out; have := HJ10.out; omega
           case rel => exact ⟨(y319), (wrap64 (x4_1 + 1)), ez, H', ⟨by have := HK1.out; have := HJ3.out; have := HJ10.out; omega⟩, ⟨by refine rq ?_; exact Kd.R_mono HO321.out (fun _ hk => trivial)⟩, ⟨(bz0 HB.out)⟩⟩
          ·rw [if_neg c23] at H
           have c23b0 : (((rd_T43 l0 x4_1).f0) == 14) = false := beq_eq_false_iff_ne.mpr c23
           have c23b1 : (((rd_T43 l0 x4_1).f0) != 14) = true := bne_iff_ne.mpr c23
           have H' := Aside0.mk H
           clear H
           go_wp2
           go_roundg kj10
           case measure => have := HK1.out; have := HJ3.out; have := HJ10.out; omega
           case rel => exact ⟨(x3_1), (wrap64 (x4_1 + 1)), ez, H', ⟨by have := HK1.out; have := HJ3.out; have := HJ10.out; omega⟩, ⟨by refine rq ?_; exact HO_3.out⟩, ⟨(bz0 HB.out)⟩⟩
     ·replace c8 := Bool.eq_false_iff.mpr c8
      subst c8
      have H1 := hq H
      clear H
      have H := H1
      clear H1
      obtain rfl := Option.some.inj H
      go_wp2
      go_ret
      exact ⟨_, gz, by refine rq ?_; exact HO_3.out, (bz0 HB.out)⟩
def spec_l7HasText.l0 : Nat -> List ByteArray -> ByteArray -> Int -> Option (Bool)
 | 0, _, _, _ => none
 | k + 1, x0, x1, x5 => if x5 < (x0.length : Int) then (if 0 <= x5 then (if (rdOf ByteArray.empty x0 x5).toList = x1.toList then (some true) else (spec_l7HasText.l0 k x0 x1 (wrap64 (x5 + 1)))) else (none)) else (some false)
def spec_l7HasText.f (k : Nat) (l0 : List ByteArray) (a1 : ByteArray) : Option (Bool) := spec_l7HasText.l0 k l0 a1 0
theorem spec_l7HasText.mono_l : ∀ k, (∀ y0 y1 y2, LeO (spec_l7HasText.l0 k y0 y1 y2) (spec_l7HasText.l0 (k + 1) y0 y1 y2))
 | 0 => fun _ _ _ r h => by simp [spec_l7HasText.l0] at h
 | k + 1 => by
  have ih0 := spec_l7HasText.mono_l k
  ·intro y0 y1 y2
   unfold spec_l7HasText.l0
   with_reducible repeat' first | exact ih0 _ _ _ | exact lrz _ | exact lnz _ | refine liz ?_ ?_ | refine lbz ?_ fun _ => ?_
theorem spec_l7HasText.mono : ∀ a0 a1 k, LeO (spec_l7HasText.f k a0 a1) (spec_l7HasText.f (k + 1) a0 a1) := by
 intro a0 a1 k
 have ih0 := spec_l7HasText.mono_l k
 unfold spec_l7HasText.f
 with_reducible repeat' first | exact ih0 _ _ _ | exact lrz _ | exact lnz _ | refine liz ?_ ?_ | refine lbz ?_ fun _ => ?_
set_option maxHeartbeats 8000000 in
set_option maxRecDepth 100000 in
theorem spec_l7HasText.calls (k : Nat) (A0 : Option Addr) (c0 : Nat) (l0 : List ByteArray) (a1 : ByteArray) (r : Bool) (w : World) (hr0 : Kd.C Kd.string w A0 l0.length l0) (hc0 : l0.length <= c0) (h : spec_l7HasText.f k l0 a1 = some r) :
  Calls Tryd.prog 54 #[.slice A0 l0.length c0, .string a1] w fun e w' => e = .returned (.bool r) /\ Drawn0 w w' := by
 have HR0 := Aside0.mk hr0
 have HC0 := Aside0.mk hc0
 clear hr0 hc0
 have H : (spec_l7HasText.l0 k l0 a1 0) = some r := h
 clear h
 have H' := Aside0.mk H
 clear H
 go_enter Tryd.func54, Tryd.ntmps54
 go_wp2
 go_loopg [5] k (fun kq v5 w' => ∃ (x5_1 : Int), v5 = .int .i64 x5_1 /\ Aside0 (spec_l7HasText.l0 kq l0 a1 x5_1 = some r) /\ Aside0 (kq <= k) /\ Drawn0 w w')
 case atStart => exact ⟨(0), ez, H', ⟨Nat.le_refl _⟩, dz⟩
 case round =>
  clear H'
  try clear p2
  obtain ⟨x5_1, rfl, HA, HK1, ⟨m1, rfl⟩⟩ := hrel
  cases gk with
  | zero => exact absurd HA.out (by simp [spec_l7HasText.l0])
  | succ k1 =>
   have H := HA.out
   clear HA
   simp only [spec_l7HasText.l0] at H
   by_cases c3 : x5_1 < (l0.length : Int)
   ·rw [if_pos c3] at H
    have c3b0 := decide_eq_true c3
    clear c3
    replace H := iz H
    obtain ⟨c4, H⟩ := H
    have c4b0 := decide_eq_true c4
    clear c4
    by_cases c5 : (rdOf ByteArray.empty l0 x5_1).toList = a1.toList
    ·rw [if_pos c5] at H
     have c5b0 : ((rdOf ByteArray.empty l0 x5_1).toList == a1.toList) = true := beq_iff_eq.mpr c5
     have c5b1 : ((rdOf ByteArray.empty l0 x5_1).toList != a1.toList) = false := bne_eq_false_iff_eq.mpr c5
     clear c5
     obtain rfl := Option.some.inj H
     have p322 : 0 <= (x5_1 : Int) := oz
     have q322 : x5_1 < (l0.length : Int) := oz
     obtain ⟨ad322, e322, hx322_0⟩ := Kd.at_string HR0.out x5_1 p322 q322
     cases e322
     replace p322 := eq_true p322
     replace q322 := eq_true q322
     go_wp2
     go_ret
     exact ⟨e2z, dz⟩
    ·rw [if_neg c5] at H
     have c5b0 : ((rdOf ByteArray.empty l0 x5_1).toList == a1.toList) = false := beq_eq_false_iff_ne.mpr c5
     have c5b1 : ((rdOf ByteArray.empty l0 x5_1).toList != a1.toList) = true := bne_iff_ne.mpr c5
     have H' := Aside0.mk H
     clear H
     have p322 : 0 <= (x5_1 : Int) := oz
     have q322 : x5_1 < (l0.length : Int) := oz
     obtain ⟨ad322, e322, hx322_0⟩ := Kd.at_string HR0.out x5_1 p322 q322
     cases e322
     replace p322 := eq_true p322
     replace q322 := eq_true q322
     go_wp2
     go_roundg k1
     case measure => have := HK1.out; omega
     case rel => exact ⟨(wrap64 (x5_1 + 1)), ez, H', ⟨by have := HK1.out; omega⟩, dz⟩
   ·rw [if_neg c3] at H
    have c3b0 := decide_eq_false c3
    clear c3
    obtain rfl := Option.some.inj H
    go_wp2
    go_ret
    exact ⟨e2z, dz⟩
def spec_FreshName.l0 : Nat -> Int -> ByteArray -> Option (ByteArray)
 | 0, _, _ => none
 | k + 1, x0, x3 => if x0 > 0 then ((some (([(wrap64 (97 + (Int.tmod x0 26))) % 256] : List Int) : List Int)).bind fun y327 => (if (strOfNums y327).size + x3.size <= 9223372036854775807 then (spec_FreshName.l0 k (wrap64 (Int.tdiv x0 26)) ((strOfNums y327) ++ x3)) else (none))) else (if 2 + x3.size <= 9223372036854775807 then (some ((⟨#[122, 113]⟩ : ByteArray) ++ x3)) else (none))
def spec_FreshName.f (k : Nat) (a0 : Int) : Option (ByteArray) := (spec_l1In.f a0 0 9999).bind fun t323 => (if t323 = true then (spec_FreshName.l0 k (wrap64 (Int.tdiv a0 26)) (strOfNums (([(wrap64 (97 + (Int.tmod a0 26))) % 256] : List Int)))) else (some (⟨#[]⟩ : ByteArray)))
theorem spec_FreshName.mono_l : ∀ k, (∀ y0 y1, LeO (spec_FreshName.l0 k y0 y1) (spec_FreshName.l0 (k + 1) y0 y1))
 | 0 => fun _ _ r h => by simp [spec_FreshName.l0] at h
 | k + 1 => by
  have ih0 := spec_FreshName.mono_l k
  ·intro y0 y1
   unfold spec_FreshName.l0
   with_reducible repeat' first | exact ih0 _ _ | exact lrz _ | exact lnz _ | refine liz ?_ ?_ | refine lbz ?_ fun _ => ?_
theorem spec_FreshName.mono : ∀ a0 k, LeO (spec_FreshName.f k a0) (spec_FreshName.f (k + 1) a0) := by
 intro a0 k
 have ih0 := spec_FreshName.mono_l k
 unfold spec_FreshName.f
 with_reducible repeat' first | exact ih0 _ _ | exact lrz _ | exact lnz _ | refine liz ?_ ?_ | refine lbz ?_ fun _ => ?_
set_option maxHeartbeats 8000000 in
set_option maxRecDepth 100000 in
theorem spec_FreshName.calls (k : Nat) (a0 : Int) (r : ByteArray) (w : World) (h : spec_FreshName.f k a0 = some r) :
  Calls Tryd.prog 55 #[.int .i64 a0] w fun e w' => e = .returned (.string r) /\ Below w.heap.size w w' := by
 have HB := Aside0.mk (Below.refl w.heap.size w)
 have H : ((spec_l1In.f a0 0 9999).bind fun t323 => (if t323 = true then (spec_FreshName.l0 k (wrap64 (Int.tdiv a0 26)) (strOfNums (([(wrap64 (97 + (Int.tmod a0 26))) % 256] : List Int)))) else (some (⟨#[]⟩ : ByteArray)))) = some r := h
 clear h
 replace H := bi H
 obtain ⟨t323, A20, H⟩ := H
 try dsimp only at H
 have A2 := Aside0.mk A20
 clear A20
 by_cases c3 : t323 = true
 ·subst c3
  have H1 := hp H
  clear H
  have H := H1
  clear H1
  obtain ⟨y324, hy324⟩ : ∃ y_ : List Int, y_ = (([(wrap64 (97 + (Int.tmod a0 26))) % 256] : List Int)) := ⟨_, rfl⟩
  replace H : (spec_FreshName.l0 k (wrap64 (Int.tdiv a0 26)) (strOfNums y324)) = some r := yz hy324 H
  have Ny324 := Aside0.mk hy324
  clear hy324
  have H' := Aside0.mk H
  clear H
  go_enter Tryd.func55, Tryd.ntmps55
  go_wp2_with (first | ((with_reducible refine gate_callee (f := 39) rfl ?_); refine goesL_ (some 5) rfl rfl Tryd.func39 (by kernel_rfl) rfl #[.int .i64 a0, .int .i64 0, .int .i64 9999] rfl lz ?_; (with_reducible refine (spec_l1In.calls a0 0 9999 true _ A2.out).mono ?_); rintro e w' ⟨rfl, ⟨nd, rfl⟩⟩; refine ⟨_, rfl, ?_⟩) | ((with_reducible refine gate_dst (N := 11) rfl ?_); refine Kd.R_lit (Kd.int .u8) _ 5 ?hg (N := 11) ?hd (xs := ([(wrap64 (97 + (Int.tmod a0 26))) % 256] : List Int)) (inner := [.int .u8 ((wrap64 (97 + (Int.tmod a0 26))) % 256)]) (ok := fun _ => True) (okp := fun _ => True) ?hr ?hp (fun _ hk => hk) trivial (Below.refl _ _) (Nat.le_refl _) (by simp) ?_; (case hd => rfl); (case hg => rfl); (case hr => exact vz); (case hp => exact (Reps.one (show Kd.M (Kd.int .u8) _ _ _ ((wrap64 (97 + (Int.tmod a0 26))) % 256) [.int .u8 ((wrap64 (97 + (Int.tmod a0 26))) % 256)] from rfl) (Reps.none _ _))); intro v325 w4 ho5 hb hg_ hnew_; clear hg_ hnew_; (first | rw [<- Ny324.out] at ho5 | (simp only [Int.reduceToNat] at ho5; rw [<- Ny324.out] at ho5)); have HO326 := Aside0.mk (Kd.R_lower ho5 (below_size (bz0 HB.out))); replace HB := Aside0.mk (below_step (bz0 HB.out) hb); clear hb ho5; have hcv6 := own_string (P := Tryd.prog) Tryd.underlying75 Tryd.underlying5 Tryd.underlying9 (Kd.own_of_R HO326.out)))
  go_loopg [0, 3] k (fun kq v0 v3 w' => ∃ (x0_1 : Int) (x3_1 : ByteArray), v0 = .int .i64 x0_1 /\ v3 = .string x3_1 /\ Aside0 (spec_FreshName.l0 kq x0_1 x3_1 = some r) /\ Aside0 (kq <= k) /\ Aside0 (Below w.heap.size w w'))
  case atStart => exact ⟨(wrap64 (Int.tdiv a0 26)), (strOfNums y324), ez, ez, H', ⟨Nat.le_refl _⟩, ⟨(bz0 HB.out)⟩⟩
  case round =>
   clear H'
   try clear p2
   try clear c3
   try clear c5
   try clear p6
   try clear hcv6
   obtain ⟨x0_1, x3_1, rfl, rfl, HA, HK1, HB⟩ := hrel
   cases gk with
   | zero => exact absurd HA.out (by simp [spec_FreshName.l0])
   | succ k1 =>
    have H := HA.out
    clear HA
    simp only [spec_FreshName.l0] at H
    by_cases c7 : x0_1 > 0
    ·rw [if_pos c7] at H
     have c7b0 : decide (0 < x0_1) = true := decide_eq_true c7
     clear c7
     obtain ⟨y327, hy327⟩ : ∃ y_ : List Int, y_ = (([(wrap64 (97 + (Int.tmod x0_1 26))) % 256] : List Int)) := ⟨_, rfl⟩
     replace H : (if (strOfNums y327).size + x3_1.size <= 9223372036854775807 then (spec_FreshName.l0 k1 (wrap64 (Int.tdiv x0_1 26)) ((strOfNums y327) ++ x3_1)) else (none)) = some r := yz hy327 H
     have Ny327 := Aside0.mk hy327
     clear hy327
     replace H := iz H
     obtain ⟨c8, H⟩ := H
     have c8b0 := eq_true c8
     have c8b1 : decide ((strOfNums y327).size + x3_1.size <= 9223372036854775807) = true := decide_eq_true c8
     try have c8b2 : (9223372036854775807 < (strOfNums y327).size + x3_1.size) = False := eq_false (Nat.not_lt.2 c8)
     have H' := Aside0.mk H
     clear H
     go_wp2_with (first | ((with_reducible refine gate_dst (N := 23) rfl ?_); refine Kd.R_lit (Kd.int .u8) _ 5 ?hg (N := 23) ?hd (xs := ([(wrap64 (97 + (Int.tmod x0_1 26))) % 256] : List Int)) (inner := [.int .u8 ((wrap64 (97 + (Int.tmod x0_1 26))) % 256)]) (ok := fun _ => True) (okp := fun _ => True) ?hr ?hp (fun _ hk => hk) trivial (Below.refl _ _) (Nat.le_refl _) (by simp) ?_; (case hd => rfl); (case hg => rfl); (case hr => exact vz); (case hp => exact (Reps.one (show Kd.M (Kd.int .u8) _ _ _ ((wrap64 (97 + (Int.tmod x0_1 26))) % 256) [.int .u8 ((wrap64 (97 + (Int.tmod x0_1 26))) % 256)] from rfl) (Reps.none _ _))); intro v328 w9 ho10 hb hg_ hnew_; clear hg_ hnew_; (first | rw [<- Ny327.out] at ho10 | (simp only [Int.reduceToNat] at ho10; rw [<- Ny327.out] at ho10)); have HO329 := Aside0.mk (Kd.R_lower ho10 (below_size (bz0 HB.out))); replace HB := Aside0.mk (below_step (bz0 HB.out) hb); clear hb ho10; have hcv11 := own_string (P := Tryd.prog) Tryd.underlying75 Tryd.underlying5 Tryd.underlying9 (Kd.own_of_R HO329.out)))
     go_roundg k1
     case measure => have := HK1.out; omega
     case rel => exact ⟨(wrap64 (Int.tdiv x0_1 26)), ((strOfNums y327) ++ x3_1), ez, ez, H', ⟨by have := HK1.out; omega⟩, ⟨(bz0 HB.out)⟩⟩
    ·rw [if_neg c7] at H
     have c7b0 : decide (0 < x0_1) = false := decide_eq_false c7
     clear c7
     replace H := iz H
     obtain ⟨c12, H⟩ := H
     have c12b0 := eq_true c12
     have c12b1 : decide (2 + x3_1.size <= 9223372036854775807) = true := decide_eq_true c12
     try have c12b2 : (9223372036854775807 < 2 + x3_1.size) = False := eq_false (Nat.not_lt.2 c12)
     obtain rfl := Option.some.inj H
     go_wp2
     go_ret
     exact ⟨gz, (bz0 HB.out)⟩
 ·replace c3 := Bool.eq_false_iff.mpr c3
  subst c3
  have H1 := hq H
  clear H
  have H := H1
  clear H1
  obtain rfl := Option.some.inj H
  go_enter Tryd.func55, Tryd.ntmps55
  go_wp2_with (first | ((with_reducible refine gate_callee (f := 39) rfl ?_); refine goesL_ (some 5) rfl rfl Tryd.func39 (by kernel_rfl) rfl #[.int .i64 a0, .int .i64 0, .int .i64 9999] rfl lz ?_; (with_reducible refine (spec_l1In.calls a0 0 9999 false _ A2.out).mono ?_); rintro e w' ⟨rfl, ⟨nd, rfl⟩⟩; refine ⟨_, rfl, ?_⟩))
  go_ret
  exact ⟨gz, (bz0 HB.out)⟩
end Go.Proofs.YtmilegjmiiccdaaDoor.PFnExactCanon
