/- PFnExactRenameOnex13, of the words and walks that the law FnExactRenameOne needs; made by this session's program out of printed texts. -/

import Derived.Test.YtdjamdnjkdllgaaGreatDoorVERenameOnePx0
import Derived.Test.YtdjamdnjkdllgaaGreatDoorVERenameOnePx6
import Derived.Test.YtdjamdnjkdllgaaGreatDoorVERenameOnePx7
import Derived.Test.YtdjamdnjkdllgaaGreatDoorVERenameOnePx8
import Derived.Test.YtdjamdnjkdllgaaGreatDoorVERenameOnePx11
import Derived.Test.YtdjamdnjkdllgaaGreatDoorVERenameOnePx12
namespace Go.Proofs.YtdjamdnjkdllgaaGreatDoor.PFnExactRenameOne
open Go.RowKit Go.Proofs.YtdjamdnjkdllgaaGreatDoorW.PrintWords Go.Proofs.YtdjamdnjkdllgaaGreatDoorW.PrintLast Go.Proofs.YtdjamdnjkdllgaaGreatDoorW.PrintMore
attribute [local go_sem] max2_int min2_int max_two min_two max_three min_three max_four min_four
set_option linter.unusedVariables false
set_option linter.unusedSimpArgs false
mutual
def spec_Canon.l0 : Nat -> List (S45) -> List (S45) -> List ByteArray -> List (S30) -> Int -> Int -> Option ((List (S45)))
 | 0, _, _, _, _, _, _ => none
 | k + 1, x0, x3, x4, x5, x6, x7 => if x7 < (x5.length : Int) then (spec_Canon.l1 k x0 x3 x4 x5 x6 x7) else (some x3)
def spec_Canon.l1 : Nat -> List (S45) -> List (S45) -> List ByteArray -> List (S30) -> Int -> Int -> Option ((List (S45)))
 | 0, _, _, _, _, _, _ => none
 | k + 1, x0, x3, x4, x5, x6, x7 => (spec_FreshName.f k x6).bind fun t332 => ((spec_l7HasText.f k x4 t332).bind fun t333 => (if t333 = true then (spec_Canon.l1 k x0 x3 x4 x5 (wrap64 (x6 + 1)) x7) else (if 0 <= x7 then (if x7 < (x5.length : Int) then ((spec_UsesOf.f k x0 ((rd_T30 x5 x7).f0) ((rd_T30 x5 x7).f1)).bind fun t335 => ((spec_FreshName.f k x6).bind fun t339 => ((spec_l7Set.f k x3 t335 ((rd_T30 x5 x7).f0) ((rd_T30 x5 x7).f1) t339).bind fun t340 => (spec_Canon.l0 k x0 t340 x4 x5 (wrap64 (x6 + 1)) (wrap64 (x7 + 1)))))) else (none)) else (none))))
end
def spec_Canon.f (k : Nat) (l0 : List (S45)) : Option ((List (S45))) := (some (([] : List (S45)) : List (S45))).bind fun y316 => (if y316.length + l0.length < 1954687338268 then ((spec_NodesOk.f k l0).bind fun t322 => (if t322 = true then ((spec_FreeNames.f k l0).bind fun t326 => ((spec_Sites.f k l0).bind fun t329 => (spec_Canon.l0 k l0 (y316 ++ l0) t326 t329 0 0))) else (some (([] : List (S45)))))) else (none))
theorem spec_Canon.mono_l : ∀ k, (∀ y0 y1 y2 y3 y4 y5, LeO (spec_Canon.l0 k y0 y1 y2 y3 y4 y5) (spec_Canon.l0 (k + 1) y0 y1 y2 y3 y4 y5)) /\ (∀ y0 y1 y2 y3 y4 y5, LeO (spec_Canon.l1 k y0 y1 y2 y3 y4 y5) (spec_Canon.l1 (k + 1) y0 y1 y2 y3 y4 y5))
 | 0 => ⟨fun _ _ _ _ _ _ r h => by simp [spec_Canon.l0] at h, fun _ _ _ _ _ _ r h => by simp [spec_Canon.l1] at h⟩
 | k + 1 => by
  obtain ⟨ih0, ih1⟩ := spec_Canon.mono_l k
  refine ⟨?_, ?_⟩
  ·intro y0 y1 y2 y3 y4 y5
   unfold spec_Canon.l0
   with_reducible repeat' first | exact ih0 _ _ _ _ _ _ | exact ih1 _ _ _ _ _ _ | exact spec_FreeNames.mono _ _ | exact spec_FreshName.mono _ _ | exact spec_NodesOk.mono _ _ | exact spec_Sites.mono _ _ | exact spec_UsesOf.mono _ _ _ _ | exact spec_l7HasText.mono _ _ _ | exact spec_l7Set.mono _ _ _ _ _ _ | exact lrz _ | exact lnz _ | refine liz ?_ ?_ | refine lbz ?_ fun _ => ?_
  ·intro y0 y1 y2 y3 y4 y5
   unfold spec_Canon.l1
   with_reducible repeat' first | exact ih0 _ _ _ _ _ _ | exact ih1 _ _ _ _ _ _ | exact spec_FreeNames.mono _ _ | exact spec_FreshName.mono _ _ | exact spec_NodesOk.mono _ _ | exact spec_Sites.mono _ _ | exact spec_UsesOf.mono _ _ _ _ | exact spec_l7HasText.mono _ _ _ | exact spec_l7Set.mono _ _ _ _ _ _ | exact lrz _ | exact lnz _ | refine liz ?_ ?_ | refine lbz ?_ fun _ => ?_
theorem spec_Canon.mono : ∀ a0 k, LeO (spec_Canon.f k a0) (spec_Canon.f (k + 1) a0) := by
 intro a0 k
 obtain ⟨ih0, ih1⟩ := spec_Canon.mono_l k
 unfold spec_Canon.f
 with_reducible repeat' first | exact ih0 _ _ _ _ _ _ | exact ih1 _ _ _ _ _ _ | exact spec_FreeNames.mono _ _ | exact spec_FreshName.mono _ _ | exact spec_NodesOk.mono _ _ | exact spec_Sites.mono _ _ | exact spec_UsesOf.mono _ _ _ _ | exact spec_l7HasText.mono _ _ _ | exact spec_l7Set.mono _ _ _ _ _ _ | exact lrz _ | exact lnz _ | refine liz ?_ ?_ | refine lbz ?_ fun _ => ?_
def spec_Canon.T12 : Bool × List (List Nat × List Nat) := (true, [([], []), ([], []), ([], []), ([], []), ([2, 3], [2, 3]), ([4], [4]), ([1, 5], [1, 5]), ([], []), ([], []), ([7, 8], [7, 8]), ([9], [9]), ([], []), ([11, 6], [11]), ([0, 6, 10, 12, 12], [0, 6, 10, 12]), ([13, 13, 0, 1, 2, 3, 4, 5, 6, 7, 8, 9, 10, 11, 12, 13], [0, 13])])
def spec_Canon.B12 : List Nat := [0, 0, 0, 0, 12, 28, 62, 0, 0, 384, 896, 0, 2174, 8191, 16383]
theorem spec_Canon.tab12 : rtab .any (opsOf Tryz.f43 12) = spec_Canon.T12 := by kernel_rfl
theorem spec_Canon.bits12 : waitsOk spec_Canon.T12.2 spec_Canon.B12 = true := by kernel_rfl
set_option maxHeartbeats 8000000 in
set_option maxRecDepth 100000 in
theorem spec_Canon.calls (k : Nat) (A0 : Option Addr) (c0 : Nat) (l0 : List (S45)) (r : List (S45)) (w : World) (hr0 : Kd.C k45 w A0 l0.length l0) (hc0 : l0.length <= c0) (h : spec_Canon.f k l0 = some r) :
  Calls Tryz.prog 43 #[.slice A0 l0.length c0] w fun e w' => ∃ v0_ : Value, e = .returned (v0_) /\ Kd.R k45 45 w' w.heap.size (fun _ => True) v0_ r /\ Below w.heap.size w w' := by
 have hu30 := Tryz.underlying30
 have HR0 := am hr0
 have HC0 := am hc0
 clear hr0 hc0
 have HB := am (Below.refl w.heap.size w)
 have H : ((some (([] : List (S45)) : List (S45))).bind fun y316 => (if y316.length + l0.length < 1954687338268 then ((spec_NodesOk.f k l0).bind fun t322 => (if t322 = true then ((spec_FreeNames.f k l0).bind fun t326 => ((spec_Sites.f k l0).bind fun t329 => (spec_Canon.l0 k l0 (y316 ++ l0) t326 t329 0 0))) else (some (([] : List (S45)))))) else (none))) = some r := h
 clear h
 obtain ⟨y316, hy316⟩ : ∃ y_ : List (S45), y_ = (([] : List (S45))) := ⟨_, rfl⟩
 replace H : (if y316.length + l0.length < 1954687338268 then ((spec_NodesOk.f k l0).bind fun t322 => (if t322 = true then ((spec_FreeNames.f k l0).bind fun t326 => ((spec_Sites.f k l0).bind fun t329 => (spec_Canon.l0 k l0 (y316 ++ l0) t326 t329 0 0))) else (some (([] : List (S45)))))) else (none)) = some r := yz hy316 H
 have Ny316 := am hy316
 clear hy316
 replace H := iz H
 obtain ⟨c2, H⟩ := H
 have LMc2 := am c2
 clear c2
 obtain ⟨y319, hy319⟩ : ∃ y_ : List (S45), y_ = (y316 ++ l0) := ⟨_, rfl⟩
 replace H : ((spec_NodesOk.f k l0).bind fun t322 => (if t322 = true then ((spec_FreeNames.f k l0).bind fun t326 => ((spec_Sites.f k l0).bind fun t329 => (spec_Canon.l0 k l0 y319 t326 t329 0 0))) else (some (([] : List (S45)))))) = some r := yz hy319 H
 have Ny319 := am hy319
 clear hy319
 replace H := bi H
 obtain ⟨t322, A30, H⟩ := H
 try dsimp only at H
 have A3 := am A30
 clear A30
 by_cases c4 : t322 = true
 ·subst c4
  have H1 := hp H
  clear H
  have H := H1
  clear H1
  replace H := bi H
  obtain ⟨t326, A50, H⟩ := H
  try dsimp only at H
  have A5 := am A50
  clear A50
  replace H := bi H
  obtain ⟨t329, A60, H⟩ := H
  try dsimp only at H
  have A6 := am A60
  clear A60
  have H' := am H
  clear H
  go_enter Tryz.func43, Tryz.ntmps43
  go_wp2_with (first | ((with_reducible refine gate_dst (N := 8) rfl ?_); refine Kd.R_lit k45 _ 45 ?hg (N := 8) ?hd (xs := ([] : List (S45))) (inner := []) (ok := fun _ => True) (okp := fun _ => True) ?hr ?hp (fun _ hk => hk) trivial (Below.refl _ _) (Nat.le_refl _) (by simp) ?_; (case hd => rfl); (case hg => rfl); (case hr => exact vz); (case hp => exact (Reps.none _ _)); intro v317 w7 ho8 hb hg_ hnew_; clear hg_ hnew_; (first | rw [<- Ny316.out] at ho8 | (simp only [Int.reduceToNat] at ho8; rw [<- Ny316.out] at ho8)); have HO318 := am (Kd.R_lower ho8 (below_size (bz0 HB.out))); replace HB := bs (bz0 HB.out) hb; clear hb ho8) | ((with_reducible refine gate_builtin (b := .append) (xs := #[.tmp 8, .tmp 9]) rfl ?_); at_builtin; refine Kd.R_append_rows k45 (w0 := w) w.heap.size rfl (.tmp 8) (.tmp 9) 26 45 (.agg #[(.int .i64 0), (.int .i64 0), (.int .i64 0), (.int .i64 0), (.int .i64 0), (.string ⟨#[]⟩), (.string ⟨#[]⟩)]) 72 rfl Tryz.underlying26 info45 rfl (by decide) (by omega) v317 y316 l0 _ _ _ (fun _ => True) (fun _ => False) rfl rfl ?aO ?aR (fun _ _ h => h) (fun _ h => h.elim) ?aF ?aB ?aS ?aL ?_; (case aR => exact cz (Kd.C_below HR0.out HB.out)); (case aB => exact (bz0 HB.out)); (case aF => exact (fun _ _ => trivial)); (case aO => exact (rz HO318.out)); (case aS => exact (below_size (bz0 HB.out))); (case aL => have := LMc2.out; omega); intro v320 w9 ho hb hg hat; rw [<- Ny319.out] at ho; have n0_ := am (hb); have n1_ := am (ho); clear HB; clear HO318; have HB := n0_; have HO321 := n1_; clear n0_ n1_; clear ho hb hg hat) | ((with_reducible refine gate_callee (f := 15) rfl ?_); refine goesL_ (some 12) rfl rfl Tryz.func15 kr rfl #[.slice A0 l0.length c0] rfl lz ?_; (with_reducible refine (spec_NodesOk.calls k _ _ l0 true _ ?side1 ?side2 A3.out).mono ?_); (case side1 => exact cz (Kd.C_below HR0.out HB.out)); (case side2 => exact HC0.out); rintro e w10 ⟨rfl, hb⟩; refine ⟨_, rfl, ?_⟩; replace HO321 := qz HO321 hb; replace HB := bs (bz0 HB.out) hb; (try clear hb); (try clear hk); (try clear hi)) | ((with_reducible refine gate_callee (f := 62) rfl ?_); refine goesL_ (some 16) rfl rfl Tryz.func62 kr rfl #[.slice A0 l0.length c0] rfl lz ?_; (with_reducible refine (spec_FreeNames.calls k _ _ l0 t326 _ ?side1 ?side2 A5.out).mono ?_); (case side1 => exact cz (Kd.C_below HR0.out HB.out)); (case side2 => exact HC0.out); rintro e w11 ⟨v327, rfl, ho0, hb⟩; refine ⟨_, rfl, ?_⟩; replace HO321 := qz HO321 hb; have HO328 := am (Kd.R_lower ho0 (below_size (bz0 HB.out))); replace HB := bs (bz0 HB.out) hb; (try clear hb); (try clear hk); (try clear ho0)) | ((with_reducible refine gate_callee (f := 16) rfl ?_); refine goesL_ (some 18) rfl rfl Tryz.func16 kr rfl #[.slice A0 l0.length c0] rfl lz ?_; (with_reducible refine (spec_Sites.calls k _ _ l0 t329 _ ?side1 ?side2 A6.out).mono ?_); (case side1 => exact cz (Kd.C_below HR0.out HB.out)); (case side2 => exact HC0.out); rintro e w12 ⟨v330, rfl, ho0, hb⟩; refine ⟨_, rfl, ?_⟩; replace HO321 := qz HO321 hb; replace HO328 := qz HO328 hb; have HO331 := am (Kd.R_lower ho0 (below_size (bz0 HB.out))); replace HB := bs (bz0 HB.out) hb; (try clear hb); (try clear hk); (try clear ho0)))
  (try simp only [Act.put, sz1, sz2, sz3])
  go_loopg [3, 6, 7] k (fun kq v3 v6 v7 w' => ∃ (x3_1 : List (S45)) (x6_1 : Int) (x7_1 : Int), v6 = .int .i64 x6_1 /\ v7 = .int .i64 x7_1 /\ Aside0 (spec_Canon.l0 kq l0 x3_1 t326 t329 x6_1 x7_1 = some r) /\ Aside0 (kq <= k) /\ Aside0 (Kd.R k45 45 w' w.heap.size (fun _ => True) v3 x3_1) /\ Aside0 (Kd.R Kd.string 9 w' w.heap.size (fun _ => True) v327 t326) /\ Aside0 (Kd.R k30 30 w' w.heap.size (fun _ => True) v330 t329) /\ Aside0 (Below w.heap.size w w'))
  case atStart => exact ⟨(y319), (0), (0), ez, ez, H', ⟨Nat.le_refl _⟩, ⟨by refine rq ?_; exact HO321.out⟩, ⟨by refine rq ?_; exact HO328.out⟩, ⟨by refine rq ?_; exact HO331.out⟩, ⟨(bz0 HB.out)⟩⟩
  case round =>
   clear H'
   try clear c1
   try clear c2
   try clear p2
   try clear c4
   try clear c6
   obtain ⟨x3_1, x6_1, x7_1, rfl, rfl, HA, HK1, HO_3, HO_4, HO_5, HB⟩ := hrel
   cases gk with
   | zero => exact absurd HA.out (by simp [spec_Canon.l0])
   | succ k1 =>
    have H := HA.out
    clear HA
    simp only [spec_Canon.l0] at H
    by_cases c13 : x7_1 < (t329.length : Int)
    ·rw [if_pos c13] at H
     have c13b0 := decide_eq_true c13
     clear c13
     have H' := am H
     clear H
     obtain ⟨Ao14, co14, eo14⟩ := Kd.R_slice HO_5.out
     subst eo14
     go_wp2
     go_loopg [6] k1 (fun kq v6 w' => ∃ (x6_2 : Int), v6 = .int .i64 x6_2 /\ Aside0 (spec_Canon.l1 kq l0 x3_1 t326 t329 x6_2 x7_1 = some r) /\ Aside0 (kq <= k1) /\ Aside0 (Kd.R k45 45 w' w.heap.size (fun _ => True) u3 x3_1) /\ Aside0 (Kd.R Kd.string 9 w' w.heap.size (fun _ => True) v327 t326) /\ Aside0 (Kd.R k30 30 w' w.heap.size (fun _ => True) (.slice Ao14 t329.length co14) t329) /\ Aside0 (Below w.heap.size w w'))
     case atStart => exact ⟨(x6_1), ez, H', ⟨Nat.le_refl _⟩, ⟨by refine rq ?_; exact HO_3.out⟩, ⟨by refine rq ?_; exact HO_4.out⟩, ⟨by refine rq ?_; exact HO_5.out⟩, ⟨(bz0 HB.out)⟩⟩
     case round =>
      clear H'
      try clear c1
      try clear c2
      try clear p2
      try clear c4
      try clear c6
      try clear c13
      try clear c13b0
      try clear p2
      obtain ⟨x6_2, rfl, HA, HK2, HO_3, HO_4, HO_5, HB⟩ := hrel
      cases gk with
      | zero => exact absurd HA.out (by simp [spec_Canon.l1])
      | succ k2 =>
       have H := HA.out
       clear HA
       simp only [spec_Canon.l1] at H
       replace H := bi H
       obtain ⟨t332, A150, H⟩ := H
       try dsimp only at H
       have A15 := am A150
       clear A150
       replace H := bi H
       obtain ⟨t333, A160, H⟩ := H
       try dsimp only at H
       have A16 := am A160
       clear A160
       by_cases c17 : t333 = true
       ·subst c17
        have H1 := hp H
        clear H
        have H := H1
        clear H1
        have H' := am H
        clear H
        go_wp2_with (first | ((with_reducible refine gate_callee (f := 64) rfl ?_); refine goesL_ (some 27) rfl rfl Tryz.func64 kr rfl #[.int .i64 x6_2] rfl lz ?_; (with_reducible refine (spec_FreshName.calls k2 x6_2 t332 _ A15.out).mono ?_); rintro e w18 ⟨rfl, hb⟩; refine ⟨_, rfl, ?_⟩; replace HO_3 := qz HO_3 hb; replace HO_4 := qz HO_4 hb; replace HO_5 := qz HO_5 hb; replace HB := bs (bz0 HB.out) hb; (try clear hb); obtain ⟨Ao19, co19, eo19⟩ := Kd.R_slice HO_4.out; subst eo19) | ((with_reducible refine gate_callee (f := 63) rfl ?_); refine goesL_ (some 28) rfl rfl Tryz.func63 kr rfl #[.slice Ao19 t326.length co19, .string t332] rfl lz ?_; (with_reducible refine (spec_l7HasText.calls k2 _ _ t326 t332 true _ ?side1 ?side2 A16.out).mono ?_); (case side1 => exact cz (Kd.R_reads' HO_4.out).2.2); (case side2 => exact (Kd.R_reads' HO_4.out).2.1); rintro e w' ⟨rfl, ⟨nd, rfl⟩⟩; refine ⟨_, rfl, ?_⟩))
        go_roundg k2
        case measure => have := HK1.out; have := HK2.out; omega
        case rel => exact ⟨(wrap64 (x6_2 + 1)), ez, H', ⟨by have := HK1.out; have := HK2.out; omega⟩, ⟨by refine rq ?_; exact HO_3.out⟩, ⟨by refine rq ?_; exact HO_4.out⟩, ⟨by refine rq ?_; exact HO_5.out⟩, ⟨(bz0 HB.out)⟩⟩
       ·replace c17 := Bool.eq_false_iff.mpr c17
        subst c17
        have H1 := hq H
        clear H
        have H := H1
        clear H1
        replace H := iz H
        obtain ⟨c20, H⟩ := H
        have c20b0 := decide_eq_true c20
        clear c20
        replace H := iz H
        obtain ⟨c21, H⟩ := H
        have c21b0 := decide_eq_true c21
        clear c21
        replace H := bi H
        obtain ⟨t335, A220, H⟩ := H
        try dsimp only at H
        have A22 := am A220
        clear A220
        replace H := bi H
        obtain ⟨t339, A230, H⟩ := H
        try dsimp only at H
        have A23 := am A230
        clear A230
        replace H := bi H
        obtain ⟨t340, A240, H⟩ := H
        try dsimp only at H
        have A24 := am A240
        clear A240
        have H' := am H
        clear H
        try go_wp2_with (first | ((with_reducible refine gate_callee (f := 64) rfl ?_); refine goesL_ (some 27) rfl rfl Tryz.func64 kr rfl #[.int .i64 x6_2] rfl lz ?_; (with_reducible refine (spec_FreshName.calls k2 x6_2 t332 _ A15.out).mono ?_); rintro e w25 ⟨rfl, hb⟩; refine ⟨_, rfl, ?_⟩; replace HO_3 := qz HO_3 hb; replace HO_4 := qz HO_4 hb; replace HO_5 := qz HO_5 hb; replace HB := bs (bz0 HB.out) hb; (try clear hb); obtain ⟨Ao26, co26, eo26⟩ := Kd.R_slice HO_4.out; subst eo26) | ((with_reducible refine gate_callee (f := 63) rfl ?_); refine goesL_ (some 28) rfl rfl Tryz.func63 kr rfl #[.slice Ao26 t326.length co26, .string t332] rfl lz ?_; (with_reducible refine (spec_l7HasText.calls k2 _ _ t326 t332 false _ ?side1 ?side2 A16.out).mono ?_); (case side1 => exact cz (Kd.R_reads' HO_4.out).2.2); (case side2 => exact (Kd.R_reads' HO_4.out).2.1); rintro e w' ⟨rfl, ⟨nd, rfl⟩⟩; refine ⟨_, rfl, ?_⟩))
        (try (rw [drewN_self w25]; generalize hq_ : World.drewN w25 _ = w25; have n0_ : Aside0 (Kd.R k45 45 w25 w.heap.size (fun _ => True) u3 x3_1) := ⟨by rw [<- hq_]; exact (rz HO_3.out)⟩; have n1_ : Aside0 (Kd.R Kd.string 9 w25 w.heap.size (fun _ => True) (.slice Ao26 t326.length co26) t326) := ⟨by rw [<- hq_]; exact (rz HO_4.out)⟩; have n2_ : Aside0 (Kd.R k30 30 w25 w.heap.size (fun _ => True) (.slice Ao14 t329.length co14) t329) := ⟨by rw [<- hq_]; exact (rz HO_5.out)⟩; have n3_ : Aside0 (Below w.heap.size w w25) := ⟨by rw [<- hq_]; exact (bz0 HB.out)⟩; clear HO_3 HO_4 HO_5 HB hq_; have HO_3 := n0_; have HO_4 := n1_; have HO_5 := n2_; have HB := n3_; clear n0_ n1_ n2_ n3_))
        have n0_ := am (Kd.R_drew HO_3.out)
        have n1_ := am (Kd.R_drew HO_4.out)
        have n2_ := am (Kd.R_drew HO_5.out)
        have n3_ := am (below_drew1 HB.out)
        clear HO_3
        clear HO_4
        clear HO_5
        clear HB
        have HO_3 := n0_
        have HO_4 := n1_
        have HO_5 := n2_
        have HB := n3_
        clear n0_ n1_ n2_ n3_
        have p334 : 0 <= (x7_1 : Int) := oz
        have q334 : x7_1 < (t329.length : Int) := oz
        obtain ⟨ad334, e334, hx334_0, hx334_1⟩ := at_T30 (Kd.R_reads' HO_5.out).2.2 x7_1 p334 q334
        cases e334
        replace p334 := eq_true p334
        replace q334 := eq_true q334
        have p338 : 0 <= (x7_1 : Int) := oz
        have q338 : x7_1 < (t329.length : Int) := oz
        obtain ⟨ad338, e338, hx338_0, hx338_1⟩ := at_T30 (Kd.R_reads' HO_5.out).2.2 x7_1 p338 q338
        obtain rfl : ad334 = ad338 := (by injection e338)
        replace p338 := eq_true p338
        replace q338 := eq_true q338
        refine start_ (n := 15) (S := fun w' => w'.cell? (ad334.add ((x7_1).toNat * 2)) = some (.int .i64 ((rd_T30 t329 x7_1).f0)) /\ w'.cell? ⟨(ad334.add ((x7_1).toNat * 2)).block, (ad334.add ((x7_1).toNat * 2)).off + 1, none⟩ = some (.int .i64 ((rd_T30 t329 x7_1).f1)) /\ w'.cell? (ad334.add ((x7_1).toNat * 2)) = some (.int .i64 ((rd_T30 t329 x7_1).f0)) /\ w'.cell? ⟨(ad334.add ((x7_1).toNat * 2)).block, (ad334.add ((x7_1).toNat * 2)).off + 1, none⟩ = some (.int .i64 ((rd_T30 t329 x7_1).f1))) (ds := []) (mk_ 0 15) kr rfl rfl ⟨hx334_0, hx334_1, hx338_0, hx338_1⟩ (fun hHeld => ?_); refine with_tabW spec_Canon.tab12 spec_Canon.bits12 (fun HT_ HW_ => ?_)
        generalize w25.drew = w27 at HO_3 HO_4 HO_5 HB hx334_0 hx334_1 hx338_0 hx338_1 hHeld ⊢
        refine pv 0 31 (mk_ 1 14) HT_ rfl rfl ?_
        refine pv 1 32 (mk_ 2 13) HT_ rfl rfl ?_
        refine pv 2 33 (mk_ 3 12) HT_ rfl rfl ?_
        refine pv 3 34 (mk_ 4 11) HT_ rfl rfl ?_
        refine pv 4 35 (mk_ 5 10) HT_ rfl rfl ?_
        refine pv 7 38 (bm_ 15 159) HT_ rfl rfl ?_
        refine pv 8 39 (bm_ 15 415) HT_ rfl rfl ?_
        refine pv 9 40 (bm_ 15 927) HT_ rfl rfl ?_
        refine pv 11 42 (bm_ 15 2975) HT_ rfl rfl ?_
        refine tv4 5 36 (bm_ 15 3007) HT_ HW_ rfl rfl hHeld ?_
        refine tv4 10 41 (bm_ 15 4031) HT_ HW_ rfl rfl hHeld ?_
        refine one_ (i := 6) (N := some 37) (mk_ 12 3) rfl rfl (one_of HT_.out kr) (by decide) (fun K hK => ?_)
        refine goes_ Tryz.func28 kr rfl #[.slice A0 l0.length c0, .agg #[.int .i64 ((rd_T30 t329 x7_1).f0), .int .i64 ((rd_T30 t329 x7_1).f1)]] (by rfl) rfl rfl lz ?_
        with_reducible refine (spec_UsesOf.calls k2 _ _ l0 ((rd_T30 t329 x7_1).f0) ((rd_T30 t329 x7_1).f1) t335 _ ?side1 ?side2 A22.out).mono ?_
        (case side1 => exact cz (Kd.C_below HR0.out HB.out))
        (case side2 => exact HC0.out)
        rintro e w28 ⟨v336, rfl, ho0, hb⟩
        have HS0_ := (hb.cell (World.block_lt_of_cell? _ _ (hHeld.1))).trans (hHeld.1)
        have HS1_ := (hb.cell (World.block_lt_of_cell? _ _ (hHeld.2.1))).trans (hHeld.2.1)
        have HS2_ := (hb.cell (World.block_lt_of_cell? _ _ (hHeld.2.2.1))).trans (hHeld.2.2.1)
        have HS3_ := (hb.cell (World.block_lt_of_cell? _ _ (hHeld.2.2.2))).trans (hHeld.2.2.2)
        refine ⟨_, rfl, ?_⟩
        have n0_ := qz HO_3 hb
        have n1_ := qz HO_4 hb
        have n2_ := qz HO_5 hb
        have n3_ := am (Kd.R_lower ho0 (below_size (bz0 HB.out)))
        have n4_ := am (below_step (bz0 HB.out) hb)
        clear HO_3
        clear HO_4
        clear HO_5
        clear HB
        have HO_3 := n0_
        have HO_4 := n1_
        have HO_5 := n2_
        have HO337 := n3_
        have HB := n4_
        clear n0_ n1_ n2_ n3_ n4_
        (try clear hb)
        (try clear hb2)
        (try clear hk)
        (try clear hi)
        (try clear ho0)
        refine hK.out _ _ ⟨HS0_, HS1_, HS2_, HS3_⟩ (fun hHeld => ?_)
        clear hK K
        refine norm_ (a' := ?_) ?_ ?_
        rotate_left
        ·show Act.put _ (some 37) _ = _
         simp only [Act.put, sz1, sz2, sz3, i64_w, i32_w]
         rfl
        refine one_ (i := 12) (N := some 43) (mk_ 13 2) rfl rfl (one_of HT_.out kr) (by decide) (fun K hK => ?_)
        refine goes_ Tryz.func64 kr rfl #[.int .i64 x6_2] (by rfl) rfl rfl lz ?_
        with_reducible refine (spec_FreshName.calls k2 x6_2 t339 _ A23.out).mono ?_
        rintro e w29 ⟨rfl, hb⟩
        have HS0_ := (hb.cell (World.block_lt_of_cell? _ _ (hHeld.1))).trans (hHeld.1)
        have HS1_ := (hb.cell (World.block_lt_of_cell? _ _ (hHeld.2.1))).trans (hHeld.2.1)
        have HS2_ := (hb.cell (World.block_lt_of_cell? _ _ (hHeld.2.2.1))).trans (hHeld.2.2.1)
        have HS3_ := (hb.cell (World.block_lt_of_cell? _ _ (hHeld.2.2.2))).trans (hHeld.2.2.2)
        refine ⟨_, rfl, ?_⟩
        have n0_ := qz HO_3 hb
        have n1_ := qz HO_4 hb
        have n2_ := qz HO_5 hb
        have n3_ := qz HO337 hb
        have n4_ := am (below_step (bz0 HB.out) hb)
        clear HO_3
        clear HO_4
        clear HO_5
        clear HO337
        clear HB
        have HO_3 := n0_
        have HO_4 := n1_
        have HO_5 := n2_
        have HO337 := n3_
        have HB := n4_
        clear n0_ n1_ n2_ n3_ n4_
        (try clear hb)
        (try clear hb2)
        (try clear hk)
        (try clear hi)
        obtain ⟨Ao30, co30, eo30⟩ := Kd.R_slice HO_3.out
        (first | subst eo30 | (injection eo30 with f1_ f2_ f3_; have f4_ := f1_.symm; have f5_ := f3_.symm; clear f1_ f2_ f3_; subst f4_; subst f5_))
        obtain ⟨Ao31, co31, eo31⟩ := Kd.R_slice HO337.out
        (first | subst eo31 | (injection eo31 with f1_ f2_ f3_; have f4_ := f1_.symm; have f5_ := f3_.symm; clear f1_ f2_ f3_; subst f4_; subst f5_))
        refine hK.out _ _ ⟨HS0_, HS1_, HS2_, HS3_⟩ (fun hHeld => ?_)
        clear hK K
        refine norm_ (a' := ?_) ?_ ?_
        rotate_left
        ·show Act.put _ (some 43) _ = _
         simp only [Act.put, sz1, sz2, sz3, i64_w, i32_w]
         rfl
        refine one_ (i := 13) (N := some 44) (mk_ 14 1) rfl rfl (one_of HT_.out kr) (by decide) (fun K hK => ?_)
        refine goes_ Tryz.func27 kr rfl #[.slice Ao30 x3_1.length co30, .slice Ao31 t335.length co31, .agg #[.int .i64 ((rd_T30 t329 x7_1).f0), .int .i64 ((rd_T30 t329 x7_1).f1)], .string t339] (by rfl) rfl rfl lz ?_
        with_reducible refine (spec_l7Set.calls k2 (fun k_ => some k_ = (.slice Ao30 x3_1.length co30 : Value).ownBlock) (.slice Ao30 x3_1.length co30) x3_1 _ _ t335 ((rd_T30 t329 x7_1).f0) ((rd_T30 t329 x7_1).f1) t339 t340 w _ ?side1 ?side2 ?side3 ?side4 A24.out).mono ?_
        (case side1 => repeat (first | (with_reducible first | exact HB.out | apply below_alloc | apply pw_below_drewN | apply below_drew1) | exact HB.out))
        (case side2 => exact Kd.R_tight rfl HO_3.out)
        (case side3 => exact Kd.C_kept_own ((Kd.R_apart' HO337.out (Kd.R_typed HO_3.out) (by decide))) (fun k_ hk_ hs_ => by with_reducible first | exact absurd hs_ hk_.2 | exact absurd hs_ hk_ | exact absurd hs_ hk_.1 | exact absurd hs_ hk_.2 | exact absurd hs_ hk_.1.1 | exact absurd hs_ hk_.1.2))
        (case side4 => exact (Kd.R_reads' HO337.out).2.1)
        rintro e w32 ⟨v341, rfl, ho0, hb, hkp⟩
        have HS0_ := cell_kept (hHeld.1) hkp (by first | (rw [add_block]; exact (fun hs_ => ((((Kd.R_apart' HO_5.out (Kd.R_typed HO_3.out) (by decide))).1 _ rfl).2) hs_)) | (show ¬ _; simp only [add_block]; exact (fun hs_ => ((((Kd.R_apart' HO_5.out (Kd.R_typed HO_3.out) (by decide))).1 _ rfl).2) hs_)) | exact (fun hs_ => ((((Kd.R_apart' HO_5.out (Kd.R_typed HO_3.out) (by decide))).1 _ rfl).2) hs_))
        have HS1_ := cell_kept (hHeld.2.1) hkp (by first | (rw [add_block]; exact (fun hs_ => ((((Kd.R_apart' HO_5.out (Kd.R_typed HO_3.out) (by decide))).1 _ rfl).2) hs_)) | (show ¬ _; simp only [add_block]; exact (fun hs_ => ((((Kd.R_apart' HO_5.out (Kd.R_typed HO_3.out) (by decide))).1 _ rfl).2) hs_)) | exact (fun hs_ => ((((Kd.R_apart' HO_5.out (Kd.R_typed HO_3.out) (by decide))).1 _ rfl).2) hs_))
        have HS2_ := cell_kept (hHeld.2.2.1) hkp (by first | (rw [add_block]; exact (fun hs_ => ((((Kd.R_apart' HO_5.out (Kd.R_typed HO_3.out) (by decide))).1 _ rfl).2) hs_)) | (show ¬ _; simp only [add_block]; exact (fun hs_ => ((((Kd.R_apart' HO_5.out (Kd.R_typed HO_3.out) (by decide))).1 _ rfl).2) hs_)) | exact (fun hs_ => ((((Kd.R_apart' HO_5.out (Kd.R_typed HO_3.out) (by decide))).1 _ rfl).2) hs_))
        have HS3_ := cell_kept (hHeld.2.2.2) hkp (by first | (rw [add_block]; exact (fun hs_ => ((((Kd.R_apart' HO_5.out (Kd.R_typed HO_3.out) (by decide))).1 _ rfl).2) hs_)) | (show ¬ _; simp only [add_block]; exact (fun hs_ => ((((Kd.R_apart' HO_5.out (Kd.R_typed HO_3.out) (by decide))).1 _ rfl).2) hs_)) | exact (fun hs_ => ((((Kd.R_apart' HO_5.out (Kd.R_typed HO_3.out) (by decide))).1 _ rfl).2) hs_))
        refine ⟨_, rfl, ?_⟩
        have n0_ := am (Kd.R_mono (ok' := fun k_ => True) (Kd.R_keptB ((Kd.R_apart' HO_4.out (Kd.R_typed HO_3.out) (by decide))) hkp (fun k_ hk_ hs_ => by with_reducible first | exact absurd hs_ hk_.2 | exact absurd hs_ hk_ | exact absurd hs_ hk_.1 | exact absurd hs_ hk_.2 | exact absurd hs_ hk_.1.1 | exact absurd hs_ hk_.1.2)) (fun k_ hk_ => trivial))
        have n1_ := am (Kd.R_mono (ok' := fun k_ => True) (Kd.R_keptB ((Kd.R_apart' HO_5.out (Kd.R_typed HO_3.out) (by decide))) hkp (fun k_ hk_ hs_ => by with_reducible first | exact absurd hs_ hk_.2 | exact absurd hs_ hk_ | exact absurd hs_ hk_.1 | exact absurd hs_ hk_.2 | exact absurd hs_ hk_.1.1 | exact absurd hs_ hk_.1.2)) (fun k_ hk_ => trivial))
        have n2_ := am (Kd.R_mono (ok' := fun k_ => True) (Kd.R_keptB ((Kd.R_apart' HO337.out (Kd.R_typed HO_3.out) (by decide))) hkp (fun k_ hk_ hs_ => by with_reducible first | exact absurd hs_ hk_.2 | exact absurd hs_ hk_ | exact absurd hs_ hk_.1 | exact absurd hs_ hk_.2 | exact absurd hs_ hk_.1.1 | exact absurd hs_ hk_.1.2)) (fun k_ hk_ => trivial))
        have n3_ := am (Kd.R_mono (ok' := fun k_ => True) ho0 (fun k_ hk_ => trivial))
        have n4_ := am (hb)
        clear HO_4
        clear HO_5
        clear HO337
        clear HB
        clear HO_3
        have HO_4 := n0_
        have HO_5 := n1_
        have HO337 := n2_
        have HO342 := n3_
        have HB := n4_
        clear n0_ n1_ n2_ n3_ n4_
        (try clear hb)
        (try clear hkp)
        (try clear ho0)
        refine hK.out _ _ ⟨HS0_, HS1_, HS2_, HS3_⟩ (fun hHeld => ?_)
        clear hK K
        refine norm_ (a' := ?_) ?_ ?_
        rotate_left
        ·show Act.put _ (some 44) _ = _
         simp only [Act.put, sz1, sz2, sz3, i64_w, i32_w]
         rfl
        refine pv 14 3 (mk_ 15 0) HT_ rfl rfl ?_
        refine done_ (done_of HT_.out kr) ?_
        try go_wp2
        go_roundg k2
        case measure => have := HK1.out; have := HK2.out; omega
        case rel => exact ⟨(t340), (wrap64 (x6_2 + 1)), (wrap64 (x7_1 + 1)), ez, ez, H', ⟨by have := HK1.out; have := HK2.out; omega⟩, ⟨by refine rq ?_; exact HO342.out⟩, ⟨by refine rq ?_; exact HO_4.out⟩, ⟨by refine rq ?_; exact HO_5.out⟩, ⟨(bz0 HB.out)⟩⟩
    ·rw [if_neg c13] at H
     have c13b0 := decide_eq_false c13
     clear c13
     obtain rfl := Option.some.inj H
     obtain ⟨Ao33, co33, eo33⟩ := Kd.R_slice HO_5.out
     subst eo33
     go_wp2
     go_ret
     exact ⟨_, gz, by refine rq ?_; exact HO_3.out, (bz0 HB.out)⟩
 ·replace c4 := Bool.eq_false_iff.mpr c4
  subst c4
  have H1 := hq H
  clear H
  have H := H1
  clear H1
  obtain ⟨y323, hy323⟩ : ∃ y_ : List (S45), y_ = (([] : List (S45))) := ⟨_, rfl⟩
  replace H : (some y323) = some r := yz hy323 H
  have Ny323 := am hy323
  clear hy323
  obtain rfl := Option.some.inj H
  go_enter Tryz.func43, Tryz.ntmps43
  go_wp2_with (first | ((with_reducible refine gate_dst (N := 8) rfl ?_); refine Kd.R_lit k45 _ 45 ?hg (N := 8) ?hd (xs := ([] : List (S45))) (inner := []) (ok := fun _ => True) (okp := fun _ => True) ?hr ?hp (fun _ hk => hk) trivial (Below.refl _ _) (Nat.le_refl _) (by simp) ?_; (case hd => rfl); (case hg => rfl); (case hr => exact vz); (case hp => exact (Reps.none _ _)); intro v317 w34 ho35 hb hg_ hnew_; clear hg_ hnew_; (first | rw [<- Ny316.out] at ho35 | (simp only [Int.reduceToNat] at ho35; rw [<- Ny316.out] at ho35)); have HO318 := am (Kd.R_lower ho35 (below_size (bz0 HB.out))); replace HB := bs (bz0 HB.out) hb; clear hb ho35) | ((with_reducible refine gate_builtin (b := .append) (xs := #[.tmp 8, .tmp 9]) rfl ?_); at_builtin; refine Kd.R_append_rows k45 (w0 := w) w.heap.size rfl (.tmp 8) (.tmp 9) 26 45 (.agg #[(.int .i64 0), (.int .i64 0), (.int .i64 0), (.int .i64 0), (.int .i64 0), (.string ⟨#[]⟩), (.string ⟨#[]⟩)]) 72 rfl Tryz.underlying26 info45 rfl (by decide) (by omega) v317 y316 l0 _ _ _ (fun _ => True) (fun _ => False) rfl rfl ?aO ?aR (fun _ _ h => h) (fun _ h => h.elim) ?aF ?aB ?aS ?aL ?_; (case aR => exact cz (Kd.C_below HR0.out HB.out)); (case aB => exact (bz0 HB.out)); (case aF => exact (fun _ _ => trivial)); (case aO => exact (rz HO318.out)); (case aS => exact (below_size (bz0 HB.out))); (case aL => have := LMc2.out; omega); intro v320 w36 ho hb hg hat; rw [<- Ny319.out] at ho; have n0_ := am (hb); have n1_ := am (ho); clear HB; clear HO318; have HB := n0_; have HO321 := n1_; clear n0_ n1_; clear ho hb hg hat) | ((with_reducible refine gate_callee (f := 15) rfl ?_); refine goesL_ (some 12) rfl rfl Tryz.func15 kr rfl #[.slice A0 l0.length c0] rfl lz ?_; (with_reducible refine (spec_NodesOk.calls k _ _ l0 false _ ?side1 ?side2 A3.out).mono ?_); (case side1 => exact cz (Kd.C_below HR0.out HB.out)); (case side2 => exact HC0.out); rintro e w37 ⟨rfl, hb⟩; refine ⟨_, rfl, ?_⟩; replace HO321 := qz HO321 hb; replace HB := bs (bz0 HB.out) hb; (try clear hb); (try clear hk); (try clear hi)) | ((with_reducible refine gate_dst (N := 14) rfl ?_); refine Kd.R_lit k45 _ 45 ?hg (N := 14) ?hd (xs := ([] : List (S45))) (inner := []) (ok := fun _ => True) (okp := fun _ => True) ?hr ?hp (fun _ hk => hk) trivial (Below.refl _ _) (Nat.le_refl _) (by simp) ?_; (case hd => rfl); (case hg => rfl); (case hr => exact vz); (case hp => exact (Reps.none _ _)); intro v324 w38 ho39 hb hg_ hnew_; clear hg_ hnew_; (first | rw [<- Ny323.out] at ho39 | (simp only [Int.reduceToNat] at ho39; rw [<- Ny323.out] at ho39)); have HO325 := am (Kd.R_lower (Kd.R_new' ho39 (Kd.R_lt (rz HO321.out))) (below_size (bz0 HB.out))); replace HO321 := am (Kd.R_elder' (rz HO321.out) (Kd.R_base ho39) hb); replace HB := bs (bz0 HB.out) hb; clear hb ho39))
  go_ret
  exact ⟨_, gz, by refine rq ?_; exact Kd.R_mono HO325.out (fun _ hk => trivial), (bz0 HB.out)⟩
def spec_AlphaSame.f (k : Nat) (l0 : List (S45)) (l1 : List (S45)) : Option (Bool) := (spec_NodesOk.f k l0).bind fun t343 => (if t343 = true then ((spec_NodesOk.f k l1).bind fun t344 => (if t344 = true then ((spec_Canon.f k l0).bind fun t345 => ((spec_Canon.f k l1).bind fun t348 => ((spec_SameNodes.f k t345 t348).bind fun t351 => (some t351)))) else (some false))) else (some false))
theorem spec_AlphaSame.mono : ∀ a0 a1 k, LeO (spec_AlphaSame.f k a0 a1) (spec_AlphaSame.f (k + 1) a0 a1) := by
 intro a0 a1 k
 unfold spec_AlphaSame.f
 with_reducible repeat' first | exact spec_Canon.mono _ _ | exact spec_NodesOk.mono _ _ | exact spec_SameNodes.mono _ _ _ | exact lrz _ | exact lnz _ | refine liz ?_ ?_ | refine lbz ?_ fun _ => ?_
set_option maxHeartbeats 8000000 in
set_option maxRecDepth 100000 in
theorem spec_AlphaSame.calls (k : Nat) (A0 : Option Addr) (c0 : Nat) (l0 : List (S45)) (A1 : Option Addr) (c1 : Nat) (l1 : List (S45)) (r : Bool) (w : World) (hr0 : Kd.C k45 w A0 l0.length l0) (hc0 : l0.length <= c0) (hr1 : Kd.C k45 w A1 l1.length l1) (hc1 : l1.length <= c1) (h : spec_AlphaSame.f k l0 l1 = some r) :
  Calls Tryz.prog 17 #[.slice A0 l0.length c0, .slice A1 l1.length c1] w fun e w' => e = .returned (.bool r) /\ Below w.heap.size w w' := by
 have HR0 := am hr0
 have HC0 := am hc0
 clear hr0 hc0
 have HR1 := am hr1
 have HC1 := am hc1
 clear hr1 hc1
 have HB := am (Below.refl w.heap.size w)
 have H : ((spec_NodesOk.f k l0).bind fun t343 => (if t343 = true then ((spec_NodesOk.f k l1).bind fun t344 => (if t344 = true then ((spec_Canon.f k l0).bind fun t345 => ((spec_Canon.f k l1).bind fun t348 => ((spec_SameNodes.f k t345 t348).bind fun t351 => (some t351)))) else (some false))) else (some false))) = some r := h
 clear h
 replace H := bi H
 obtain ⟨t343, A30, H⟩ := H
 try dsimp only at H
 have A3 := am A30
 clear A30
 by_cases c4 : t343 = true
 ·subst c4
  have H1 := hp H
  clear H
  have H := H1
  clear H1
  replace H := bi H
  obtain ⟨t344, A50, H⟩ := H
  try dsimp only at H
  have A5 := am A50
  clear A50
  by_cases c6 : t344 = true
  ·subst c6
   have H1 := hp H
   clear H
   have H := H1
   clear H1
   replace H := bi H
   obtain ⟨t345, A70, H⟩ := H
   try dsimp only at H
   have A7 := am A70
   clear A70
   replace H := bi H
   obtain ⟨t348, A80, H⟩ := H
   try dsimp only at H
   have A8 := am A80
   clear A80
   replace H := bi H
   obtain ⟨t351, A90, H⟩ := H
   try dsimp only at H
   have A9 := am A90
   clear A90
   obtain rfl := Option.some.inj H
   go_enter Tryz.func17, Tryz.ntmps17
   go_wp2_with (first | ((with_reducible refine gate_callee (f := 15) rfl ?_); refine goesL_ (some 6) rfl rfl Tryz.func15 kr rfl #[.slice A0 l0.length c0] rfl lz ?_; (with_reducible refine (spec_NodesOk.calls k _ _ l0 true _ ?side1 ?side2 A3.out).mono ?_); (case side1 => repeat (first | exact HR0.out | (with_reducible refine Kd.C_alloc ?_ _) | (with_reducible refine Kd.C_drewN ?_ _) | (with_reducible refine Kd.C_drew ?_))); (case side2 => exact HC0.out); rintro e w10 ⟨rfl, hb⟩; refine ⟨_, rfl, ?_⟩; replace HB := bs (bz0 HB.out) hb; (try clear hb); (try clear hi)) | (go_at_call 15; (with_reducible refine (spec_NodesOk.calls k _ _ l1 true _ ?side1 ?side2 A5.out).mono ?_); (case side1 => exact cz (Kd.C_below HR1.out HB.out)); (case side2 => exact HC1.out); rintro e w11 ⟨rfl, hb⟩; replace HB := bs (bz0 HB.out) hb; (try clear hb); (try clear hi)) | (go_at_call 43; (with_reducible refine (spec_Canon.calls k _ _ l0 t345 _ ?side1 ?side2 A7.out).mono ?_); (case side1 => exact cz (Kd.C_below HR0.out HB.out)); (case side2 => exact HC0.out); rintro e w12 ⟨v346, rfl, ho0, hb⟩; have HO347 := am (Kd.R_lower ho0 (below_size (bz0 HB.out))); replace HB := bs (bz0 HB.out) hb; (try clear hb); (try clear ho0)) | (go_at_call 43; (with_reducible refine (spec_Canon.calls k _ _ l1 t348 _ ?side1 ?side2 A8.out).mono ?_); (case side1 => exact cz (Kd.C_below HR1.out HB.out)); (case side2 => exact HC1.out); rintro e w13 ⟨v349, rfl, ho0, hb⟩; have HO350 := am (Kd.R_lower (Kd.R_new' ho0 (Kd.R_lt (rz HO347.out))) (below_size (bz0 HB.out))); replace HO347 := am (Kd.R_elder' (rz HO347.out) (Kd.R_base ho0) hb); replace HB := bs (bz0 HB.out) hb; (try clear hb); (try clear ho0); obtain ⟨Ao14, co14, eo14⟩ := Kd.R_slice HO347.out; subst eo14; obtain ⟨Ao15, co15, eo15⟩ := Kd.R_slice HO350.out; subst eo15) | (go_at_call 42; (with_reducible refine (spec_SameNodes.calls k _ _ t345 _ _ t348 t351 _ ?side1 ?side2 ?side3 ?side4 A9.out).mono ?_); (case side1 => exact cz (Kd.R_reads' HO347.out).2.2); (case side2 => exact (Kd.R_reads' HO347.out).2.1); (case side3 => exact cz (Kd.R_reads' HO350.out).2.2); (case side4 => exact (Kd.R_reads' HO350.out).2.1); rintro e w' ⟨rfl, ⟨nd, rfl⟩⟩))
   go_ret
   exact ⟨gz, (bz0 HB.out)⟩
  ·replace c6 := Bool.eq_false_iff.mpr c6
   subst c6
   have H1 := hq H
   clear H
   have H := H1
   clear H1
   obtain rfl := Option.some.inj H
   go_enter Tryz.func17, Tryz.ntmps17
   go_wp2_with (first | ((with_reducible refine gate_callee (f := 15) rfl ?_); refine goesL_ (some 6) rfl rfl Tryz.func15 kr rfl #[.slice A0 l0.length c0] rfl lz ?_; (with_reducible refine (spec_NodesOk.calls k _ _ l0 true _ ?side1 ?side2 A3.out).mono ?_); (case side1 => repeat (first | exact HR0.out | (with_reducible refine Kd.C_alloc ?_ _) | (with_reducible refine Kd.C_drewN ?_ _) | (with_reducible refine Kd.C_drew ?_))); (case side2 => exact HC0.out); rintro e w16 ⟨rfl, hb⟩; refine ⟨_, rfl, ?_⟩; replace HB := bs (bz0 HB.out) hb; (try clear hb); (try clear hi)) | (go_at_call 15; (with_reducible refine (spec_NodesOk.calls k _ _ l1 false _ ?side1 ?side2 A5.out).mono ?_); (case side1 => exact cz (Kd.C_below HR1.out HB.out)); (case side2 => exact HC1.out); rintro e w17 ⟨rfl, hb⟩; replace HB := bs (bz0 HB.out) hb; (try clear hb); (try clear hi)))
   go_ret
   exact ⟨gz, (bz0 HB.out)⟩
 ·replace c4 := Bool.eq_false_iff.mpr c4
  subst c4
  have H1 := hq H
  clear H
  have H := H1
  clear H1
  obtain rfl := Option.some.inj H
  go_enter Tryz.func17, Tryz.ntmps17
  go_wp2_with (first | ((with_reducible refine gate_callee (f := 15) rfl ?_); refine goesL_ (some 6) rfl rfl Tryz.func15 kr rfl #[.slice A0 l0.length c0] rfl lz ?_; (with_reducible refine (spec_NodesOk.calls k _ _ l0 false _ ?side1 ?side2 A3.out).mono ?_); (case side1 => repeat (first | exact HR0.out | (with_reducible refine Kd.C_alloc ?_ _) | (with_reducible refine Kd.C_drewN ?_ _) | (with_reducible refine Kd.C_drew ?_))); (case side2 => exact HC0.out); rintro e w18 ⟨rfl, hb⟩; refine ⟨_, rfl, ?_⟩; replace HB := bs (bz0 HB.out) hb; (try clear hb); (try clear hi)))
  go_ret
  exact ⟨gz, (bz0 HB.out)⟩
end Go.Proofs.YtdjamdnjkdllgaaGreatDoor.PFnExactRenameOne
