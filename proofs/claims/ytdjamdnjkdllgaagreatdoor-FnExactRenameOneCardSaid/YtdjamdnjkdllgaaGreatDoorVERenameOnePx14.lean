/- PFnExactRenameOnex14, of the words and walks that the law FnExactRenameOne needs; made by this session's program out of printed texts. -/

import Derived.Test.YtdjamdnjkdllgaaGreatDoorVERenameOnePx0
import Derived.Test.YtdjamdnjkdllgaaGreatDoorVERenameOnePx1
import Derived.Test.YtdjamdnjkdllgaaGreatDoorVERenameOnePx3
import Derived.Test.YtdjamdnjkdllgaaGreatDoorVERenameOnePx7
import Derived.Test.YtdjamdnjkdllgaaGreatDoorVERenameOnePx8
import Derived.Test.YtdjamdnjkdllgaaGreatDoorVERenameOnePx11
import Derived.Test.YtdjamdnjkdllgaaGreatDoorVERenameOnePx13
namespace Go.Proofs.YtdjamdnjkdllgaaGreatDoor.PFnExactRenameOne
open Go.RowKit Go.Proofs.YtdjamdnjkdllgaaGreatDoorW.PrintWords Go.Proofs.YtdjamdnjkdllgaaGreatDoorW.PrintLast Go.Proofs.YtdjamdnjkdllgaaGreatDoorW.PrintMore
attribute [local go_sem] max2_int min2_int max_two min_two max_three min_three max_four min_four
set_option linter.unusedVariables false
set_option linter.unusedSimpArgs false
attribute [local go_sem high] eqA30
mutual
def spec_RenameOne.l0 : Nat -> List (S45) -> ByteArray -> List (S45) -> Bool -> List (S30) -> Int -> Int -> Int -> Option ((List (S45)) × Bool)
 | 0, _, _, _, _, _, _, _, _ => none
 | k + 1, x0, x2, x8, x9, x10, x11, x353000, x353001 => if x11 < (x10.length : Int) then (if x9 = true then (spec_RenameOne.l0 k x0 x2 x8 true x10 (wrap64 (x11 + 1)) x353000 x353001) else (if 0 <= x11 then (spec_RenameOne.l0 k x0 x2 x8 (((rd_T30 x10 x11).f0) == x353000 && (((rd_T30 x10 x11).f1) == x353001)) x10 (wrap64 (x11 + 1)) x353000 x353001) else (none))) else (if x9 = true then ((spec_l3Name.f k x2).bind fun t363 => (spec_RenameOne.j1 k x0 x2 x8 (!t363) x353000 x353001)) else (spec_RenameOne.j1 k x0 x2 x8 true x353000 x353001))
def spec_RenameOne.j1 : Nat -> List (S45) -> ByteArray -> List (S45) -> Bool -> Int -> Int -> Option ((List (S45)) × Bool)
 | 0, _, _, _, _, _, _ => none
 | k + 1, x0, x2, x8, x38, x353000, x353001 => if x38 = true then ((some (([] : List (S45)) : List (S45))).bind fun y364 => (if y364.length + x0.length < 1954687338268 then (some ((y364 ++ x0), false)) else (none))) else ((spec_UsesOf.f k x0 x353000 x353001).bind fun t370 => ((spec_l7Set.f k x8 t370 x353000 x353001 x2).bind fun t373 => ((spec_AlphaSame.f k x0 t373).bind fun t376 => (if t376 = true then (some (t373, true)) else ((some (([] : List (S45)) : List (S45))).bind fun y377 => (if y377.length + x0.length < 1954687338268 then (some ((y377 ++ x0), false)) else (none)))))))
end
def spec_RenameOne.f (k : Nat) (l0 : List (S45)) (a1_0 : Int) (a1_1 : Int) (a2 : ByteArray) : Option ((List (S45)) × Bool) := (some (([] : List (S45)) : List (S45))).bind fun y353 => (if y353.length + l0.length < 1954687338268 then ((spec_Sites.f k l0).bind fun t359 => (spec_RenameOne.l0 k l0 a2 (y353 ++ l0) false t359 0 a1_0 a1_1)) else (none))
theorem spec_RenameOne.mono_l : ∀ k, (∀ y0 y1 y2 y3 y4 y5 y6 y7, LeO (spec_RenameOne.l0 k y0 y1 y2 y3 y4 y5 y6 y7) (spec_RenameOne.l0 (k + 1) y0 y1 y2 y3 y4 y5 y6 y7)) /\ (∀ y0 y1 y2 y3 y4 y5, LeO (spec_RenameOne.j1 k y0 y1 y2 y3 y4 y5) (spec_RenameOne.j1 (k + 1) y0 y1 y2 y3 y4 y5))
 | 0 => ⟨fun _ _ _ _ _ _ _ _ r h => by simp [spec_RenameOne.l0] at h, fun _ _ _ _ _ _ r h => by simp [spec_RenameOne.j1] at h⟩
 | k + 1 => by
  obtain ⟨ih0, ih1⟩ := spec_RenameOne.mono_l k
  refine ⟨?_, ?_⟩
  ·intro y0 y1 y2 y3 y4 y5 y6 y7
   unfold spec_RenameOne.l0
   with_reducible repeat' first | exact ih0 _ _ _ _ _ _ _ _ | exact ih1 _ _ _ _ _ _ | exact spec_AlphaSame.mono _ _ _ | exact spec_Sites.mono _ _ | exact spec_UsesOf.mono _ _ _ _ | exact spec_l3Name.mono _ _ | exact spec_l7Set.mono _ _ _ _ _ _ | exact lrz _ | exact lnz _ | refine liz ?_ ?_ | refine lbz ?_ fun _ => ?_
  ·intro y0 y1 y2 y3 y4 y5
   unfold spec_RenameOne.j1
   with_reducible repeat' first | exact ih0 _ _ _ _ _ _ _ _ | exact ih1 _ _ _ _ _ _ | exact spec_AlphaSame.mono _ _ _ | exact spec_Sites.mono _ _ | exact spec_UsesOf.mono _ _ _ _ | exact spec_l3Name.mono _ _ | exact spec_l7Set.mono _ _ _ _ _ _ | exact lrz _ | exact lnz _ | refine liz ?_ ?_ | refine lbz ?_ fun _ => ?_
theorem spec_RenameOne.mono : ∀ a0 a1 a2 a3 k, LeO (spec_RenameOne.f k a0 a1 a2 a3) (spec_RenameOne.f (k + 1) a0 a1 a2 a3) := by
 intro a0 a1 a2 a3 k
 obtain ⟨ih0, ih1⟩ := spec_RenameOne.mono_l k
 unfold spec_RenameOne.f
 with_reducible repeat' first | exact ih0 _ _ _ _ _ _ _ _ | exact ih1 _ _ _ _ _ _ | exact spec_AlphaSame.mono _ _ _ | exact spec_Sites.mono _ _ | exact spec_UsesOf.mono _ _ _ _ | exact spec_l3Name.mono _ _ | exact spec_l7Set.mono _ _ _ _ _ _ | exact lrz _ | exact lnz _ | refine liz ?_ ?_ | refine lbz ?_ fun _ => ?_
def spec_RenameOne.T7 : Bool × List (List Nat × List Nat) := (true, [([], []), ([0], [0]), ([1], [1]), ([1], [1]), ([2, 3, 1], [1, 2, 3]), ([4, 1], [1, 4]), ([1], [1]), ([5, 6, 1], [1, 5, 6]), ([1, 7], [1, 7]), ([8, 1, 0, 1, 2, 3, 4, 5, 6, 7, 8], [0, 8])])
def spec_RenameOne.B7 : List Nat := [0, 1, 3, 3, 15, 31, 3, 127, 255, 511]
theorem spec_RenameOne.tab7 : rtab .any (opsOf Tryz.f6 7) = spec_RenameOne.T7 := by kernel_rfl
theorem spec_RenameOne.bits7 : waitsOk spec_RenameOne.T7.2 spec_RenameOne.B7 = true := by kernel_rfl
def spec_RenameOne.T10 : Bool × List (List Nat × List Nat) := (true, [([], []), ([], []), ([], []), ([1, 2], [1, 2]), ([], []), ([], []), ([0, 3, 4, 5, 3], [0, 3, 4, 5]), ([6, 6, 0, 1, 2, 3, 4, 5, 6], [0, 6])])
def spec_RenameOne.B10 : List Nat := [0, 0, 0, 6, 0, 0, 63, 127]
theorem spec_RenameOne.tab10 : rtab .any (opsOf Tryz.f6 10) = spec_RenameOne.T10 := by kernel_rfl
theorem spec_RenameOne.bits10 : waitsOk spec_RenameOne.T10.2 spec_RenameOne.B10 = true := by kernel_rfl
set_option maxHeartbeats 8000000 in
set_option maxRecDepth 100000 in
theorem spec_RenameOne.calls (k : Nat) (A0 : Option Addr) (c0 : Nat) (l0 : List (S45)) (a1_0 : Int) (a1_1 : Int) (a2 : ByteArray) (r1 : List (S45)) (r2 : Bool) (w : World) (hr0 : Kd.C k45 w A0 l0.length l0) (hc0 : l0.length <= c0) (h : spec_RenameOne.f k l0 a1_0 a1_1 a2 = some (r1, r2)) :
  Calls Tryz.prog 6 #[.slice A0 l0.length c0, .agg #[.int .i64 a1_0, .int .i64 a1_1], .string a2] w fun e w' => ∃ v0_ : Value, e = .returned (.tuple #[v0_, .bool r2]) /\ Kd.R k45 45 w' w.heap.size (fun _ => True) v0_ r1 /\ Below w.heap.size w w' := by
 have hu30 := Tryz.underlying30
 have HR0 := am hr0
 have HC0 := am hc0
 clear hr0 hc0
 have HB := am (Below.refl w.heap.size w)
 have H : ((some (([] : List (S45)) : List (S45))).bind fun y353 => (if y353.length + l0.length < 1954687338268 then ((spec_Sites.f k l0).bind fun t359 => (spec_RenameOne.l0 k l0 a2 (y353 ++ l0) false t359 0 a1_0 a1_1)) else (none))) = some (r1, r2) := h
 clear h
 obtain ⟨y353, hy353⟩ : ∃ y_ : List (S45), y_ = (([] : List (S45))) := ⟨_, rfl⟩
 replace H : (if y353.length + l0.length < 1954687338268 then ((spec_Sites.f k l0).bind fun t359 => (spec_RenameOne.l0 k l0 a2 (y353 ++ l0) false t359 0 a1_0 a1_1)) else (none)) = some (r1, r2) := yz hy353 H
 have Ny353 := am hy353
 clear hy353
 replace H := iz H
 obtain ⟨c4, H⟩ := H
 have LMc4 := am c4
 clear c4
 obtain ⟨y356, hy356⟩ : ∃ y_ : List (S45), y_ = (y353 ++ l0) := ⟨_, rfl⟩
 replace H : ((spec_Sites.f k l0).bind fun t359 => (spec_RenameOne.l0 k l0 a2 y356 false t359 0 a1_0 a1_1)) = some (r1, r2) := yz hy356 H
 have Ny356 := am hy356
 clear hy356
 replace H := bi H
 obtain ⟨t359, A50, H⟩ := H
 try dsimp only at H
 have A5 := am A50
 clear A50
 have H' := am H
 clear H
 go_enter Tryz.func6, Tryz.ntmps6
 go_wp2_with (first | ((with_reducible refine gate_dst (N := 4) rfl ?_); refine box_event ?hg (N := 4) ?hd (cs := #[.int .i64 a1_0, .int .i64 a1_1]) (t := 30) ?hr ?_; (case hd => rfl); (case hg => rfl); (case hr => exact vz); intro gb352 hg w6 hbox hb; have BK352 := am (hbox); have GW352 := am ((by rw [hg]; exact (below_size (bz0 HB.out)) : w.heap.size <= gb352)); have GE352 := GW352; replace HB := bs (bz0 HB.out) hb; clear hb hbox hg) | ((with_reducible refine gate_dst (N := 12) rfl ?_); refine Kd.R_lit k45 _ 45 ?hg (N := 12) ?hd (xs := ([] : List (S45))) (inner := []) (ok := fun _ => True) (okp := fun _ => True) ?hr ?hp (fun _ hk => hk) trivial (Below.refl _ _) (Nat.le_refl _) (by simp) ?_; (case hd => rfl); (case hg => rfl); (case hr => exact vz); (case hp => exact (Reps.none _ _)); intro v354 w7 ho8 hb hg_ hnew_; clear hg_ hnew_; (first | rw [<- Ny353.out] at ho8 | (simp only [Int.reduceToNat] at ho8; rw [<- Ny353.out] at ho8)); have HO355 := am (Kd.R_lower ho8 (below_size (bz1 HB.out GE352.out))); replace BK352 := kb BK352 hb; replace HB := bs (bz1 HB.out GE352.out) hb; clear hb ho8) | ((with_reducible refine gate_builtin (b := .append) (xs := #[.tmp 12, .tmp 13]) rfl ?_); at_builtin; refine Kd.R_append_rows k45 (w0 := w) w.heap.size rfl (.tmp 12) (.tmp 13) 26 45 (.agg #[(.int .i64 0), (.int .i64 0), (.int .i64 0), (.int .i64 0), (.int .i64 0), (.string ⟨#[]⟩), (.string ⟨#[]⟩)]) 72 rfl Tryz.underlying26 info45 rfl (by decide) (by omega) v354 y353 l0 _ _ _ (fun _ => True) (fun _ => False) rfl rfl ?aO ?aR (fun _ _ h => h) (fun _ h => h.elim) ?aF ?aB ?aS ?aL ?_; (case aR => exact cz (Kd.C_below HR0.out HB.out)); (case aB => exact (bz1 HB.out GE352.out)); (case aF => exact (fun _ _ => trivial)); (case aO => exact (rz HO355.out)); (case aS => exact (below_size (bz1 HB.out GE352.out))); (case aL => have := LMc4.out; omega); intro v357 w9 ho hb hg hat; rw [<- Ny356.out] at ho; have n0_ := am (blk_grown (g := gb352) (o := .cells #[.int .i64 a1_0, .int .i64 a1_1] 30 (0, 0)) (kz BK352.out) hg (Kd.R_ne HO355.out BK352.out (by decide))); have n1_ := am (hb); have n2_ := am (ho); clear BK352; clear HB; clear HO355; have BK352 := n0_; have HB := n1_; have HO358 := n2_; clear n0_ n1_ n2_; clear ho hb hg hat) | ((with_reducible refine gate_callee (f := 16) rfl ?_); refine goesL_ (some 16) rfl rfl Tryz.func16 kr rfl #[.slice A0 l0.length c0] rfl lz ?_; (with_reducible refine (spec_Sites.calls k _ _ l0 t359 _ ?side1 ?side2 A5.out).mono ?_); (case side1 => exact cz (Kd.C_below HR0.out HB.out)); (case side2 => exact HC0.out); rintro e w10 ⟨v360, rfl, ho0, hb⟩; refine ⟨_, rfl, ?_⟩; replace HO358 := qz HO358 hb; have HO361 := am (Kd.R_lower (Kd.R_newB ho0 (g := gb352) (o := .cells #[.int .i64 a1_0, .int .i64 a1_1] 30 (0, 0)) (kz BK352.out)) (below_size (bz1 HB.out GE352.out))); replace BK352 := kb BK352 hb; replace HB := bs (bz1 HB.out GE352.out) hb; (try clear hb); (try clear hk); (try clear ho0)))
 (try simp only [Act.put, sz1, sz2, sz3])
 go_loopg [9, 11] k (fun kq v9 v11 w' => ∃ (x9_1 : Bool) (x11_1 : Int), v9 = .bool x9_1 /\ v11 = .int .i64 x11_1 /\ Aside0 (spec_RenameOne.l0 kq l0 a2 y356 x9_1 t359 x11_1 a1_0 a1_1 = some (r1, r2)) /\ Aside0 (kq <= k) /\ Aside0 (Kd.R k45 45 w' w.heap.size (fun _ => True) v357 y356) /\ Aside0 (Kd.R k30 30 w' w.heap.size (fun k_ => k_ ≠ gb352) v360 t359) /\ Aside0 (w'.heap[gb352]? = some (.cells #[.int .i64 a1_0, .int .i64 a1_1] 30 (0, 0))) /\ Aside0 (Below w.heap.size w w'))
 case atStart => exact ⟨(false), (0), ez, ez, H', ⟨Nat.le_refl _⟩, ⟨by refine rq ?_; exact HO358.out⟩, ⟨by refine rq ?_; exact Kd.R_mono HO361.out (fun _ hk => hk.2)⟩, ⟨by refine kq ?_; exact BK352.out⟩, ⟨(bz1 HB.out GE352.out)⟩⟩
 case round =>
  clear H'
  try clear c1
  try clear p2
  try clear c4
  try clear c6
  obtain ⟨x9_1, x11_1, rfl, rfl, HA, HK1, HO_8, HO_10, BK352, HB⟩ := hrel
  cases gk with
  | zero => exact absurd HA.out (by simp [spec_RenameOne.l0])
  | succ k1 =>
   have H := HA.out
   clear HA
   simp only [spec_RenameOne.l0] at H
   by_cases c11 : x11_1 < (t359.length : Int)
   ·rw [if_pos c11] at H
    have c11b0 := decide_eq_true c11
    clear c11
    by_cases c12 : x9_1 = true
    ·subst c12
     have H1 := hp H
     clear H
     have H := H1
     clear H1
     have H' := am H
     clear H
     obtain ⟨Ao13, co13, eo13⟩ := Kd.R_slice HO_10.out
     subst eo13
     try go_wp2
     have n0_ := am (Kd.R_drew HO_8.out)
     have n1_ := am (Kd.R_drew HO_10.out)
     have n2_ := am (blk_drew BK352.out)
     have n3_ := am (below_drew1 HB.out)
     clear HO_8
     clear HO_10
     clear BK352
     clear HB
     have HO_8 := n0_
     have HO_10 := n1_
     have BK352 := n2_
     have HB := n3_
     clear n0_ n1_ n2_ n3_
     refine start_ (n := 10) (S := fun w' => True) (ds := []) (mk_ 0 10) kr rfl rfl trivial (fun hHeld => ?_); refine with_tabW spec_RenameOne.tab7 spec_RenameOne.bits7 (fun HT_ HW_ => ?_)
     generalize wr.drew = w14 at HO_8 HO_10 BK352 HB hHeld ⊢
     refine pv 0 23 (mk_ 1 9) HT_ rfl rfl ?_
     refine pv 1 24 (mk_ 2 8) HT_ rfl rfl ?_
     refine pu 2 25 (mk_ 3 7) HT_ rfl rfl ?_
     refine pu 3 26 (mk_ 4 6) HT_ rfl rfl ?_
     refine pu 4 27 (mk_ 5 5) HT_ rfl rfl ?_
     refine pu 5 28 (mk_ 6 4) HT_ rfl rfl ?_
     refine pu 6 29 (mk_ 7 3) HT_ rfl rfl ?_
     refine pu 7 30 (mk_ 8 2) HT_ rfl rfl ?_
     refine pv 8 31 (mk_ 9 1) HT_ rfl rfl ?_
     refine pv 9 9 (mk_ 10 0) HT_ rfl rfl ?_
     refine done_ (done_of HT_.out kr) ?_
     try go_wp2
     go_roundg k1
     case measure => have := HK1.out; omega
     case rel => exact ⟨(true), (wrap64 (x11_1 + 1)), ez, ez, H', ⟨by have := HK1.out; omega⟩, ⟨by refine rq ?_; exact HO_8.out⟩, ⟨by refine rq ?_; exact HO_10.out⟩, ⟨by refine kq ?_; exact BK352.out⟩, ⟨(bz1 HB.out GE352.out)⟩⟩
    ·replace c12 := Bool.eq_false_iff.mpr c12
     subst c12
     have H1 := hq H
     clear H
     have H := H1
     clear H1
     replace H := iz H
     obtain ⟨c15, H⟩ := H
     have c15b0 := decide_eq_true c15
     clear c15
     have H' := am H
     clear H
     obtain ⟨Ao16, co16, eo16⟩ := Kd.R_slice HO_10.out
     subst eo16
     try go_wp2
     have n0_ := am (Kd.R_drew HO_8.out)
     have n1_ := am (Kd.R_drew HO_10.out)
     have n2_ := am (blk_drew BK352.out)
     have n3_ := am (below_drew1 HB.out)
     clear HO_8
     clear HO_10
     clear BK352
     clear HB
     have HO_8 := n0_
     have HO_10 := n1_
     have BK352 := n2_
     have HB := n3_
     clear n0_ n1_ n2_ n3_
     have p362 : 0 <= (x11_1 : Int) := oz
     have q362 : x11_1 < (t359.length : Int) := oz
     obtain ⟨ad362, e362, hx362_0, hx362_1⟩ := at_T30 (Kd.R_reads' HO_10.out).2.2 x11_1 p362 q362
     cases e362
     replace p362 := eq_true p362
     replace q362 := eq_true q362
     refine start_ (n := 10) (S := fun w' => w'.cell? ⟨gb352, 0, none⟩ = some (.int .i64 a1_0) /\ w'.cell? ⟨gb352, 1, none⟩ = some (.int .i64 a1_1) /\ w'.cell? (ad362.add ((x11_1).toNat * 2)) = some (.int .i64 ((rd_T30 t359 x11_1).f0)) /\ w'.cell? ⟨(ad362.add ((x11_1).toNat * 2)).block, (ad362.add ((x11_1).toNat * 2)).off + 1, none⟩ = some (.int .i64 ((rd_T30 t359 x11_1).f1))) (ds := []) (mk_ 0 10) kr rfl rfl ⟨(blk_cell BK352.out 0).trans rfl, (blk_cell BK352.out 1).trans rfl, hx362_0, hx362_1⟩ (fun hHeld => ?_); refine with_tabW spec_RenameOne.tab7 spec_RenameOne.bits7 (fun HT_ HW_ => ?_)
     generalize wr.drew = w17 at HO_8 HO_10 BK352 HB hx362_0 hx362_1 hHeld ⊢
     refine pv 0 23 (mk_ 1 9) HT_ rfl rfl ?_
     refine pv 1 24 (mk_ 2 8) HT_ rfl rfl ?_
     refine pv 2 25 (mk_ 3 7) HT_ rfl rfl ?_
     refine pv 3 26 (mk_ 4 6) HT_ rfl rfl ?_
     refine pv 4 27 (mk_ 5 5) HT_ rfl rfl ?_
     refine tv4 5 28 (mk_ 6 4) HT_ HW_ rfl rfl hHeld ?_
     refine tv4 6 29 (mk_ 7 3) HT_ HW_ rfl rfl hHeld ?_
     refine pv 7 30 (mk_ 8 2) HT_ rfl rfl ?_
     refine pv 8 31 (mk_ 9 1) HT_ rfl rfl ?_
     refine pv 9 9 (mk_ 10 0) HT_ rfl rfl ?_
     refine done_ (done_of HT_.out kr) ?_
     try go_wp2
     go_roundg k1
     case measure => have := HK1.out; omega
     case rel => exact ⟨((((rd_T30 t359 x11_1).f0) == a1_0 && (((rd_T30 t359 x11_1).f1) == a1_1))), (wrap64 (x11_1 + 1)), ez, ez, H', ⟨by have := HK1.out; omega⟩, ⟨by refine rq ?_; exact HO_8.out⟩, ⟨by refine rq ?_; exact HO_10.out⟩, ⟨by refine kq ?_; exact BK352.out⟩, ⟨(bz1 HB.out GE352.out)⟩⟩
   ·rw [if_neg c11] at H
    have c11b0 := decide_eq_false c11
    clear c11
    have HC18 := am H
    clear H
    obtain ⟨Ao19, co19, eo19⟩ := Kd.R_slice HO_10.out
    subst eo19
    go_upto_region 8 with (fail)
    go_cut [38] (fun v38 wc => ∃ (kq : Nat) (x38_17 : Bool), v38 = .bool x38_17 /\ Aside0 (spec_RenameOne.j1 kq l0 a2 y356 x38_17 a1_0 a1_1 = some (r1, r2)) /\ Aside0 (kq <= k1) /\ Aside0 (Kd.R k45 45 wc w.heap.size (fun _ => True) v357 y356) /\ Aside0 (wc.heap[gb352]? = some (.cells #[.int .i64 a1_0, .int .i64 a1_1] 30 (0, 0))) /\ Aside0 (Below w.heap.size w wc))
    case first =>
     have H := HC18.out
     clear HC18
     by_cases c20 : x9_1 = true
     ·subst c20
      have H1 := hp H
      clear H
      have H := H1
      clear H1
      replace H := bi H
      obtain ⟨t363, A210, H⟩ := H
      try dsimp only at H
      have A21 := am A210
      clear A210
      have H' := am H
      clear H
      go_wp2_with (first | (go_at_call 26; (with_reducible refine (spec_l3Name.calls k1 a2 t363 _ A21.out).mono ?_); rintro e w22 ⟨rfl, hb⟩; replace HO_8 := qz HO_8 hb; replace HO_10 := qz HO_10 hb; replace BK352 := kb BK352 hb; replace HB := bs (bz1 HB.out GE352.out) hb; (try clear hb); (try clear hi)))
      go_meet
      case rel => exact ⟨_, (!t363), ez, H', ⟨by have := HK1.out; first | omega | exact Nat.le_refl _⟩, ⟨by refine rq ?_; exact HO_8.out⟩, ⟨by refine kq ?_; exact BK352.out⟩, ⟨(bz1 HB.out GE352.out)⟩⟩
     ·replace c20 := Bool.eq_false_iff.mpr c20
      subst c20
      have H1 := hq H
      clear H
      have H := H1
      clear H1
      have H' := am H
      clear H
      go_wp2
      go_meet
      case rel => exact ⟨_, (true), ez, H', ⟨by have := HK1.out; first | omega | exact Nat.le_refl _⟩, ⟨by refine rq ?_; exact HO_8.out⟩, ⟨by refine kq ?_; exact BK352.out⟩, ⟨(bz1 HB.out GE352.out)⟩⟩
    case rest =>
     clear HC18
     try clear c1
     try clear c2
     try clear p2
     try clear p3
     try clear q3
     try clear hx3
     try clear c4
     try clear c6
     try clear p6
     try clear c11
     try clear c11b0
     try clear c12
     try clear c15
     try clear c15b0
     try clear c16
     try clear c20
     try clear hx362_0
     try clear hx362_1
     try clear p2
     try clear p362
     try clear q362
     obtain ⟨kq, x38_17, rfl, HA, HJ17, HO_8, BK352, HB⟩ := hcut
     cases kq with
     | zero => exact absurd HA.out (by simp [spec_RenameOne.j1])
     | succ kj17 =>
      have H := HA.out
      clear HA
      simp only [spec_RenameOne.j1] at H
      by_cases c23 : x38_17 = true
      ·subst c23
       have H1 := hp H
       clear H
       have H := H1
       clear H1
       obtain ⟨y364, hy364⟩ : ∃ y_ : List (S45), y_ = (([] : List (S45))) := ⟨_, rfl⟩
       replace H : (if y364.length + l0.length < 1954687338268 then (some ((y364 ++ l0), false)) else (none)) = some (r1, r2) := yz hy364 H
       have Ny364 := am hy364
       clear hy364
       replace H := iz H
       obtain ⟨c24, H⟩ := H
       have LMc24 := am c24
       clear c24
       obtain ⟨y367, hy367⟩ : ∃ y_ : List (S45), y_ = (y364 ++ l0) := ⟨_, rfl⟩
       replace H : (some (y367, false)) = some (r1, r2) := yz hy367 H
       have Ny367 := am hy367
       clear hy367
       simp only [Option.some.injEq, Prod.mk.injEq] at H
       obtain ⟨rfl, rfl⟩ := H
       go_wp2_with (first | ((with_reducible refine gate_dst (N := 39) rfl ?_); refine Kd.R_lit k45 _ 45 ?hg (N := 39) ?hd (xs := ([] : List (S45))) (inner := []) (ok := fun _ => True) (okp := fun _ => True) ?hr ?hp (fun _ hk => hk) trivial (Below.refl _ _) (Nat.le_refl _) (by simp) ?_; (case hd => rfl); (case hg => rfl); (case hr => exact vz); (case hp => exact (Reps.none _ _)); intro v365 w25 ho26 hb hg_ hnew_; clear hg_ hnew_; (first | rw [<- Ny364.out] at ho26 | (simp only [Int.reduceToNat] at ho26; rw [<- Ny364.out] at ho26)); have HO366 := am (Kd.R_lower (Kd.R_new' ho26 (Kd.R_lt (rz HO_8.out))) (below_size (bz1 HB.out GE352.out))); replace HO_8 := am (Kd.R_elder' (rz HO_8.out) (Kd.R_base ho26) hb); replace BK352 := kb BK352 hb; replace HB := bs (bz1 HB.out GE352.out) hb; clear hb ho26) | ((with_reducible refine gate_builtin (b := .append) (xs := #[.tmp 39, .tmp 40]) rfl ?_); at_builtin; refine Kd.R_append_rows k45 (w0 := w) w.heap.size rfl (.tmp 39) (.tmp 40) 26 45 (.agg #[(.int .i64 0), (.int .i64 0), (.int .i64 0), (.int .i64 0), (.int .i64 0), (.string ⟨#[]⟩), (.string ⟨#[]⟩)]) 72 rfl Tryz.underlying26 info45 rfl (by decide) (by omega) v365 y364 l0 _ _ _ (fun k_ => some k_ ≠ (v357 : Value).ownBlock) (fun _ => False) rfl rfl ?aO ?aR (fun _ _ h => h) (fun _ h => h.elim) ?aF ?aB ?aS ?aL ?_; (case aR => exact cz (Kd.C_below HR0.out HB.out)); (case aB => exact (bz1 HB.out GE352.out)); (case aF => exact (fun k_ hk => Kd.fresh' (Kd.R_lt (rz HO_8.out)) k_ hk)); (case aO => exact (by refine rq ?_; exact Kd.R_mono HO366.out (fun _ hk => hk.2))); (case aS => exact (below_size (bz1 HB.out GE352.out))); (case aL => have := LMc24.out; omega); intro v368 w27 ho hb hg hat; rw [<- Ny367.out] at ho; have n0_ := am (Kd.R_after (ok := (fun _ => True)) (rz HO_8.out) hg hat); have n1_ := am (blk_grown (g := gb352) (o := .cells #[.int .i64 a1_0, .int .i64 a1_1] 30 (0, 0)) (kz BK352.out) hg (Kd.R_ne HO366.out BK352.out (by decide))); have n2_ := am (hb); have n3_ := am (ho); clear HO_8; clear BK352; clear HB; clear HO366; have HO_8 := n0_; have BK352 := n1_; have HB := n2_; have HO369 := n3_; clear n0_ n1_ n2_ n3_; clear ho hb hg hat))
       go_ret2
       exact ⟨_, gz, by refine rq ?_; exact Kd.R_mono HO369.out (fun _ hk => trivial), (bz1 HB.out GE352.out)⟩
      ·replace c23 := Bool.eq_false_iff.mpr c23
       subst c23
       have H1 := hq H
       clear H
       have H := H1
       clear H1
       replace H := bi H
       obtain ⟨t370, A280, H⟩ := H
       try dsimp only at H
       have A28 := am A280
       clear A280
       replace H := bi H
       obtain ⟨t373, A290, H⟩ := H
       try dsimp only at H
       have A29 := am A290
       clear A290
       replace H := bi H
       obtain ⟨t376, A300, H⟩ := H
       try dsimp only at H
       have A30 := am A300
       clear A300
       by_cases c31 : t376 = true
       ·subst c31
        have H1 := hp H
        clear H
        have H := H1
        clear H1
        simp only [Option.some.injEq, Prod.mk.injEq] at H
        obtain ⟨rfl, rfl⟩ := H
        try go_wp2
        have n0_ := am (Kd.R_drew HO_8.out)
        have n1_ := am (blk_drew BK352.out)
        have n2_ := am (below_drew1 HB.out)
        clear HO_8
        clear BK352
        clear HB
        have HO_8 := n0_
        have BK352 := n1_
        have HB := n2_
        clear n0_ n1_ n2_
        refine start_ (n := 8) (S := fun w' => w'.cell? ⟨gb352, 0, none⟩ = some (.int .i64 a1_0) /\ w'.cell? ⟨gb352, 1, none⟩ = some (.int .i64 a1_1)) (ds := []) (mk_ 0 8) kr rfl rfl ⟨(blk_cell BK352.out 0).trans rfl, (blk_cell BK352.out 1).trans rfl⟩ (fun hHeld => ?_); refine with_tabW spec_RenameOne.tab10 spec_RenameOne.bits10 (fun HT_ HW_ => ?_)
        generalize wc.drew = w32 at HO_8 BK352 HB hHeld ⊢
        refine pv 0 42 (mk_ 1 7) HT_ rfl rfl ?_
        refine pv 1 43 (mk_ 2 6) HT_ rfl rfl ?_
        refine pv 5 47 (bm_ 8 35) HT_ rfl rfl ?_
        refine tv2 2 44 (bm_ 8 39) HT_ HW_ rfl rfl hHeld ?_
        refine tv2 4 46 (bm_ 8 55) HT_ HW_ rfl rfl hHeld ?_
        refine one_ (i := 3) (N := some 45) (mk_ 6 2) rfl rfl (one_of HT_.out kr) (by decide) (fun K hK => ?_)
        refine goes_ Tryz.func28 kr rfl #[.slice A0 l0.length c0, .agg #[.int .i64 a1_0, .int .i64 a1_1]] (by rfl) rfl rfl lz ?_
        with_reducible refine (spec_UsesOf.calls kj17 _ _ l0 a1_0 a1_1 t370 _ ?side1 ?side2 A28.out).mono ?_
        (case side1 => exact cz (Kd.C_below HR0.out HB.out))
        (case side2 => exact HC0.out)
        rintro e w33 ⟨v371, rfl, ho0, hb⟩
        refine ⟨_, rfl, ?_⟩
        have n0_ := qz HO_8 hb
        have n1_ := am (Kd.R_lower ho0 (below_size (bz1 HB.out GE352.out)))
        have n2_ := am (blk_below (kz BK352.out) hb)
        have n3_ := am (below_step (bz1 HB.out GE352.out) hb)
        clear HO_8
        clear BK352
        clear HB
        have HO_8 := n0_
        have HO372 := n1_
        have BK352 := n2_
        have HB := n3_
        clear n0_ n1_ n2_ n3_
        (try clear hb)
        (try clear hb2)
        (try clear hk)
        (try clear hi)
        (try clear ho0)
        obtain ⟨Ao34, co34, eo34⟩ := Kd.R_slice HO_8.out
        (first | subst eo34 | (injection eo34 with f1_ f2_ f3_; have f4_ := f1_.symm; have f5_ := f3_.symm; clear f1_ f2_ f3_; subst f4_; subst f5_))
        obtain ⟨Ao35, co35, eo35⟩ := Kd.R_slice HO372.out
        (first | subst eo35 | (injection eo35 with f1_ f2_ f3_; have f4_ := f1_.symm; have f5_ := f3_.symm; clear f1_ f2_ f3_; subst f4_; subst f5_))
        refine hK.out _ _ ⟨(blk_cell BK352.out 0).trans rfl, (blk_cell BK352.out 1).trans rfl⟩ (fun hHeld => ?_)
        clear hK K
        refine norm_ (a' := ?_) ?_ ?_
        rotate_left
        ·show Act.put _ (some 45) _ = _
         simp only [Act.put, sz1, sz2, sz3, i64_w, i32_w]
         rfl
        refine one_ (i := 6) (N := some 48) (mk_ 7 1) rfl rfl (one_of HT_.out kr) (by decide) (fun K hK => ?_)
        refine goes_ Tryz.func27 kr rfl #[.slice Ao34 y356.length co34, .slice Ao35 t370.length co35, .agg #[.int .i64 a1_0, .int .i64 a1_1], .string a2] (by rfl) rfl rfl lz ?_
        with_reducible refine (spec_l7Set.calls kj17 (fun k_ => some k_ = (.slice Ao34 y356.length co34 : Value).ownBlock) (.slice Ao34 y356.length co34) y356 _ _ t370 a1_0 a1_1 a2 t373 w _ ?side1 ?side2 ?side3 ?side4 A29.out).mono ?_
        (case side1 => repeat (first | (with_reducible first | exact HB.out | apply below_alloc | apply pw_below_drewN | apply below_drew1 | refine below_set ?_ GE352.out) | exact HB.out))
        (case side2 => exact Kd.R_tight rfl HO_8.out)
        (case side3 => exact Kd.C_kept_own ((Kd.R_apart' HO372.out (Kd.R_typed HO_8.out) (by decide))) (fun k_ hk_ hs_ => by with_reducible first | exact absurd hs_ hk_.2 | exact absurd hs_ hk_ | exact absurd hs_ hk_.1 | exact absurd hs_ hk_.2 | exact absurd hs_ hk_.1.1 | exact absurd hs_ hk_.1.2))
        (case side4 => exact (Kd.R_reads' HO372.out).2.1)
        rintro e w36 ⟨v374, rfl, ho0, hb, hkp⟩
        refine ⟨_, rfl, ?_⟩
        have n0_ := am (blk_kept (kz BK352.out) hkp (fun hs_ => (fun e_ => (Kd.R_ne HO_8.out BK352.out (by decide)) e_) hs_))
        have n1_ := am (Kd.R_mono (ok' := fun k_ => True) (Kd.R_keptB ((Kd.R_apart' HO372.out (Kd.R_typed HO_8.out) (by decide))) hkp (fun k_ hk_ hs_ => by with_reducible first | exact absurd hs_ hk_.2 | exact absurd hs_ hk_ | exact absurd hs_ hk_.1 | exact absurd hs_ hk_.2 | exact absurd hs_ hk_.1.1 | exact absurd hs_ hk_.1.2)) (fun k_ hk_ => trivial))
        have n2_ := am (Kd.R_mono (ok' := fun k_ => True) ho0 (fun k_ hk_ => trivial))
        have n3_ := am (hb)
        clear BK352
        clear HO372
        clear HB
        clear HO_8
        have BK352 := n0_
        have HO372 := n1_
        have HO375 := n2_
        have HB := n3_
        clear n0_ n1_ n2_ n3_
        (try clear hb)
        (try clear hkp)
        (try clear ho0)
        refine hK.out _ _ ⟨(blk_cell BK352.out 0).trans rfl, (blk_cell BK352.out 1).trans rfl⟩ (fun hHeld => ?_)
        clear hK K
        refine norm_ (a' := ?_) ?_ ?_
        rotate_left
        ·show Act.put _ (some 48) _ = _
         simp only [Act.put, sz1, sz2, sz3, i64_w, i32_w]
         rfl
        refine pv 7 8 (mk_ 8 0) HT_ rfl rfl ?_
        refine done_ (done_of HT_.out kr) ?_
        obtain ⟨Ao37, co37, eo37⟩ := Kd.R_slice HO375.out
        subst eo37
        try go_wp2_with (first | ((with_reducible refine gate_callee (f := 17) rfl ?_); refine goesL_ (some 51) rfl rfl Tryz.func17 kr rfl #[.slice A0 l0.length c0, .slice Ao37 t373.length co37] rfl lz ?_; (with_reducible refine (spec_AlphaSame.calls kj17 _ _ l0 _ _ t373 true _ ?side1 ?side2 ?side3 ?side4 A30.out).mono ?_); (case side1 => exact cz (Kd.C_below HR0.out HB.out)); (case side2 => exact HC0.out); (case side3 => exact cz (Kd.R_reads' HO375.out).2.2); (case side4 => exact (Kd.R_reads' HO375.out).2.1); rintro e w38 ⟨rfl, hb⟩; refine ⟨_, rfl, ?_⟩; replace HO372 := qz HO372 hb; replace HO375 := qz HO375 hb; replace BK352 := kb BK352 hb; replace HB := bs (bz1 HB.out GE352.out) hb; (try clear hb); (try clear hi)))
        go_ret2
        exact ⟨_, gz, by refine rq ?_; exact HO375.out, (bz1 HB.out GE352.out)⟩
       ·replace c31 := Bool.eq_false_iff.mpr c31
        subst c31
        have H1 := hq H
        clear H
        have H := H1
        clear H1
        obtain ⟨y377, hy377⟩ : ∃ y_ : List (S45), y_ = (([] : List (S45))) := ⟨_, rfl⟩
        replace H : (if y377.length + l0.length < 1954687338268 then (some ((y377 ++ l0), false)) else (none)) = some (r1, r2) := yz hy377 H
        have Ny377 := am hy377
        clear hy377
        replace H := iz H
        obtain ⟨c39, H⟩ := H
        have LMc39 := am c39
        clear c39
        obtain ⟨y380, hy380⟩ : ∃ y_ : List (S45), y_ = (y377 ++ l0) := ⟨_, rfl⟩
        replace H : (some (y380, false)) = some (r1, r2) := yz hy380 H
        have Ny380 := am hy380
        clear hy380
        simp only [Option.some.injEq, Prod.mk.injEq] at H
        obtain ⟨rfl, rfl⟩ := H
        try go_wp2
        have n0_ := am (Kd.R_drew HO_8.out)
        have n1_ := am (blk_drew BK352.out)
        have n2_ := am (below_drew1 HB.out)
        clear HO_8
        clear BK352
        clear HB
        have HO_8 := n0_
        have BK352 := n1_
        have HB := n2_
        clear n0_ n1_ n2_
        refine start_ (n := 8) (S := fun w' => w'.cell? ⟨gb352, 0, none⟩ = some (.int .i64 a1_0) /\ w'.cell? ⟨gb352, 1, none⟩ = some (.int .i64 a1_1)) (ds := []) (mk_ 0 8) kr rfl rfl ⟨(blk_cell BK352.out 0).trans rfl, (blk_cell BK352.out 1).trans rfl⟩ (fun hHeld => ?_); refine with_tabW spec_RenameOne.tab10 spec_RenameOne.bits10 (fun HT_ HW_ => ?_)
        generalize wc.drew = w40 at HO_8 BK352 HB hHeld ⊢
        refine pv 0 42 (mk_ 1 7) HT_ rfl rfl ?_
        refine pv 1 43 (mk_ 2 6) HT_ rfl rfl ?_
        refine pv 5 47 (bm_ 8 35) HT_ rfl rfl ?_
        refine tv2 2 44 (bm_ 8 39) HT_ HW_ rfl rfl hHeld ?_
        refine tv2 4 46 (bm_ 8 55) HT_ HW_ rfl rfl hHeld ?_
        refine one_ (i := 3) (N := some 45) (mk_ 6 2) rfl rfl (one_of HT_.out kr) (by decide) (fun K hK => ?_)
        refine goes_ Tryz.func28 kr rfl #[.slice A0 l0.length c0, .agg #[.int .i64 a1_0, .int .i64 a1_1]] (by rfl) rfl rfl lz ?_
        with_reducible refine (spec_UsesOf.calls kj17 _ _ l0 a1_0 a1_1 t370 _ ?side1 ?side2 A28.out).mono ?_
        (case side1 => exact cz (Kd.C_below HR0.out HB.out))
        (case side2 => exact HC0.out)
        rintro e w41 ⟨v371, rfl, ho0, hb⟩
        refine ⟨_, rfl, ?_⟩
        have n0_ := qz HO_8 hb
        have n1_ := am (Kd.R_lower ho0 (below_size (bz1 HB.out GE352.out)))
        have n2_ := am (blk_below (kz BK352.out) hb)
        have n3_ := am (below_step (bz1 HB.out GE352.out) hb)
        clear HO_8
        clear BK352
        clear HB
        have HO_8 := n0_
        have HO372 := n1_
        have BK352 := n2_
        have HB := n3_
        clear n0_ n1_ n2_ n3_
        (try clear hb)
        (try clear hb2)
        (try clear hk)
        (try clear hi)
        (try clear ho0)
        obtain ⟨Ao42, co42, eo42⟩ := Kd.R_slice HO_8.out
        (first | subst eo42 | (injection eo42 with f1_ f2_ f3_; have f4_ := f1_.symm; have f5_ := f3_.symm; clear f1_ f2_ f3_; subst f4_; subst f5_))
        obtain ⟨Ao43, co43, eo43⟩ := Kd.R_slice HO372.out
        (first | subst eo43 | (injection eo43 with f1_ f2_ f3_; have f4_ := f1_.symm; have f5_ := f3_.symm; clear f1_ f2_ f3_; subst f4_; subst f5_))
        refine hK.out _ _ ⟨(blk_cell BK352.out 0).trans rfl, (blk_cell BK352.out 1).trans rfl⟩ (fun hHeld => ?_)
        clear hK K
        refine norm_ (a' := ?_) ?_ ?_
        rotate_left
        ·show Act.put _ (some 45) _ = _
         simp only [Act.put, sz1, sz2, sz3, i64_w, i32_w]
         rfl
        refine one_ (i := 6) (N := some 48) (mk_ 7 1) rfl rfl (one_of HT_.out kr) (by decide) (fun K hK => ?_)
        refine goes_ Tryz.func27 kr rfl #[.slice Ao42 y356.length co42, .slice Ao43 t370.length co43, .agg #[.int .i64 a1_0, .int .i64 a1_1], .string a2] (by rfl) rfl rfl lz ?_
        with_reducible refine (spec_l7Set.calls kj17 (fun k_ => some k_ = (.slice Ao42 y356.length co42 : Value).ownBlock) (.slice Ao42 y356.length co42) y356 _ _ t370 a1_0 a1_1 a2 t373 w _ ?side1 ?side2 ?side3 ?side4 A29.out).mono ?_
        (case side1 => repeat (first | (with_reducible first | exact HB.out | apply below_alloc | apply pw_below_drewN | apply below_drew1 | refine below_set ?_ GE352.out) | exact HB.out))
        (case side2 => exact Kd.R_tight rfl HO_8.out)
        (case side3 => exact Kd.C_kept_own ((Kd.R_apart' HO372.out (Kd.R_typed HO_8.out) (by decide))) (fun k_ hk_ hs_ => by with_reducible first | exact absurd hs_ hk_.2 | exact absurd hs_ hk_ | exact absurd hs_ hk_.1 | exact absurd hs_ hk_.2 | exact absurd hs_ hk_.1.1 | exact absurd hs_ hk_.1.2))
        (case side4 => exact (Kd.R_reads' HO372.out).2.1)
        rintro e w44 ⟨v374, rfl, ho0, hb, hkp⟩
        refine ⟨_, rfl, ?_⟩
        have n0_ := am (blk_kept (kz BK352.out) hkp (fun hs_ => (fun e_ => (Kd.R_ne HO_8.out BK352.out (by decide)) e_) hs_))
        have n1_ := am (Kd.R_mono (ok' := fun k_ => True) (Kd.R_keptB ((Kd.R_apart' HO372.out (Kd.R_typed HO_8.out) (by decide))) hkp (fun k_ hk_ hs_ => by with_reducible first | exact absurd hs_ hk_.2 | exact absurd hs_ hk_ | exact absurd hs_ hk_.1 | exact absurd hs_ hk_.2 | exact absurd hs_ hk_.1.1 | exact absurd hs_ hk_.1.2)) (fun k_ hk_ => trivial))
        have n2_ := am (Kd.R_mono (ok' := fun k_ => True) ho0 (fun k_ hk_ => trivial))
        have n3_ := am (hb)
        clear BK352
        clear HO372
        clear HB
        clear HO_8
        have BK352 := n0_
        have HO372 := n1_
        have HO375 := n2_
        have HB := n3_
        clear n0_ n1_ n2_ n3_
        (try clear hb)
        (try clear hkp)
        (try clear ho0)
        refine hK.out _ _ ⟨(blk_cell BK352.out 0).trans rfl, (blk_cell BK352.out 1).trans rfl⟩ (fun hHeld => ?_)
        clear hK K
        refine norm_ (a' := ?_) ?_ ?_
        rotate_left
        ·show Act.put _ (some 48) _ = _
         simp only [Act.put, sz1, sz2, sz3, i64_w, i32_w]
         rfl
        refine pv 7 8 (mk_ 8 0) HT_ rfl rfl ?_
        refine done_ (done_of HT_.out kr) ?_
        obtain ⟨Ao45, co45, eo45⟩ := Kd.R_slice HO375.out
        subst eo45
        try go_wp2_with (first | ((with_reducible refine gate_callee (f := 17) rfl ?_); refine goesL_ (some 51) rfl rfl Tryz.func17 kr rfl #[.slice A0 l0.length c0, .slice Ao45 t373.length co45] rfl lz ?_; (with_reducible refine (spec_AlphaSame.calls kj17 _ _ l0 _ _ t373 false _ ?side1 ?side2 ?side3 ?side4 A30.out).mono ?_); (case side1 => exact cz (Kd.C_below HR0.out HB.out)); (case side2 => exact HC0.out); (case side3 => exact cz (Kd.R_reads' HO375.out).2.2); (case side4 => exact (Kd.R_reads' HO375.out).2.1); rintro e w46 ⟨rfl, hb⟩; refine ⟨_, rfl, ?_⟩; replace HO372 := qz HO372 hb; replace HO375 := qz HO375 hb; replace BK352 := kb BK352 hb; replace HB := bs (bz1 HB.out GE352.out) hb; (try clear hb); (try clear hk); (try clear hi)) | ((with_reducible refine gate_dst (N := 53) rfl ?_); refine Kd.R_lit k45 _ 45 ?hg (N := 53) ?hd (xs := ([] : List (S45))) (inner := []) (ok := fun _ => True) (okp := fun _ => True) ?hr ?hp (fun _ hk => hk) trivial (Below.refl _ _) (Nat.le_refl _) (by simp) ?_; (case hd => rfl); (case hg => rfl); (case hr => exact vz); (case hp => exact (Reps.none _ _)); intro v378 w47 ho48 hb hg_ hnew_; clear hg_ hnew_; (first | rw [<- Ny377.out] at ho48 | (simp only [Int.reduceToNat] at ho48; rw [<- Ny377.out] at ho48)); replace HO372 := qz HO372 hb; have HO379 := am (Kd.R_lower (Kd.R_new' ho48 (Kd.R_lt (rz HO375.out))) (below_size (bz1 HB.out GE352.out))); replace HO375 := am (Kd.R_elder' (rz HO375.out) (Kd.R_base ho48) hb); replace BK352 := kb BK352 hb; replace HB := bs (bz1 HB.out GE352.out) hb; clear hb ho48) | ((with_reducible refine gate_builtin (b := .append) (xs := #[.tmp 53, .tmp 54]) rfl ?_); at_builtin; refine Kd.R_append_rows k45 (w0 := w) w.heap.size rfl (.tmp 53) (.tmp 54) 26 45 (.agg #[(.int .i64 0), (.int .i64 0), (.int .i64 0), (.int .i64 0), (.int .i64 0), (.string ⟨#[]⟩), (.string ⟨#[]⟩)]) 72 rfl Tryz.underlying26 info45 rfl (by decide) (by omega) v378 y377 l0 _ _ _ (fun k_ => some k_ ≠ (.slice Ao45 t373.length co45 : Value).ownBlock) (fun _ => False) rfl rfl ?aO ?aR (fun _ _ h => h) (fun _ h => h.elim) ?aF ?aB ?aS ?aL ?_; (case aR => exact cz (Kd.C_below HR0.out HB.out)); (case aB => exact (bz1 HB.out GE352.out)); (case aF => exact (fun k_ hk => Kd.fresh' (Kd.R_lt (rz HO375.out)) k_ hk)); (case aO => exact (by refine rq ?_; exact Kd.R_mono HO379.out (fun _ hk => hk.2))); (case aS => exact (below_size (bz1 HB.out GE352.out))); (case aL => have := LMc39.out; omega); intro v381 w49 ho hb hg hat; rw [<- Ny380.out] at ho; have n0_ := am (blk_grown (g := gb352) (o := .cells #[.int .i64 a1_0, .int .i64 a1_1] 30 (0, 0)) (kz BK352.out) hg (Kd.R_ne HO379.out BK352.out (by decide))); have n1_ := am (Kd.R_over' (rz HO372.out) (Kd.R_typed (rz HO379.out)) (by decide) hg); have n2_ := am (Kd.R_after (ok := (fun _ => True)) (rz HO375.out) hg hat); have n3_ := am (hb); have n4_ := am (ho); clear BK352; clear HO372; clear HO375; clear HB; clear HO379; have BK352 := n0_; have HO372 := n1_; have HO375 := n2_; have HB := n3_; have HO382 := n4_; clear n0_ n1_ n2_ n3_ n4_; clear ho hb hg hat))
        go_ret2
        exact ⟨_, gz, by refine rq ?_; exact Kd.R_mono HO382.out (fun _ hk => trivial), (bz1 HB.out GE352.out)⟩
def laws_toNode.f (a0_0 : Int) (a0_1 : Int) (a0_2 : Int) (a0_3 : Int) (a0_4 : Int) (a0_5 : ByteArray) (a0_6 : ByteArray) : Option (Int × Int × Int × Int × Int × ByteArray × ByteArray) := some (a0_0, a0_1, a0_2, a0_3, a0_4, a0_5, a0_6)
set_option maxHeartbeats 8000000 in
set_option maxRecDepth 100000 in
theorem laws_toNode.calls (a0_0 : Int) (a0_1 : Int) (a0_2 : Int) (a0_3 : Int) (a0_4 : Int) (a0_5 : ByteArray) (a0_6 : ByteArray) (r1 : Int) (r2 : Int) (r3 : Int) (r4 : Int) (r5 : Int) (r6 : ByteArray) (r7 : ByteArray) (w : World) (h : laws_toNode.f a0_0 a0_1 a0_2 a0_3 a0_4 a0_5 a0_6 = some (r1, r2, r3, r4, r5, r6, r7)) :
  Calls Tryz.prog 29 #[.agg #[.int .i64 a0_0, .int .i64 a0_1, .int .i64 a0_2, .int .i64 a0_3, .int .i64 a0_4, .string a0_5, .string a0_6]] w fun e w' => e = .returned (.agg #[.int .i64 r1, .int .i64 r2, .int .i64 r3, .int .i64 r4, .int .i64 r5, .string r6, .string r7]) /\ Below w.heap.size w w' := by
 have hu51 := Tryz.underlying51
 have hu45 := Tryz.underlying45
 have HB := am (Below.refl w.heap.size w)
 have H : (some (a0_0, a0_1, a0_2, a0_3, a0_4, a0_5, a0_6)) = some (r1, r2, r3, r4, r5, r6, r7) := h
 clear h
 simp only [Option.some.injEq, Prod.mk.injEq] at H
 obtain ⟨rfl, rfl, rfl, rfl, rfl, rfl, rfl⟩ := H
 go_enter Tryz.func29, Tryz.ntmps29
 go_wp2_with (first | ((with_reducible refine gate_dst (N := 1) rfl ?_); refine box_event ?hg (N := 1) ?hd (cs := #[.int .i64 a0_0, .int .i64 a0_1, .int .i64 a0_2, .int .i64 a0_3, .int .i64 a0_4, .string a0_5, .string a0_6]) (t := 51) ?hr ?_; (case hd => rfl); (case hg => rfl); (case hr => exact vz); intro gb383 hg w2 hbox hb; have BK383 := am (hbox); have GW383 := am ((by rw [hg]; exact (below_size (bz0 HB.out)) : w.heap.size <= gb383)); have GE383 := GW383; replace HB := bs (bz0 HB.out) hb; clear hb hbox hg) | ((with_reducible refine gate_dst (N := 2) rfl ?_); refine box_event ?hg (N := 2) ?hd (cs := #[.int .i64 0, .int .i64 0, .int .i64 0, .int .i64 0, .int .i64 0, .string (⟨#[]⟩ : ByteArray), .string (⟨#[]⟩ : ByteArray)]) (t := 45) ?hr ?_; (case hd => rfl); (case hg => rfl); (case hr => exact vz); intro gb384 hg w3 hbox hb; have BK384 := am (hbox); have GW384 := am ((by rw [hg]; exact (below_size (bz1 HB.out GE383.out)) : w.heap.size <= gb384)); have GE384 := GW384; replace HB := bs (bz1 HB.out GE383.out) hb; have NB383_384 := am ((by rw [hg]; exact Nat.ne_of_lt (blk_lt (kz BK383.out)) : gb383 ≠ gb384)); have NB384_383 := am ((by rw [hg]; exact Nat.ne_of_gt (blk_lt (kz BK383.out)) : gb384 ≠ gb383)); replace BK383 := kb BK383 hb; clear hb hbox hg) | ((with_reducible refine gate_dst (N := 3) rfl ?_); refine box_event ?hg (N := 3) ?hd (cs := #[.int .i64 0, .int .i64 0, .int .i64 0, .int .i64 0, .int .i64 0, .string (⟨#[]⟩ : ByteArray), .string (⟨#[]⟩ : ByteArray)]) (t := 45) ?hr ?_; (case hd => rfl); (case hg => rfl); (case hr => exact vz); intro gb385 hg w4 hbox hb; have BK385 := am (hbox); have GW385 := am ((by rw [hg]; exact (below_size (bz2 HB.out GE383.out GE384.out)) : w.heap.size <= gb385)); have GE385 := GW385; replace HB := bs (bz2 HB.out GE383.out GE384.out) hb; have NB383_385 := am ((by rw [hg]; exact Nat.ne_of_lt (blk_lt (kz BK383.out)) : gb383 ≠ gb385)); have NB385_383 := am ((by rw [hg]; exact Nat.ne_of_gt (blk_lt (kz BK383.out)) : gb385 ≠ gb383)); replace BK383 := kb BK383 hb; have NB384_385 := am ((by rw [hg]; exact Nat.ne_of_lt (blk_lt (kz BK384.out)) : gb384 ≠ gb385)); have NB385_384 := am ((by rw [hg]; exact Nat.ne_of_gt (blk_lt (kz BK384.out)) : gb385 ≠ gb384)); replace BK384 := kb BK384 hb; clear hb hbox hg; have hnb5 := NB383_384.out; have hnc5 := NB384_383.out; have hnb6 := NB383_385.out; have hnc6 := NB385_383.out; obtain ⟨hcz7_0, hcz7_1, hcz7_2, hcz7_3, hcz7_4, hcz7_5, hcz7_6⟩ := cz7 BK383.out; obtain ⟨hfz7_0, hfz7_1, hfz7_2, hfz7_3, hfz7_4, hfz7_5, hfz7_6⟩ := fz7 BK383.out; have hnb8 := NB385_384.out; have hnc8 := NB384_385.out; obtain ⟨hcz9_0, hcz9_1, hcz9_2, hcz9_3, hcz9_4, hcz9_5, hcz9_6⟩ := cz7 BK385.out; obtain ⟨hfz9_0, hfz9_1, hfz9_2, hfz9_3, hfz9_4, hfz9_5, hfz9_6⟩ := fz7 BK385.out; obtain ⟨hcz10_0, hcz10_1, hcz10_2, hcz10_3, hcz10_4, hcz10_5, hcz10_6⟩ := cz7 BK384.out; obtain ⟨hfz10_0, hfz10_1, hfz10_2, hfz10_3, hfz10_4, hfz10_5, hfz10_6⟩ := fz7 BK384.out))
 refine bodyPost_ret (results_cell_row rfl _ _ gb384 45 #[.int .i64 a0_0, .int .i64 a0_1, .int .i64 a0_2, .int .i64 a0_3, .int .i64 a0_4, .string a0_5, .string a0_6] (0, 0) _ rfl (by refine kq ?_; refine blk_put (cs := #[.int .i64 a0_0, .int .i64 a0_1, .int .i64 a0_2, .int .i64 a0_3, .int .i64 a0_4, .string a0_5, .string (⟨#[]⟩ : ByteArray)]) ?_ 6 _ rfl; refine kq ?_; refine blk_put (cs := #[.int .i64 a0_0, .int .i64 a0_1, .int .i64 a0_2, .int .i64 a0_3, .int .i64 a0_4, .string (⟨#[]⟩ : ByteArray), .string (⟨#[]⟩ : ByteArray)]) ?_ 5 _ rfl; refine kq ?_; refine blk_put (cs := #[.int .i64 a0_0, .int .i64 a0_1, .int .i64 a0_2, .int .i64 a0_3, .int .i64 0, .string (⟨#[]⟩ : ByteArray), .string (⟨#[]⟩ : ByteArray)]) ?_ 4 _ rfl; refine kq ?_; refine blk_put (cs := #[.int .i64 a0_0, .int .i64 a0_1, .int .i64 a0_2, .int .i64 0, .int .i64 0, .string (⟨#[]⟩ : ByteArray), .string (⟨#[]⟩ : ByteArray)]) ?_ 3 _ rfl; refine kq ?_; refine blk_put (cs := #[.int .i64 a0_0, .int .i64 a0_1, .int .i64 0, .int .i64 0, .int .i64 0, .string (⟨#[]⟩ : ByteArray), .string (⟨#[]⟩ : ByteArray)]) ?_ 2 _ rfl; refine kq ?_; refine blk_put (cs := #[.int .i64 a0_0, .int .i64 0, .int .i64 0, .int .i64 0, .int .i64 0, .string (⟨#[]⟩ : ByteArray), .string (⟨#[]⟩ : ByteArray)]) ?_ 1 _ rfl; refine kq ?_; refine blk_put (cs := #[.int .i64 0, .int .i64 0, .int .i64 0, .int .i64 0, .int .i64 0, .string (⟨#[]⟩ : ByteArray), .string (⟨#[]⟩ : ByteArray)]) ?_ 0 _ rfl; refine kq ?_; refine blk_far ?_ NB384_385.out _; refine kq ?_; refine blk_far ?_ NB384_385.out _; refine kq ?_; refine blk_far ?_ NB384_385.out _; refine kq ?_; refine blk_far ?_ NB384_385.out _; refine kq ?_; refine blk_far ?_ NB384_385.out _; refine kq ?_; refine blk_far ?_ NB384_385.out _; refine kq ?_; refine blk_far ?_ NB384_385.out _; refine kq ?_; exact BK384.out) Tryz.underlying45 rfl kr) rfl ?_
 exact ⟨gz, (bz3 HB.out GE383.out GE384.out GE385.out)⟩
end Go.Proofs.YtdjamdnjkdllgaaGreatDoor.PFnExactRenameOne
