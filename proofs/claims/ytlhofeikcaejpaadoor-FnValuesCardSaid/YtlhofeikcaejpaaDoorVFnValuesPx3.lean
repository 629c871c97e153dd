/- PFnValuesx3, of the words and walks that the law FnValues needs; made by this session's program out of printed texts. -/

import Derived.Test.YtlhofeikcaejpaaDoorVFnValuesPx0
import Derived.Test.YtlhofeikcaejpaaDoorVFnValuesPx2
namespace Go.Proofs.YtlhofeikcaejpaaDoor.PFnValues
open Go.RowKit Go.Proofs.YtlhofeikcaejpaaDoorW.PrintWords Go.Proofs.YtlhofeikcaejpaaDoorW.PrintLast Go.Proofs.YtlhofeikcaejpaaDoorW.PrintMore
attribute [local go_sem] max2_int min2_int max_two min_two max_three min_three max_four min_four
set_option linter.unusedVariables false
set_option linter.unusedSimpArgs false
def spec_l10Heap.l0 : Nat -> Int -> List Int -> Int -> Int -> List (S41) -> List (S86) -> List (S47) -> List (S35) -> Option ((List (S41)) × (List (S86)) × (List (S47)) × (List (S35)) × Int × Int)
 | 0, _, _, _, _, _, _, _, _ => none
 | k + 1, x4, x1000, x1001, x1002, x151000, x151001, x151002, x151003 => if x4 > 0 then ((spec_l1Below.f x1000 x1001 x1002 4).bind fun bt154 => (if bt154.1 = 0 then ((spec_l1Below.f x1000 bt154.2.1 bt154.2.2 4).bind fun bt157 => ((spec_l1Below.f x1000 bt157.2.1 bt157.2.2 2).bind fun bt160 => ((spec_l10Val.f k x1000 bt160.2.1 bt160.2.2 x151000 x151001 x151002 x151003).bind fun bt163 => ((spec_l1Below.f x1000 bt163.2.2.1 bt163.2.2.2 (wrap64 ((x151000.length : Int) + 1))).bind fun bt167 => (if x151000.length < 3518437208883 then (spec_l10Heap.l0 k (wrap64 (x4 - 1)) x1000 bt167.2.1 bt167.2.2 (x151000 ++ [(⟨bt157.1, bt160.1, (⟨bt163.1, bt163.2.1⟩ : S35), wrap64 ((wrap64 ((x151000.length : Int) - 1)) - bt167.1)⟩ : S41)]) x151001 x151002 x151003) else (none)))))) else (if bt154.1 = 1 then ((spec_l1Below.f x1000 bt154.2.1 bt154.2.2 5).bind fun bt173 => (if x151001.length < 8796093022208 then (spec_l10Heap.l0 k (wrap64 (x4 - 1)) x1000 bt173.2.1 bt173.2.2 x151000 (x151001 ++ [(⟨bt173.1, wrap64 ((x151000.length : Int) - 1)⟩ : S86)]) x151002 x151003) else (none))) else (if bt154.1 = 2 then ((spec_l10Val.f k x1000 bt154.2.1 bt154.2.2 x151000 x151001 x151002 x151003).bind fun bt179 => ((spec_l10Val.f k x1000 bt179.2.2.1 bt179.2.2.2 x151000 x151001 x151002 x151003).bind fun bt183 => (if x151002.length < 4398046511104 then (spec_l10Heap.l0 k (wrap64 (x4 - 1)) x1000 bt183.2.2.1 bt183.2.2.2 x151000 x151001 (x151002 ++ [(⟨(⟨bt179.1, bt179.2.1⟩ : S35), (⟨bt183.1, bt183.2.1⟩ : S35)⟩ : S47)]) x151003) else (none)))) else ((spec_l10Val.f k x1000 bt154.2.1 bt154.2.2 x151000 x151001 x151002 x151003).bind fun bt190 => (if x151003.length < 8796093022208 then (spec_l10Heap.l0 k (wrap64 (x4 - 1)) x1000 bt190.2.2.1 bt190.2.2.2 x151000 x151001 x151002 (x151003 ++ [(⟨bt190.1, bt190.2.1⟩ : S35)])) else (none))))))) else ((spec_l1Below.f x1000 x1001 x1002 16).bind fun bt197 => (if bt197.1 = 0 then ((spec_l1Below.f x1000 bt197.2.1 bt197.2.2 9).bind fun bt200 => (if x151003.length < 8796093022208 then (some (x151000, x151001, x151002, (x151003 ++ [(⟨3, bt200.1⟩ : S35)]), bt200.2.1, bt200.2.2)) else (none))) else (if bt197.1 = 1 then (if x151001.length < 8796093022208 then (some (x151000, (x151001 ++ [(⟨0, (x151000.length : Int)⟩ : S86)]), x151002, x151003, bt197.2.1, bt197.2.2)) else (none)) else (if bt197.1 = 2 then (if x151002.length < 4398046511104 then (some (x151000, x151001, (x151002 ++ [(⟨(⟨4, (x151002.length : Int)⟩ : S35), (⟨0, 0⟩ : S35)⟩ : S47)]), x151003, bt197.2.1, bt197.2.2)) else (none)) else (some (x151000, x151001, x151002, x151003, bt197.2.1, bt197.2.2))))))
def spec_l10Heap.f (k : Nat) (s0_0 : List Int) (s0_1 : Int) (s0_2 : Int) : Option ((List (S41)) × (List (S86)) × (List (S47)) × (List (S35)) × Int × Int) := (spec_l1Below.f s0_0 s0_1 s0_2 12).bind fun bt151 => (spec_l10Heap.l0 k bt151.1 s0_0 bt151.2.1 bt151.2.2 ([] : List (S41)) ([] : List (S86)) ([] : List (S47)) ([] : List (S35)))
theorem spec_l10Heap.mono_l : ∀ k, (∀ y0 y1 y2 y3 y4 y5 y6 y7, LeO (spec_l10Heap.l0 k y0 y1 y2 y3 y4 y5 y6 y7) (spec_l10Heap.l0 (k + 1) y0 y1 y2 y3 y4 y5 y6 y7))
 | 0 => fun _ _ _ _ _ _ _ _ r h => by simp [spec_l10Heap.l0] at h
 | k + 1 => by
  have ih0 := spec_l10Heap.mono_l k
  ·intro y0 y1 y2 y3 y4 y5 y6 y7
   unfold spec_l10Heap.l0
   with_reducible repeat' first | exact ih0 _ _ _ _ _ _ _ _ | exact spec_l10Val.mono _ _ _ _ _ _ _ _ | exact lrz _ | exact lnz _ | refine liz ?_ ?_ | refine lbz ?_ fun _ => ?_
theorem spec_l10Heap.mono : ∀ a0 a1 a2 k, LeO (spec_l10Heap.f k a0 a1 a2) (spec_l10Heap.f (k + 1) a0 a1 a2) := by
 intro a0 a1 a2 k
 have ih0 := spec_l10Heap.mono_l k
 unfold spec_l10Heap.f
 with_reducible repeat' first | exact ih0 _ _ _ _ _ _ _ _ | exact spec_l10Val.mono _ _ _ _ _ _ _ _ | exact lrz _ | exact lnz _ | refine liz ?_ ?_ | refine lbz ?_ fun _ => ?_
def spec_l10Heap.T6 : Bool × List (List Nat × List Nat) := (true, [([], []), ([0], [0]), ([], []), ([], []), ([2, 3], [2, 3]), ([4], [4]), ([1, 5, 4], [1, 5]), ([0, 1, 2, 3, 4, 5, 6], []), ([7, 6, 6, 0, 1, 2, 3, 4, 5, 6], [6, 7])])
def spec_l10Heap.B6 : List Nat := [0, 1, 0, 0, 12, 28, 63, 127, 255]
theorem spec_l10Heap.tab6 : rtab .any (opsOf Tryd.f38 6) = spec_l10Heap.T6 := by kernel_rfl
theorem spec_l10Heap.bits6 : waitsOk spec_l10Heap.T6.2 spec_l10Heap.B6 = true := by kernel_rfl
def spec_l10Heap.T8 : Bool × List (List Nat × List Nat) := (true, [([], []), ([0], [0]), ([], []), ([2], [2]), ([], []), ([4, 3], [4]), ([], []), ([], []), ([6, 7, 5], [6, 7]), ([], []), ([9], [9]), ([10], [10]), ([11], [11]), ([], []), ([], []), ([14], [14]), ([15], [15]), ([16], [16]), ([13, 17, 8], [13, 17]), ([12, 18], [12, 18]), ([3, 5, 8, 19], [3, 5, 8, 19]), ([20], [20]), ([1, 21, 18], [1, 21]), ([0, 1, 2, 3, 4, 5, 6, 7, 8, 9, 10, 11, 12, 13, 14, 15, 16, 17, 18, 19, 20, 21, 22], []), ([23, 22, 22, 0, 1, 2, 3, 4, 5, 6, 7, 8, 9, 10, 11, 12, 13, 14, 15, 16, 17, 18, 19, 20, 21, 22], [22, 23])])
def spec_l10Heap.B8 : List Nat := [0, 1, 0, 4, 0, 28, 0, 0, 252, 0, 512, 1536, 3584, 0, 0, 16384, 49152, 114688, 254460, 524284, 1048572, 2097148, 4194303, 8388607, 16777215]
theorem spec_l10Heap.tab8 : rtab .any (opsOf Tryd.f38 8) = spec_l10Heap.T8 := by kernel_rfl
theorem spec_l10Heap.bits8 : waitsOk spec_l10Heap.T8.2 spec_l10Heap.B8 = true := by kernel_rfl
def spec_l10Heap.T10 : Bool × List (List Nat × List Nat) := (true, [([], []), ([0], [0]), ([], []), ([2], [2]), ([], []), ([4], [4]), ([5], [5]), ([6], [6]), ([3, 7], [3, 7]), ([8], [8]), ([1, 9, 3], [1, 9]), ([0, 1, 2, 3, 4, 5, 6, 7, 8, 9, 10], []), ([11, 10, 10, 0, 1, 2, 3, 4, 5, 6, 7, 8, 9, 10], [10, 11])])
def spec_l10Heap.B10 : List Nat := [0, 1, 0, 4, 0, 16, 48, 112, 252, 508, 1023, 2047, 4095]
theorem spec_l10Heap.tab10 : rtab .any (opsOf Tryd.f38 10) = spec_l10Heap.T10 := by kernel_rfl
theorem spec_l10Heap.bits10 : waitsOk spec_l10Heap.T10.2 spec_l10Heap.B10 = true := by kernel_rfl
def spec_l10Heap.T12 : Bool × List (List Nat × List Nat) := (true, [([], []), ([0], [0]), ([], []), ([], []), ([2, 3], [2, 3]), ([], []), ([], []), ([5, 6, 4], [5, 6]), ([4, 7], [4, 7]), ([8], [8]), ([1, 9, 7], [1, 9]), ([0, 1, 2, 3, 4, 5, 6, 7, 8, 9, 10], []), ([11, 10, 10, 0, 1, 2, 3, 4, 5, 6, 7, 8, 9, 10], [10, 11])])
def spec_l10Heap.B12 : List Nat := [0, 1, 0, 0, 12, 0, 0, 124, 252, 508, 1023, 2047, 4095]
theorem spec_l10Heap.tab12 : rtab .any (opsOf Tryd.f38 12) = spec_l10Heap.T12 := by kernel_rfl
theorem spec_l10Heap.bits12 : waitsOk spec_l10Heap.T12.2 spec_l10Heap.B12 = true := by kernel_rfl
def spec_l10Heap.T15 : Bool × List (List Nat × List Nat) := (true, [([], []), ([0], [0]), ([], []), ([2], [2]), ([3], [3]), ([4], [4]), ([1, 5, 3], [1, 5]), ([0, 1, 2, 3, 4, 5, 6], []), ([7, 6, 6, 0, 1, 2, 3, 4, 5, 6], [6, 7])])
def spec_l10Heap.B15 : List Nat := [0, 1, 0, 4, 12, 28, 63, 127, 255]
theorem spec_l10Heap.tab15 : rtab .any (opsOf Tryd.f38 15) = spec_l10Heap.T15 := by kernel_rfl
theorem spec_l10Heap.bits15 : waitsOk spec_l10Heap.T15.2 spec_l10Heap.B15 = true := by kernel_rfl
set_option maxHeartbeats 80000000 in
set_option maxRecDepth 100000 in
theorem spec_l10Heap.calls (k : Nat) (g : Nat) (s0_0 : List Int) (s0_1 : Int) (s0_2 : Int) (r1 : List (S41)) (r2 : List (S86)) (r3 : List (S47)) (r4 : List (S35)) (r5 : Int) (r6 : Int) (w0 w : World) (hI : IsS120 w0 w g s0_0 s0_1 s0_2) (hB : Below w0.heap.size w0 w) (h : spec_l10Heap.f k s0_0 s0_1 s0_2 = some (r1, r2, r3, r4, r5, r6)) :
  Calls Tryd.prog 38 #[.pointer (some ⟨g, 0, none⟩)] w fun e w' => ∃ v0_ v1_ v2_ v3_ : Value, e = .returned (.agg #[v0_, v1_, v2_, v3_]) /\ Kd.R k41 41 w' w.heap.size (fun _ => True) v0_ r1 /\ Kd.R k86 86 w' w.heap.size (fun _ => True) v1_ r2 /\ Kd.R k47 47 w' w.heap.size (fun _ => True) v2_ r3 /\ Kd.R k35 35 w' w.heap.size (fun _ => True) v3_ r4 /\ IsS120 w0 w' g s0_0 r5 r6 /\ Below w0.heap.size w0 w' /\ KeepBut w w' g none := by
 have hu29 := Tryd.underlying29
 have hu41 := Tryd.underlying41
 have hu86 := Tryd.underlying86
 have hu47 := Tryd.underlying47
 have hu35 := Tryd.underlying35
 have HI0 := Aside0.mk hI
 have HK := Aside0.mk (KeepBut.refl w g none)
 have HL := Aside0.mk hB.size
 clear hI
 have HW0 := Aside0.mk hB.size
 have HB := Aside0.mk hB
 clear hB
 have H : ((spec_l1Below.f s0_0 s0_1 s0_2 12).bind fun bt151 => (spec_l10Heap.l0 k bt151.1 s0_0 bt151.2.1 bt151.2.2 ([] : List (S41)) ([] : List (S86)) ([] : List (S47)) ([] : List (S35)))) = some (r1, r2, r3, r4, r5, r6) := h
 clear h
 replace H := bi H
 obtain ⟨⟨t151, t152, t153⟩, A20, H⟩ := H
 try dsimp only at H
 have A2 := Aside0.mk A20
 clear A20
 have H' := Aside0.mk H
 clear H
 go_enter Tryd.func38, Tryd.ntmps38
 go_wp2_with (first | ((with_reducible refine gate_dst (N := 2) rfl ?_); refine box_event ?hg (N := 2) ?hd (cs := #[.slice none 0 0, .slice none 0 0, .slice none 0 0, .slice none 0 0]) (t := 29) ?hr ?_; (case hd => rfl); (case hg => rfl); (case hr => exact vz); intro gb149 hg w3 hbox hb; replace HB := Aside0.mk (below_step (by repeat (first | (with_reducible first | exact HB.out | apply below_alloc | apply pw_below_drewN | apply below_drew1 | refine below_set ?_ (IsS120.ge HI0.out)) | exact HB.out)) hb); have BK149 := Aside0.mk (hbox); have GW149 := Aside0.mk ((by rw [hg]; exact (keep_size (w := w) (g := g) (row := none) (by repeat (first | (with_reducible first | exact HK.out | apply KeepBut.set_ | apply keep_drewN | apply keep_drew | apply keep_alloc) | exact HK.out))) : w.heap.size <= gb149)); have GE149 := Aside0.mk ((Nat.le_trans HW0.out (by rw [hg]; exact (keep_size (w := w) (g := g) (row := none) (by repeat (first | (with_reducible first | exact HK.out | apply KeepBut.set_ | apply keep_drewN | apply keep_drew | apply keep_alloc) | exact HK.out))) : w.heap.size <= gb149) : w0.heap.size <= gb149)); replace HK := Aside0.mk (KeepBut.trans (by repeat (first | (with_reducible first | exact HK.out | apply KeepBut.set_ | apply keep_drewN | apply keep_drew | apply keep_alloc) | exact HK.out)) (KeepBut.of_below hb g none) (.inl rfl)); have NB0_149 := Aside0.mk ((by rw [hg]; exact Nat.ne_of_lt (IsS120.lt (show IsS120 w0 _ g s0_0 s0_1 s0_2 from by repeat (first | (with_reducible first | exact HI0.out | apply IsS120.alloc | apply IsS120.drewN | apply IsS120.drew | apply IsS120.set_1 | apply IsS120.set_2) | exact HI0.out))) : g ≠ gb149)); have NB149_0 := Aside0.mk ((by rw [hg]; exact Nat.ne_of_gt (IsS120.lt (show IsS120 w0 _ g s0_0 s0_1 s0_2 from by repeat (first | (with_reducible first | exact HI0.out | apply IsS120.alloc | apply IsS120.drewN | apply IsS120.drew | apply IsS120.set_1 | apply IsS120.set_2) | exact HI0.out))) : gb149 ≠ g)); replace HI0 := Aside0.mk (IsS120.below (by repeat (first | (with_reducible first | exact HI0.out | apply IsS120.alloc | apply IsS120.drewN | apply IsS120.drew | apply IsS120.set_1 | apply IsS120.set_2) | exact HI0.out)) hb); clear hb hbox hg) | ((with_reducible refine gate_dst (N := 3) rfl ?_); refine box_event ?hg (N := 3) ?hd (cs := #[.slice none 0 0, .slice none 0 0, .slice none 0 0, .slice none 0 0]) (t := 29) ?hr ?_; (case hd => rfl); (case hg => rfl); (case hr => exact vz); intro gb150 hg w4 hbox hb; replace HB := Aside0.mk (below_step (by repeat (first | (with_reducible first | exact HB.out | apply below_alloc | apply pw_below_drewN | apply below_drew1 | refine below_set ?_ (IsS120.ge HI0.out) | refine below_set ?_ GE149.out) | exact HB.out)) hb); have BK150 := Aside0.mk (hbox); have GW150 := Aside0.mk ((by rw [hg]; exact (keep_size (w := w) (g := g) (row := none) (by repeat (first | (with_reducible first | exact HK.out | apply KeepBut.set_ | apply keep_drewN | apply keep_drew | apply keep_alloc | refine keep_far ?_ GW149.out _) | exact HK.out))) : w.heap.size <= gb150)); have GE150 := Aside0.mk ((Nat.le_trans HW0.out (by rw [hg]; exact (keep_size (w := w) (g := g) (row := none) (by repeat (first | (with_reducible first | exact HK.out | apply KeepBut.set_ | apply keep_drewN | apply keep_drew | apply keep_alloc | refine keep_far ?_ GW149.out _) | exact HK.out))) : w.heap.size <= gb150) : w0.heap.size <= gb150)); replace HK := Aside0.mk (KeepBut.trans (by repeat (first | (with_reducible first | exact HK.out | apply KeepBut.set_ | apply keep_drewN | apply keep_drew | apply keep_alloc | refine keep_far ?_ GW149.out _) | exact HK.out)) (KeepBut.of_below hb g none) (.inl rfl)); have NB149_150 := Aside0.mk ((by rw [hg]; exact Nat.ne_of_lt (blk_lt (kz BK149.out)) : gb149 ≠ gb150)); have NB150_149 := Aside0.mk ((by rw [hg]; exact Nat.ne_of_gt (blk_lt (kz BK149.out)) : gb150 ≠ gb149)); replace BK149 := Aside0.mk (blk_below (kz BK149.out) hb); have NB0_150 := Aside0.mk ((by rw [hg]; exact Nat.ne_of_lt (IsS120.lt (show IsS120 w0 _ g s0_0 s0_1 s0_2 from by repeat (first | (with_reducible first | exact HI0.out | apply IsS120.alloc | apply IsS120.drewN | apply IsS120.drew | apply IsS120.set_1 | apply IsS120.set_2 | apply IsS120.far (p := ⟨gb149, _, none⟩) (hne := NB0_149.out)) | exact HI0.out))) : g ≠ gb150)); have NB150_0 := Aside0.mk ((by rw [hg]; exact Nat.ne_of_gt (IsS120.lt (show IsS120 w0 _ g s0_0 s0_1 s0_2 from by repeat (first | (with_reducible first | exact HI0.out | apply IsS120.alloc | apply IsS120.drewN | apply IsS120.drew | apply IsS120.set_1 | apply IsS120.set_2 | apply IsS120.far (p := ⟨gb149, _, none⟩) (hne := NB0_149.out)) | exact HI0.out))) : gb150 ≠ g)); replace HI0 := Aside0.mk (IsS120.below (by repeat (first | (with_reducible first | exact HI0.out | apply IsS120.alloc | apply IsS120.drewN | apply IsS120.drew | apply IsS120.set_1 | apply IsS120.set_2 | apply IsS120.far (p := ⟨gb149, _, none⟩) (hne := NB0_149.out)) | exact HI0.out)) hb); clear hb hbox hg; have hnb5 := NB150_149.out; have hnc5 := NB149_150.out; have hnb6 := NB150_0.out; have hnc6 := NB0_150.out; obtain ⟨hcz7_0, hcz7_1, hcz7_2, hcz7_3⟩ := cz4 BK150.out; obtain ⟨hfz7_0, hfz7_1, hfz7_2, hfz7_3⟩ := fz4 BK150.out) | ((with_reducible refine gate_callee (f := 40) rfl ?_); refine goesL_ (some 7) rfl rfl Tryd.func40 (by kernel_rfl) rfl #[.pointer (some ⟨g, 0, none⟩), .int .i64 12] rfl lz ?_; (with_reducible refine (spec_l1Below.calls g s0_0 s0_1 s0_2 12 t151 t152 t153 w0 _ ?side1 ?side2 A2.out).mono ?_); (case side1 => repeat (first | (with_reducible first | exact HI0.out | apply IsS120.alloc | apply IsS120.drewN | apply IsS120.drew | apply IsS120.set_1 | apply IsS120.set_2 | apply IsS120.far (p := ⟨gb149, _, none⟩) (hne := NB0_149.out) | apply IsS120.far (p := ⟨gb150, _, none⟩) (hne := NB0_150.out)) | exact HI0.out)); (case side2 => repeat (first | (with_reducible first | exact HB.out | apply below_alloc | apply pw_below_drewN | apply below_drew1 | refine below_set ?_ (IsS120.ge HI0.out) | refine below_set ?_ GE149.out | refine below_set ?_ GE150.out) | exact HB.out)); rintro e w8 ⟨rfl, hi, hb, hk⟩; refine ⟨_, rfl, ?_⟩; replace BK149 := Aside0.mk (KeepBut.blk hk (g' := gb149) (o := .cells #[.slice none 0 0, .slice none 0 0, .slice none 0 0, .slice none 0 0] 29 (0, 0)) (by refine kq ?_; refine blk_far ?_ NB149_150.out _; refine kq ?_; refine blk_far ?_ NB149_150.out _; refine kq ?_; refine blk_far ?_ NB149_150.out _; refine kq ?_; refine blk_far ?_ NB149_150.out _; refine kq ?_; exact BK149.out) NB149_0.out (by simp)); replace BK150 := Aside0.mk (KeepBut.blk hk (g' := gb150) (o := .cells #[.slice none 0 0, .slice none 0 0, .slice none 0 0, .slice none 0 0] 29 (0, 0)) (by refine kq ?_; refine blk_put (cs := #[.slice none 0 0, .slice none 0 0, .slice none 0 0, .slice none 0 0]) ?_ 3 _ rfl; refine kq ?_; refine blk_put (cs := #[.slice none 0 0, .slice none 0 0, .slice none 0 0, .slice none 0 0]) ?_ 2 _ rfl; refine kq ?_; refine blk_put (cs := #[.slice none 0 0, .slice none 0 0, .slice none 0 0, .slice none 0 0]) ?_ 1 _ rfl; refine kq ?_; refine blk_put (cs := #[.slice none 0 0, .slice none 0 0, .slice none 0 0, .slice none 0 0]) ?_ 0 _ rfl; refine kq ?_; exact BK150.out) NB150_0.out (by simp)); replace HK := Aside0.mk (KeepBut.trans (by repeat (first | (with_reducible first | exact HK.out | apply KeepBut.set_ | apply keep_drewN | apply keep_drew | apply keep_alloc | refine keep_far ?_ GW149.out _ | refine keep_far ?_ GW150.out _) | exact HK.out)) hk (.inl rfl)); replace HB := Aside0.mk (hb); replace HI0 := Aside0.mk (hi); (try clear hb); (try clear hk); (try clear hi)))
 (try simp only [Act.put, sz1, sz2, sz3])
 go_loopg [4] k (fun kq v4 w' => ∃ (x4_1 : Int) (x1001_1 : Int) (x1002_1 : Int) (x151000_1 : List (S41)) (x151001_1 : List (S86)) (x151002_1 : List (S47)) (x151003_1 : List (S35)) (u151000 : Value) (u151001 : Value) (u151002 : Value) (u151003 : Value), v4 = .int .i64 x4_1 /\ Aside0 (spec_l10Heap.l0 kq x4_1 s0_0 x1001_1 x1002_1 x151000_1 x151001_1 x151002_1 x151003_1 = some (r1, r2, r3, r4, r5, r6)) /\ Aside0 (kq <= k) /\ Aside0 (Kd.R k41 41 w' w.heap.size (fun _ => True) u151000 x151000_1) /\ Aside0 (Kd.R k86 86 w' w.heap.size (fun _ => True) u151001 x151001_1) /\ Aside0 (Kd.R k47 47 w' w.heap.size (fun _ => True) u151002 x151002_1) /\ Aside0 (Kd.R k35 35 w' w.heap.size (fun _ => True) u151003 x151003_1) /\ Aside0 (w'.heap[gb149]? = some (.cells #[(.slice none 0 0), (.slice none 0 0), (.slice none 0 0), (.slice none 0 0)] 29 (0, 0))) /\ Aside0 (w'.heap[gb150]? = some (.cells #[u151000, u151001, u151002, u151003] 29 (0, 0))) /\ Aside0 (IsS120 w0 w' g s0_0 x1001_1 x1002_1) /\ Aside0 (KeepBut w w' g none) /\ Aside0 (Below w0.heap.size w0 w'))
 case atStart => exact ⟨(t151), (t152), (t153), (([] : List (S41))), (([] : List (S86))), (([] : List (S47))), (([] : List (S35))), (.slice none 0 0), (.slice none 0 0), (.slice none 0 0), (.slice none 0 0), ez, H', ⟨Nat.le_refl _⟩, ⟨by first | exact Kd.R_nil _ _ _ _ _ | exact Kd.N_nil _ _ _ _ _ | exact Kd.V_nil _ _ _ _ _ | exact Kd.Q_nil _ _ _ _ _ | exact Kd.S_nil _ _ _ _ _⟩, ⟨by first | exact Kd.R_nil _ _ _ _ _ | exact Kd.N_nil _ _ _ _ _ | exact Kd.V_nil _ _ _ _ _ | exact Kd.Q_nil _ _ _ _ _ | exact Kd.S_nil _ _ _ _ _⟩, ⟨by first | exact Kd.R_nil _ _ _ _ _ | exact Kd.N_nil _ _ _ _ _ | exact Kd.V_nil _ _ _ _ _ | exact Kd.Q_nil _ _ _ _ _ | exact Kd.S_nil _ _ _ _ _⟩, ⟨by first | exact Kd.R_nil _ _ _ _ _ | exact Kd.N_nil _ _ _ _ _ | exact Kd.V_nil _ _ _ _ _ | exact Kd.Q_nil _ _ _ _ _ | exact Kd.S_nil _ _ _ _ _⟩, ⟨by refine kq ?_; exact BK149.out⟩, ⟨by refine kq ?_; exact BK150.out⟩, ⟨by repeat (first | (with_reducible first | exact HI0.out | apply IsS120.alloc | apply IsS120.drewN | apply IsS120.drew | apply IsS120.set_1 | apply IsS120.set_2 | apply IsS120.far (p := ⟨gb149, _, none⟩) (hne := NB0_149.out) | apply IsS120.far (p := ⟨gb150, _, none⟩) (hne := NB0_150.out)) | exact HI0.out)⟩, ⟨by repeat (first | (with_reducible first | exact HK.out | apply KeepBut.set_ | apply keep_drewN | apply keep_drew | apply keep_alloc | refine keep_far ?_ GW149.out _ | refine keep_far ?_ GW150.out _) | exact HK.out)⟩, ⟨by repeat (first | (with_reducible first | exact HB.out | apply below_alloc | apply pw_below_drewN | apply below_drew1 | refine below_set ?_ (IsS120.ge HI0.out) | refine below_set ?_ GE149.out | refine below_set ?_ GE150.out) | exact HB.out)⟩⟩
 case round =>
  clear H'
  try clear p2
  try clear c3
  try clear c4
  try clear c5
  try clear c6
  try clear hcz7_0 hcz7_1 hcz7_2 hcz7_3
  try clear hfz7_0 hfz7_1 hfz7_2 hfz7_3
  obtain ⟨x4_1, x1001_1, x1002_1, x151000_1, x151001_1, x151002_1, x151003_1, u151000, u151001, u151002, u151003, rfl, HA, HK1, HO_151000, HO_151001, HO_151002, HO_151003, BK149, BK150, HI0, HK, HB⟩ := hrel
  cases gk with
  | zero => exact absurd HA.out (by simp [spec_l10Heap.l0])
  | succ k1 =>
   have H := HA.out
   clear HA
   simp only [spec_l10Heap.l0] at H
   by_cases c9 : x4_1 > 0
   ·rw [if_pos c9] at H
    have c9b0 : decide (0 < x4_1) = true := decide_eq_true c9
    clear c9
    replace H := bi H
    obtain ⟨⟨t154, t155, t156⟩, A100, H⟩ := H
    try dsimp only at H
    have A10 := Aside0.mk A100
    clear A100
    by_cases c11 : t154 = 0
    ·rw [if_pos c11] at H
     have c11b0 : (t154 == 0) = true := beq_iff_eq.mpr c11
     have c11b1 : (t154 != 0) = false := bne_eq_false_iff_eq.mpr c11
     clear c11
     replace H := bi H
     obtain ⟨⟨t157, t158, t159⟩, A120, H⟩ := H
     try dsimp only at H
     have A12 := Aside0.mk A120
     clear A120
     replace H := bi H
     obtain ⟨⟨t160, t161, t162⟩, A130, H⟩ := H
     try dsimp only at H
     have A13 := Aside0.mk A130
     clear A130
     replace H := bi H
     obtain ⟨⟨t163, t164, t165, t166⟩, A140, H⟩ := H
     try dsimp only at H
     have A14 := Aside0.mk A140
     clear A140
     replace H := bi H
     obtain ⟨⟨t167, t168, t169⟩, A150, H⟩ := H
     try dsimp only at H
     have A15 := Aside0.mk A150
     clear A150
     replace H := iz H
     obtain ⟨c16, H⟩ := H
     have LMc16 := Aside0.mk c16
     clear c16
     obtain ⟨y170, hy170⟩ : ∃ y_ : List (S41), y_ = (x151000_1 ++ [(⟨t157, t160, (⟨t163, t164⟩ : S35), wrap64 ((wrap64 ((x151000_1.length : Int) - 1)) - t167)⟩ : S41)]) := ⟨_, rfl⟩
     replace H : (spec_l10Heap.l0 k1 (wrap64 (x4_1 - 1)) s0_0 t168 t169 y170 x151001_1 x151002_1 x151003_1) = some (r1, r2, r3, r4, r5, r6) := yz hy170 H
     have Ny170 := Aside0.mk hy170
     clear hy170
     have H' := Aside0.mk H
     clear H
     try go_wp2_with (first | ((with_reducible refine gate_callee (f := 40) rfl ?_); refine goesL_ (some 13) rfl rfl Tryd.func40 (by kernel_rfl) rfl #[.pointer (some ⟨g, 0, none⟩), .int .i64 4] rfl lz ?_; (with_reducible refine (spec_l1Below.calls g s0_0 x1001_1 x1002_1 4 t154 t155 t156 w0 _ ?side1 ?side2 A10.out).mono ?_); (case side1 => repeat (first | (with_reducible first | exact HI0.out | apply IsS120.alloc | apply IsS120.drewN | apply IsS120.drew | apply IsS120.set_1 | apply IsS120.set_2 | apply IsS120.far (p := ⟨gb149, _, none⟩) (hne := NB0_149.out) | apply IsS120.far (p := ⟨gb150, _, none⟩) (hne := NB0_150.out)) | exact HI0.out)); (case side2 => repeat (first | (with_reducible first | exact HB.out | apply below_alloc | apply pw_below_drewN | apply below_drew1 | refine below_set ?_ (IsS120.ge HI0.out) | refine below_set ?_ GE149.out | refine below_set ?_ GE150.out) | exact HB.out)); rintro e w17 ⟨rfl, hi, hb, hk⟩; refine ⟨_, rfl, ?_⟩; replace HO_151000 := Aside0.mk (Kd.R_mono (Kd.R_keep (IsS120.apart (show IsS120 w0 _ g s0_0 x1001_1 x1002_1 from by repeat (first | (with_reducible first | exact HI0.out | apply IsS120.alloc | apply IsS120.drewN | apply IsS120.drew | apply IsS120.set_1 | apply IsS120.set_2 | apply IsS120.far (p := ⟨gb149, _, none⟩) (hne := NB0_149.out) | apply IsS120.far (p := ⟨gb150, _, none⟩) (hne := NB0_150.out)) | exact HI0.out)) (rz HO_151000.out) (by decide)) hk (fun _ h => h.2)) (fun _ h => h.1)); replace HO_151001 := Aside0.mk (Kd.R_mono (Kd.R_keep (IsS120.apart (show IsS120 w0 _ g s0_0 x1001_1 x1002_1 from by repeat (first | (with_reducible first | exact HI0.out | apply IsS120.alloc | apply IsS120.drewN | apply IsS120.drew | apply IsS120.set_1 | apply IsS120.set_2 | apply IsS120.far (p := ⟨gb149, _, none⟩) (hne := NB0_149.out) | apply IsS120.far (p := ⟨gb150, _, none⟩) (hne := NB0_150.out)) | exact HI0.out)) (rz HO_151001.out) (by decide)) hk (fun _ h => h.2)) (fun _ h => h.1)); replace HO_151002 := Aside0.mk (Kd.R_mono (Kd.R_keep (IsS120.apart (show IsS120 w0 _ g s0_0 x1001_1 x1002_1 from by repeat (first | (with_reducible first | exact HI0.out | apply IsS120.alloc | apply IsS120.drewN | apply IsS120.drew | apply IsS120.set_1 | apply IsS120.set_2 | apply IsS120.far (p := ⟨gb149, _, none⟩) (hne := NB0_149.out) | apply IsS120.far (p := ⟨gb150, _, none⟩) (hne := NB0_150.out)) | exact HI0.out)) (rz HO_151002.out) (by decide)) hk (fun _ h => h.2)) (fun _ h => h.1)); replace HO_151003 := Aside0.mk (Kd.R_mono (Kd.R_keep (IsS120.apart (show IsS120 w0 _ g s0_0 x1001_1 x1002_1 from by repeat (first | (with_reducible first | exact HI0.out | apply IsS120.alloc | apply IsS120.drewN | apply IsS120.drew | apply IsS120.set_1 | apply IsS120.set_2 | apply IsS120.far (p := ⟨gb149, _, none⟩) (hne := NB0_149.out) | apply IsS120.far (p := ⟨gb150, _, none⟩) (hne := NB0_150.out)) | exact HI0.out)) (rz HO_151003.out) (by decide)) hk (fun _ h => h.2)) (fun _ h => h.1)); replace BK149 := Aside0.mk (KeepBut.blk hk (g' := gb149) (o := .cells #[.slice none 0 0, .slice none 0 0, .slice none 0 0, .slice none 0 0] 29 (0, 0)) (kz BK149.out) NB149_0.out (by simp)); replace BK150 := Aside0.mk (KeepBut.blk hk (g' := gb150) (o := .cells #[u151000, u151001, u151002, u151003] 29 (0, 0)) (kz BK150.out) NB150_0.out (by simp)); replace HK := Aside0.mk (KeepBut.trans (by repeat (first | (with_reducible first | exact HK.out | apply KeepBut.set_ | apply keep_drewN | apply keep_drew | apply keep_alloc | refine keep_far ?_ GW149.out _ | refine keep_far ?_ GW150.out _) | exact HK.out)) hk (.inl rfl)); replace HB := Aside0.mk (hb); replace HI0 := Aside0.mk (hi); (try clear hb); (try clear hk); (try clear hi)))
     have n0_ := Aside0.mk (Kd.R_drew HO_151000.out)
     have n1_ := Aside0.mk (Kd.R_drew HO_151001.out)
     have n2_ := Aside0.mk (Kd.R_drew HO_151002.out)
     have n3_ := Aside0.mk (Kd.R_drew HO_151003.out)
     have n4_ := Aside0.mk (blk_drew BK149.out)
     have n5_ := Aside0.mk (blk_drew BK150.out)
     have n6_ := Aside0.mk (IsS120.drew HI0.out)
     have n7_ := Aside0.mk (keep_drew HK.out)
     have n8_ := Aside0.mk (below_drew1 HB.out)
     clear HO_151000
     clear HO_151001
     clear HO_151002
     clear HO_151003
     clear BK149
     clear BK150
     clear HI0
     clear HK
     clear HB
     have HO_151000 := n0_
     have HO_151001 := n1_
     have HO_151002 := n2_
     have HO_151003 := n3_
     have BK149 := n4_
     have BK150 := n5_
     have HI0 := n6_
     have HK := n7_
     have HB := n8_
     clear n0_ n1_ n2_ n3_ n4_ n5_ n6_ n7_ n8_
     obtain ⟨Ao19, co19, eo19⟩ := Kd.R_slice HO_151000.out
     (first | subst eo19 | (injection eo19 with f1_ f2_ f3_; have f4_ := f1_.symm; have f5_ := f3_.symm; clear f1_ f2_ f3_; subst f4_; subst f5_))
     refine start_ (n := 25) (S := fun w' => w'.cell? ⟨gb150, 0, none⟩ = some (.slice Ao19 x151000_1.length co19) /\ w'.cell? ⟨gb150, 1, none⟩ = some (u151001) /\ w'.cell? ⟨gb150, 2, none⟩ = some (u151002) /\ w'.cell? ⟨gb150, 3, none⟩ = some (u151003)) (ds := [24]) (mk_ 0 25) (by kernel_rfl) rfl rfl ⟨(blk_cell BK150.out 0).trans rfl, (blk_cell BK150.out 1).trans rfl, (blk_cell BK150.out 2).trans rfl, (blk_cell BK150.out 3).trans rfl⟩ (fun hHeld => ?_); refine with_tabW spec_l10Heap.tab8 spec_l10Heap.bits8 (fun HT_ HW_ => ?_)
     generalize w17.drew = w18 at HO_151000 HO_151001 HO_151002 HO_151003 BK149 BK150 HI0 HK HB hHeld ⊢
     refine pv 0 24 (mk_ 1 24) HT_ rfl rfl ?_
     refine pv 2 26 (bm_ 25 5) HT_ rfl rfl ?_
     refine pv 4 28 (bm_ 25 21) HT_ rfl rfl ?_
     refine pv 6 30 (bm_ 25 85) HT_ rfl rfl ?_
     refine pv 9 33 (bm_ 25 597) HT_ rfl rfl ?_
     refine pv 13 37 (bm_ 25 8789) HT_ rfl rfl ?_
     refine pv 14 38 (bm_ 25 25173) HT_ rfl rfl ?_
     refine tv4 1 25 (bm_ 25 25175) HT_ HW_ rfl rfl hHeld ?_
     refine tv4 7 31 (bm_ 25 25303) HT_ HW_ rfl rfl hHeld ?_
     refine tv4 10 34 (bm_ 25 26327) HT_ HW_ rfl rfl hHeld ?_
     refine pv 11 35 (bm_ 25 28375) HT_ rfl rfl ?_
     refine pv 12 36 (bm_ 25 32471) HT_ rfl rfl ?_
     refine tv4 15 39 (bm_ 25 65239) HT_ HW_ rfl rfl hHeld ?_
     refine pv 16 40 (bm_ 25 130775) HT_ rfl rfl ?_
     refine pv 17 41 (bm_ 25 261847) HT_ rfl rfl ?_
     refine one_ (i := 3) (N := some 27) (bm_ 25 261855) rfl rfl (one_of HT_.out (by kernel_rfl)) (by decide) (fun K hK => ?_)
     refine goes_ Tryd.func40 (by kernel_rfl) rfl #[.pointer (some ⟨g, 0, none⟩), .int .i64 4] (by rfl) rfl rfl lz ?_
     with_reducible refine (spec_l1Below.calls g s0_0 t155 t156 4 t157 t158 t159 w0 _ ?side1 ?side2 A12.out).mono ?_
     (case side1 => repeat (first | (with_reducible first | exact HI0.out | apply IsS120.alloc | apply IsS120.drewN | apply IsS120.drew | apply IsS120.set_1 | apply IsS120.set_2 | apply IsS120.far (p := ⟨gb149, _, none⟩) (hne := NB0_149.out) | apply IsS120.far (p := ⟨gb150, _, none⟩) (hne := NB0_150.out)) | exact HI0.out))
     (case side2 => repeat (first | (with_reducible first | exact HB.out | apply below_alloc | apply pw_below_drewN | apply below_drew1 | refine below_set ?_ (IsS120.ge HI0.out) | refine below_set ?_ GE149.out | refine below_set ?_ GE150.out) | exact HB.out))
     rintro e w20 ⟨rfl, hi, hb, hk⟩
     refine ⟨_, rfl, ?_⟩
     have n0_ := Aside0.mk (Kd.R_mono (Kd.R_keep (IsS120.apart (show IsS120 w0 _ g s0_0 t155 t156 from by repeat (first | (with_reducible first | exact HI0.out | apply IsS120.alloc | apply IsS120.drewN | apply IsS120.drew | apply IsS120.set_1 | apply IsS120.set_2 | apply IsS120.far (p := ⟨gb149, _, none⟩) (hne := NB0_149.out) | apply IsS120.far (p := ⟨gb150, _, none⟩) (hne := NB0_150.out)) | exact HI0.out)) (rz HO_151000.out) (by decide)) hk (fun _ h => h.2)) (fun _ h => h.1))
     have n1_ := Aside0.mk (Kd.R_mono (Kd.R_keep (IsS120.apart (show IsS120 w0 _ g s0_0 t155 t156 from by repeat (first | (with_reducible first | exact HI0.out | apply IsS120.alloc | apply IsS120.drewN | apply IsS120.drew | apply IsS120.set_1 | apply IsS120.set_2 | apply IsS120.far (p := ⟨gb149, _, none⟩) (hne := NB0_149.out) | apply IsS120.far (p := ⟨gb150, _, none⟩) (hne := NB0_150.out)) | exact HI0.out)) (rz HO_151001.out) (by decide)) hk (fun _ h => h.2)) (fun _ h => h.1))
     have n2_ := Aside0.mk (Kd.R_mono (Kd.R_keep (IsS120.apart (show IsS120 w0 _ g s0_0 t155 t156 from by repeat (first | (with_reducible first | exact HI0.out | apply IsS120.alloc | apply IsS120.drewN | apply IsS120.drew | apply IsS120.set_1 | apply IsS120.set_2 | apply IsS120.far (p := ⟨gb149, _, none⟩) (hne := NB0_149.out) | apply IsS120.far (p := ⟨gb150, _, none⟩) (hne := NB0_150.out)) | exact HI0.out)) (rz HO_151002.out) (by decide)) hk (fun _ h => h.2)) (fun _ h => h.1))
     have n3_ := Aside0.mk (Kd.R_mono (Kd.R_keep (IsS120.apart (show IsS120 w0 _ g s0_0 t155 t156 from by repeat (first | (with_reducible first | exact HI0.out | apply IsS120.alloc | apply IsS120.drewN | apply IsS120.drew | apply IsS120.set_1 | apply IsS120.set_2 | apply IsS120.far (p := ⟨gb149, _, none⟩) (hne := NB0_149.out) | apply IsS120.far (p := ⟨gb150, _, none⟩) (hne := NB0_150.out)) | exact HI0.out)) (rz HO_151003.out) (by decide)) hk (fun _ h => h.2)) (fun _ h => h.1))
     have n4_ := Aside0.mk (KeepBut.blk hk (g' := gb149) (o := .cells #[.slice none 0 0, .slice none 0 0, .slice none 0 0, .slice none 0 0] 29 (0, 0)) (kz BK149.out) NB149_0.out (by simp))
     have n5_ := Aside0.mk (KeepBut.blk hk (g' := gb150) (o := .cells #[.slice Ao19 x151000_1.length co19, u151001, u151002, u151003] 29 (0, 0)) (kz BK150.out) NB150_0.out (by simp))
     have n6_ := Aside0.mk (KeepBut.trans (by repeat (first | (with_reducible first | exact HK.out | apply KeepBut.set_ | apply keep_drewN | apply keep_drew | apply keep_alloc | refine keep_far ?_ GW149.out _ | refine keep_far ?_ GW150.out _) | exact HK.out)) hk (.inl rfl))
     have n7_ := Aside0.mk (hb)
     have n8_ := Aside0.mk (hi)
     clear HO_151000
     clear HO_151001
     clear HO_151002
     clear HO_151003
     clear BK149
     clear BK150
     clear HK
     clear HB
     clear HI0
     have HO_151000 := n0_
     have HO_151001 := n1_
     have HO_151002 := n2_
     have HO_151003 := n3_
     have BK149 := n4_
     have BK150 := n5_
     have HK := n6_
     have HB := n7_
     have HI0 := n8_
     clear n0_ n1_ n2_ n3_ n4_ n5_ n6_ n7_ n8_
     (try clear hb)
     (try clear hb2)
     (try clear hk)
     (try clear hi)
     refine hK.out _ _ ⟨(blk_cell BK150.out 0).trans rfl, (blk_cell BK150.out 1).trans rfl, (blk_cell BK150.out 2).trans rfl, (blk_cell BK150.out 3).trans rfl⟩ (fun hHeld => ?_)
     clear hK K
     refine norm_ (a' := ?_) ?_ ?_
     rotate_left
     ·show Act.put _ (some 27) _ = _
      simp only [Act.put, sz1, sz2, sz3, i64_w, i32_w]
      rfl
     refine one_ (i := 5) (N := some 29) (bm_ 25 261887) rfl rfl (one_of HT_.out (by kernel_rfl)) (by decide) (fun K hK => ?_)
     refine goes_ Tryd.func40 (by kernel_rfl) rfl #[.pointer (some ⟨g, 0, none⟩), .int .i64 2] (by rfl) rfl rfl lz ?_
     with_reducible refine (spec_l1Below.calls g s0_0 t158 t159 2 t160 t161 t162 w0 _ ?side1 ?side2 A13.out).mono ?_
     (case side1 => repeat (first | (with_reducible first | exact HI0.out | apply IsS120.alloc | apply IsS120.drewN | apply IsS120.drew | apply IsS120.set_1 | apply IsS120.set_2 | apply IsS120.far (p := ⟨gb149, _, none⟩) (hne := NB0_149.out) | apply IsS120.far (p := ⟨gb150, _, none⟩) (hne := NB0_150.out)) | exact HI0.out))
     (case side2 => repeat (first | (with_reducible first | exact HB.out | apply below_alloc | apply pw_below_drewN | apply below_drew1 | refine below_set ?_ (IsS120.ge HI0.out) | refine below_set ?_ GE149.out | refine below_set ?_ GE150.out) | exact HB.out))
     rintro e w21 ⟨rfl, hi, hb, hk⟩
     refine ⟨_, rfl, ?_⟩
     have n0_ := Aside0.mk (Kd.R_mono (Kd.R_keep (IsS120.apart (show IsS120 w0 _ g s0_0 t158 t159 from by repeat (first | (with_reducible first | exact HI0.out | apply IsS120.alloc | apply IsS120.drewN | apply IsS120.drew | apply IsS120.set_1 | apply IsS120.set_2 | apply IsS120.far (p := ⟨gb149, _, none⟩) (hne := NB0_149.out) | apply IsS120.far (p := ⟨gb150, _, none⟩) (hne := NB0_150.out)) | exact HI0.out)) (rz HO_151000.out) (by decide)) hk (fun _ h => h.2)) (fun _ h => h.1))
     have n1_ := Aside0.mk (Kd.R_mono (Kd.R_keep (IsS120.apart (show IsS120 w0 _ g s0_0 t158 t159 from by repeat (first | (with_reducible first | exact HI0.out | apply IsS120.alloc | apply IsS120.drewN | apply IsS120.drew | apply IsS120.set_1 | apply IsS120.set_2 | apply IsS120.far (p := ⟨gb149, _, none⟩) (hne := NB0_149.out) | apply IsS120.far (p := ⟨gb150, _, none⟩) (hne := NB0_150.out)) | exact HI0.out)) (rz HO_151001.out) (by decide)) hk (fun _ h => h.2)) (fun _ h => h.1))
     have n2_ := Aside0.mk (Kd.R_mono (Kd.R_keep (IsS120.apart (show IsS120 w0 _ g s0_0 t158 t159 from by repeat (first | (with_reducible first | exact HI0.out | apply IsS120.alloc | apply IsS120.drewN | apply IsS120.drew | apply IsS120.set_1 | apply IsS120.set_2 | apply IsS120.far (p := ⟨gb149, _, none⟩) (hne := NB0_149.out) | apply IsS120.far (p := ⟨gb150, _, none⟩) (hne := NB0_150.out)) | exact HI0.out)) (rz HO_151002.out) (by decide)) hk (fun _ h => h.2)) (fun _ h => h.1))
     have n3_ := Aside0.mk (Kd.R_mono (Kd.R_keep (IsS120.apart (show IsS120 w0 _ g s0_0 t158 t159 from by repeat (first | (with_reducible first | exact HI0.out | apply IsS120.alloc | apply IsS120.drewN | apply IsS120.drew | apply IsS120.set_1 | apply IsS120.set_2 | apply IsS120.far (p := ⟨gb149, _, none⟩) (hne := NB0_149.out) | apply IsS120.far (p := ⟨gb150, _, none⟩) (hne := NB0_150.out)) | exact HI0.out)) (rz HO_151003.out) (by decide)) hk (fun _ h => h.2)) (fun _ h => h.1))
     have n4_ := Aside0.mk (KeepBut.blk hk (g' := gb149) (o := .cells #[.slice none 0 0, .slice none 0 0, .slice none 0 0, .slice none 0 0] 29 (0, 0)) (kz BK149.out) NB149_0.out (by simp))
     have n5_ := Aside0.mk (KeepBut.blk hk (g' := gb150) (o := .cells #[.slice Ao19 x151000_1.length co19, u151001, u151002, u151003] 29 (0, 0)) (kz BK150.out) NB150_0.out (by simp))
     have n6_ := Aside0.mk (KeepBut.trans (by repeat (first | (with_reducible first | exact HK.out | apply KeepBut.set_ | apply keep_drewN | apply keep_drew | apply keep_alloc | refine keep_far ?_ GW149.out _ | refine keep_far ?_ GW150.out _) | exact HK.out)) hk (.inl rfl))
     have n7_ := Aside0.mk (hb)
     have n8_ := Aside0.mk (hi)
     clear HO_151000
     clear HO_151001
     clear HO_151002
     clear HO_151003
     clear BK149
     clear BK150
     clear HK
     clear HB
     clear HI0
     have HO_151000 := n0_
     have HO_151001 := n1_
     have HO_151002 := n2_
     have HO_151003 := n3_
     have BK149 := n4_
     have BK150 := n5_
     have HK := n6_
     have HB := n7_
     have HI0 := n8_
     clear n0_ n1_ n2_ n3_ n4_ n5_ n6_ n7_ n8_
     (try clear hb)
     (try clear hb2)
     (try clear hk)
     (try clear hi)
     obtain ⟨Ao22, co22, eo22⟩ := Kd.R_slice HO_151001.out
     (first | subst eo22 | (injection eo22 with f1_ f2_ f3_; have f4_ := f1_.symm; have f5_ := f3_.symm; clear f1_ f2_ f3_; subst f4_; subst f5_))
     obtain ⟨Ao23, co23, eo23⟩ := Kd.R_slice HO_151002.out
     (first | subst eo23 | (injection eo23 with f1_ f2_ f3_; have f4_ := f1_.symm; have f5_ := f3_.symm; clear f1_ f2_ f3_; subst f4_; subst f5_))
     obtain ⟨Ao24, co24, eo24⟩ := Kd.R_slice HO_151003.out
     (first | subst eo24 | (injection eo24 with f1_ f2_ f3_; have f4_ := f1_.symm; have f5_ := f3_.symm; clear f1_ f2_ f3_; subst f4_; subst f5_))
     refine hK.out _ _ ⟨(blk_cell BK150.out 0).trans rfl, (blk_cell BK150.out 1).trans rfl, (blk_cell BK150.out 2).trans rfl, (blk_cell BK150.out 3).trans rfl⟩ (fun hHeld => ?_)
     clear hK K
     refine norm_ (a' := ?_) ?_ ?_
     rotate_left
     ·show Act.put _ (some 29) _ = _
      simp only [Act.put, sz1, sz2, sz3, i64_w, i32_w]
      rfl
     refine one_ (i := 8) (N := some 32) (mk_ 18 7) rfl rfl (one_of HT_.out (by kernel_rfl)) (by decide) (fun K hK => ?_)
     refine goes_ Tryd.func46 (by kernel_rfl) rfl #[.pointer (some ⟨g, 0, none⟩), .agg #[.slice Ao19 x151000_1.length co19, .slice Ao22 x151001_1.length co22, .slice Ao23 x151002_1.length co23, .slice Ao24 x151003_1.length co24]] (by rfl) rfl rfl lz ?_
     with_reducible refine (spec_l10Val.calls k1 g s0_0 t161 t162 _ _ x151000_1 _ _ x151001_1 _ _ x151002_1 _ _ x151003_1 t163 t164 t165 t166 w0 _ ?side1 ?side2 ?side3 ?side4 ?side5 ?side6 ?side7 ?side8 ?side9 ?side10 A14.out).mono ?_
     (case side1 => repeat (first | (with_reducible first | exact HI0.out | apply IsS120.alloc | apply IsS120.drewN | apply IsS120.drew | apply IsS120.set_1 | apply IsS120.set_2 | apply IsS120.far (p := ⟨gb149, _, none⟩) (hne := NB0_149.out) | apply IsS120.far (p := ⟨gb150, _, none⟩) (hne := NB0_150.out)) | exact HI0.out))
     (case side2 => repeat (first | (with_reducible first | exact HB.out | apply below_alloc | apply pw_below_drewN | apply below_drew1 | refine below_set ?_ (IsS120.ge HI0.out) | refine below_set ?_ GE149.out | refine below_set ?_ GE150.out) | exact HB.out))
     (case side3 => exact Kd.C_foot_own (IsS120.apart (show IsS120 w0 _ g s0_0 t161 t162 from by repeat (first | (with_reducible first | exact HI0.out | apply IsS120.alloc | apply IsS120.drewN | apply IsS120.drew | apply IsS120.set_1 | apply IsS120.set_2 | apply IsS120.far (p := ⟨gb149, _, none⟩) (hne := NB0_149.out) | apply IsS120.far (p := ⟨gb150, _, none⟩) (hne := NB0_150.out)) | exact HI0.out)) (rz HO_151000.out) (by decide)) (fun _ h_ => h_.2))
     (case side4 => exact (Kd.R_reads' HO_151000.out).2.1)
     (case side5 => exact Kd.C_foot_own (IsS120.apart (show IsS120 w0 _ g s0_0 t161 t162 from by repeat (first | (with_reducible first | exact HI0.out | apply IsS120.alloc | apply IsS120.drewN | apply IsS120.drew | apply IsS120.set_1 | apply IsS120.set_2 | apply IsS120.far (p := ⟨gb149, _, none⟩) (hne := NB0_149.out) | apply IsS120.far (p := ⟨gb150, _, none⟩) (hne := NB0_150.out)) | exact HI0.out)) (rz HO_151001.out) (by decide)) (fun _ h_ => h_.2))
     (case side6 => exact (Kd.R_reads' HO_151001.out).2.1)
     (case side7 => exact Kd.C_foot_own (IsS120.apart (show IsS120 w0 _ g s0_0 t161 t162 from by repeat (first | (with_reducible first | exact HI0.out | apply IsS120.alloc | apply IsS120.drewN | apply IsS120.drew | apply IsS120.set_1 | apply IsS120.set_2 | apply IsS120.far (p := ⟨gb149, _, none⟩) (hne := NB0_149.out) | apply IsS120.far (p := ⟨gb150, _, none⟩) (hne := NB0_150.out)) | exact HI0.out)) (rz HO_151002.out) (by decide)) (fun _ h_ => h_.2))
     (case side8 => exact (Kd.R_reads' HO_151002.out).2.1)
     (case side9 => exact Kd.C_foot_own (IsS120.apart (show IsS120 w0 _ g s0_0 t161 t162 from by repeat (first | (with_reducible first | exact HI0.out | apply IsS120.alloc | apply IsS120.drewN | apply IsS120.drew | apply IsS120.set_1 | apply IsS120.set_2 | apply IsS120.far (p := ⟨gb149, _, none⟩) (hne := NB0_149.out) | apply IsS120.far (p := ⟨gb150, _, none⟩) (hne := NB0_150.out)) | exact HI0.out)) (rz HO_151003.out) (by decide)) (fun _ h_ => h_.2))
     (case side10 => exact (Kd.R_reads' HO_151003.out).2.1)
     rintro e w25 ⟨rfl, hi, hb, hk⟩
     refine ⟨_, rfl, ?_⟩
     have n0_ := Aside0.mk (Kd.R_mono (Kd.R_keep (IsS120.apart (show IsS120 w0 _ g s0_0 t161 t162 from by repeat (first | (with_reducible first | exact HI0.out | apply IsS120.alloc | apply IsS120.drewN | apply IsS120.drew | apply IsS120.set_1 | apply IsS120.set_2 | apply IsS120.far (p := ⟨gb149, _, none⟩) (hne := NB0_149.out) | apply IsS120.far (p := ⟨gb150, _, none⟩) (hne := NB0_150.out)) | exact HI0.out)) (rz HO_151000.out) (by decide)) hk (fun _ h => h.2)) (fun _ h => h.1))
     have n1_ := Aside0.mk (Kd.R_mono (Kd.R_keep (IsS120.apart (show IsS120 w0 _ g s0_0 t161 t162 from by repeat (first | (with_reducible first | exact HI0.out | apply IsS120.alloc | apply IsS120.drewN | apply IsS120.drew | apply IsS120.set_1 | apply IsS120.set_2 | apply IsS120.far (p := ⟨gb149, _, none⟩) (hne := NB0_149.out) | apply IsS120.far (p := ⟨gb150, _, none⟩) (hne := NB0_150.out)) | exact HI0.out)) (rz HO_151001.out) (by decide)) hk (fun _ h => h.2)) (fun _ h => h.1))
     have n2_ := Aside0.mk (Kd.R_mono (Kd.R_keep (IsS120.apart (show IsS120 w0 _ g s0_0 t161 t162 from by repeat (first | (with_reducible first | exact HI0.out | apply IsS120.alloc | apply IsS120.drewN | apply IsS120.drew | apply IsS120.set_1 | apply IsS120.set_2 | apply IsS120.far (p := ⟨gb149, _, none⟩) (hne := NB0_149.out) | apply IsS120.far (p := ⟨gb150, _, none⟩) (hne := NB0_150.out)) | exact HI0.out)) (rz HO_151002.out) (by decide)) hk (fun _ h => h.2)) (fun _ h => h.1))
     have n3_ := Aside0.mk (Kd.R_mono (Kd.R_keep (IsS120.apart (show IsS120 w0 _ g s0_0 t161 t162 from by repeat (first | (with_reducible first | exact HI0.out | apply IsS120.alloc | apply IsS120.drewN | apply IsS120.drew | apply IsS120.set_1 | apply IsS120.set_2 | apply IsS120.far (p := ⟨gb149, _, none⟩) (hne := NB0_149.out) | apply IsS120.far (p := ⟨gb150, _, none⟩) (hne := NB0_150.out)) | exact HI0.out)) (rz HO_151003.out) (by decide)) hk (fun _ h => h.2)) (fun _ h => h.1))
     have n4_ := Aside0.mk (KeepBut.blk hk (g' := gb149) (o := .cells #[.slice none 0 0, .slice none 0 0, .slice none 0 0, .slice none 0 0] 29 (0, 0)) (kz BK149.out) NB149_0.out (by simp))
     have n5_ := Aside0.mk (KeepBut.blk hk (g' := gb150) (o := .cells #[.slice Ao19 x151000_1.length co19, .slice Ao22 x151001_1.length co22, .slice Ao23 x151002_1.length co23, .slice Ao24 x151003_1.length co24] 29 (0, 0)) (kz BK150.out) NB150_0.out (by simp))
     have n6_ := Aside0.mk (KeepBut.trans (by repeat (first | (with_reducible first | exact HK.out | apply KeepBut.set_ | apply keep_drewN | apply keep_drew | apply keep_alloc | refine keep_far ?_ GW149.out _ | refine keep_far ?_ GW150.out _) | exact HK.out)) hk (.inl rfl))
     have n7_ := Aside0.mk (hb)
     have n8_ := Aside0.mk (hi)
     clear HO_151000
     clear HO_151001
     clear HO_151002
     clear HO_151003
     clear BK149
     clear BK150
     clear HK
     clear HB
     clear HI0
     have HO_151000 := n0_
     have HO_151001 := n1_
     have HO_151002 := n2_
     have HO_151003 := n3_
     have BK149 := n4_
     have BK150 := n5_
     have HK := n6_
     have HB := n7_
     have HI0 := n8_
     clear n0_ n1_ n2_ n3_ n4_ n5_ n6_ n7_ n8_
     (try clear hb)
     (try clear hb2)
     (try clear hk)
     (try clear hi)
     refine hK.out _ _ ⟨(blk_cell BK150.out 0).trans rfl, (blk_cell BK150.out 1).trans rfl, (blk_cell BK150.out 2).trans rfl, (blk_cell BK150.out 3).trans rfl⟩ (fun hHeld => ?_)
     clear hK K
     refine norm_ (a' := ?_) ?_ ?_
     rotate_left
     ·show Act.put _ (some 32) _ = _
      simp only [Act.put, sz1, sz2, sz3, i64_w, i32_w]
      rfl
     refine one_ (i := 18) (N := some 42) (mk_ 19 6) rfl rfl (one_of HT_.out (by kernel_rfl)) (by decide) (fun K hK => ?_)
     refine goes_ Tryd.func40 (by kernel_rfl) rfl #[.pointer (some ⟨g, 0, none⟩), .int .i64 (wrap64 ((x151000_1.length : Int) + 1))] (by rfl) rfl rfl lz ?_
     with_reducible refine (spec_l1Below.calls g s0_0 t165 t166 (wrap64 ((x151000_1.length : Int) + 1)) t167 t168 t169 w0 _ ?side1 ?side2 A15.out).mono ?_
     (case side1 => repeat (first | (with_reducible first | exact HI0.out | apply IsS120.alloc | apply IsS120.drewN | apply IsS120.drew | apply IsS120.set_1 | apply IsS120.set_2 | apply IsS120.far (p := ⟨gb149, _, none⟩) (hne := NB0_149.out) | apply IsS120.far (p := ⟨gb150, _, none⟩) (hne := NB0_150.out)) | exact HI0.out))
     (case side2 => repeat (first | (with_reducible first | exact HB.out | apply below_alloc | apply pw_below_drewN | apply below_drew1 | refine below_set ?_ (IsS120.ge HI0.out) | refine below_set ?_ GE149.out | refine below_set ?_ GE150.out) | exact HB.out))
     rintro e w26 ⟨rfl, hi, hb, hk⟩
     refine ⟨_, rfl, ?_⟩
     have n0_ := Aside0.mk (Kd.R_mono (Kd.R_keep (IsS120.apart (show IsS120 w0 _ g s0_0 t165 t166 from by repeat (first | (with_reducible first | exact HI0.out | apply IsS120.alloc | apply IsS120.drewN | apply IsS120.drew | apply IsS120.set_1 | apply IsS120.set_2 | apply IsS120.far (p := ⟨gb149, _, none⟩) (hne := NB0_149.out) | apply IsS120.far (p := ⟨gb150, _, none⟩) (hne := NB0_150.out)) | exact HI0.out)) (rz HO_151000.out) (by decide)) hk (fun _ h => h.2)) (fun _ h => h.1))
     have n1_ := Aside0.mk (Kd.R_mono (Kd.R_keep (IsS120.apart (show IsS120 w0 _ g s0_0 t165 t166 from by repeat (first | (with_reducible first | exact HI0.out | apply IsS120.alloc | apply IsS120.drewN | apply IsS120.drew | apply IsS120.set_1 | apply IsS120.set_2 | apply IsS120.far (p := ⟨gb149, _, none⟩) (hne := NB0_149.out) | apply IsS120.far (p := ⟨gb150, _, none⟩) (hne := NB0_150.out)) | exact HI0.out)) (rz HO_151001.out) (by decide)) hk (fun _ h => h.2)) (fun _ h => h.1))
     have n2_ := Aside0.mk (Kd.R_mono (Kd.R_keep (IsS120.apart (show IsS120 w0 _ g s0_0 t165 t166 from by repeat (first | (with_reducible first | exact HI0.out | apply IsS120.alloc | apply IsS120.drewN | apply IsS120.drew | apply IsS120.set_1 | apply IsS120.set_2 | apply IsS120.far (p := ⟨gb149, _, none⟩) (hne := NB0_149.out) | apply IsS120.far (p := ⟨gb150, _, none⟩) (hne := NB0_150.out)) | exact HI0.out)) (rz HO_151002.out) (by decide)) hk (fun _ h => h.2)) (fun _ h => h.1))
     have n3_ := Aside0.mk (Kd.R_mono (Kd.R_keep (IsS120.apart (show IsS120 w0 _ g s0_0 t165 t166 from by repeat (first | (with_reducible first | exact HI0.out | apply IsS120.alloc | apply IsS120.drewN | apply IsS120.drew | apply IsS120.set_1 | apply IsS120.set_2 | apply IsS120.far (p := ⟨gb149, _, none⟩) (hne := NB0_149.out) | apply IsS120.far (p := ⟨gb150, _, none⟩) (hne := NB0_150.out)) | exact HI0.out)) (rz HO_151003.out) (by decide)) hk (fun _ h => h.2)) (fun _ h => h.1))
     have n4_ := Aside0.mk (KeepBut.blk hk (g' := gb149) (o := .cells #[.slice none 0 0, .slice none 0 0, .slice none 0 0, .slice none 0 0] 29 (0, 0)) (kz BK149.out) NB149_0.out (by simp))
     have n5_ := Aside0.mk (KeepBut.blk hk (g' := gb150) (o := .cells #[.slice Ao19 x151000_1.length co19, .slice Ao22 x151001_1.length co22, .slice Ao23 x151002_1.length co23, .slice Ao24 x151003_1.length co24] 29 (0, 0)) (kz BK150.out) NB150_0.out (by simp))
     have n6_ := Aside0.mk (KeepBut.trans (by repeat (first | (with_reducible first | exact HK.out | apply KeepBut.set_ | apply keep_drewN | apply keep_drew | apply keep_alloc | refine keep_far ?_ GW149.out _ | refine keep_far ?_ GW150.out _) | exact HK.out)) hk (.inl rfl))
     have n7_ := Aside0.mk (hb)
     have n8_ := Aside0.mk (hi)
     clear HO_151000
     clear HO_151001
     clear HO_151002
     clear HO_151003
     clear BK149
     clear BK150
     clear HK
     clear HB
     clear HI0
     have HO_151000 := n0_
     have HO_151001 := n1_
     have HO_151002 := n2_
     have HO_151003 := n3_
     have BK149 := n4_
     have BK150 := n5_
     have HK := n6_
     have HB := n7_
     have HI0 := n8_
     clear n0_ n1_ n2_ n3_ n4_ n5_ n6_ n7_ n8_
     (try clear hb)
     (try clear hb2)
     (try clear hk)
     (try clear hi)
     refine hK.out _ _ ⟨(blk_cell BK150.out 0).trans rfl, (blk_cell BK150.out 1).trans rfl, (blk_cell BK150.out 2).trans rfl, (blk_cell BK150.out 3).trans rfl⟩ (fun hHeld => ?_)
     clear hK K
     refine norm_ (a' := ?_) ?_ ?_
     rotate_left
     ·show Act.put _ (some 42) _ = _
      simp only [Act.put, sz1, sz2, sz3, i64_w, i32_w]
      rfl
     refine pv 19 43 (mk_ 20 5) HT_ rfl rfl ?_
     refine pv 20 44 (mk_ 21 4) HT_ rfl rfl ?_
     refine one_ (i := 21) (N := some 45) (mk_ 22 3) rfl rfl (one_of HT_.out (by kernel_rfl)) (by decide) (fun K hK => ?_)
     refine value_ (w1 := ?_) (v := ?_) (by rfl) rfl ?_ ?_
     rotate_left 2
     ·go_simp
      constructor
      ·rfl
      ·rfl
     refine hK.out _ _ ⟨(blk_cell (blk_alloc BK150.out _) 0).trans rfl, (blk_cell (blk_alloc BK150.out _) 1).trans rfl, (blk_cell (blk_alloc BK150.out _) 2).trans rfl, (blk_cell (blk_alloc BK150.out _) 3).trans rfl⟩ (fun hHeld => ?_)
     clear hK K
     refine norm_ (a' := ?_) ?_ ?_
     rotate_left
     ·show Act.put _ (some 45) _ = _
      simp only [Act.put, sz1, sz2, sz3, i64_w, i32_w]
      rfl
     refine one_ (i := 22) (N := some 46) (mk_ 23 2) rfl rfl (one_of HT_.out (by kernel_rfl)) (by decide) (fun K hK => ?_)
     refine Kd.R_append_step k41 w.heap.size (by rfl) (.tmp 25) (.tmp 45) 24 41 (.agg #[(.int .i64 0), (.int .i64 0), (.int .i64 0), (.int .i64 0), (.int .i64 0)]) 40 rfl Tryd.underlying24 info41 rfl (by decide) (by omega) (.slice Ao19 x151000_1.length co19) x151000_1 (⟨t157, t160, (⟨t163, t164⟩ : S35), wrap64 ((wrap64 ((x151000_1.length : Int) - 1)) - t167)⟩ : S41) [.int .i64 t157, .int .i64 t160, .int .i64 t163, .int .i64 t164, .int .i64 (wrap64 ((wrap64 ((x151000_1.length : Int) - 1)) - t167))] (fun _ => True) (fun _ => False) rfl rfl ?aP (fun _ hk => hk.elim) ?aF ?aO (Below.refl _ _) ?aS ?aL ?_
     (case aP => exact k41_mkM _ _ _ (⟨t157, t160, (⟨t163, t164⟩ : S35), wrap64 ((wrap64 ((x151000_1.length : Int) - 1)) - t167)⟩ : S41))
     (case aF => exact (fun _ _ => trivial))
     (case aO => exact (rz HO_151000.out))
     (case aS => exact (keep_size (w := w) (g := g) (row := none) (by repeat (first | (with_reducible first | exact HK.out | apply KeepBut.set_ | apply keep_drewN | apply keep_drew | apply keep_alloc | refine keep_far ?_ GW149.out _ | refine keep_far ?_ GW150.out _) | exact HK.out))))
     (case aL => have := LMc16.out; omega)
     intro v171 w27 ho hb hg hat
     rw [<- Ny170.out] at ho
     have n0_ := Aside0.mk (Kd.R_over' (rz HO_151001.out) (Kd.R_typed (rz HO_151000.out)) (by decide) hg)
     have n1_ := Aside0.mk (Kd.R_over' (rz HO_151002.out) (Kd.R_typed (rz HO_151000.out)) (by decide) hg)
     have n2_ := Aside0.mk (Kd.R_over' (rz HO_151003.out) (Kd.R_typed (rz HO_151000.out)) (by decide) hg)
     have n3_ := Aside0.mk (blk_grown (g := gb149) (o := .cells #[.slice none 0 0, .slice none 0 0, .slice none 0 0, .slice none 0 0] 29 (0, 0)) (kz BK149.out) hg (Kd.R_ne HO_151000.out BK149.out (by decide)))
     have n4_ := Aside0.mk (blk_grown (g := gb150) (o := .cells #[.slice Ao19 x151000_1.length co19, .slice Ao22 x151001_1.length co22, .slice Ao23 x151002_1.length co23, .slice Ao24 x151003_1.length co24] 29 (0, 0)) (kz BK150.out) hg (Kd.R_ne HO_151000.out BK150.out (by decide)))
     have n5_ := Aside0.mk (IsS120.grown (by repeat (first | (with_reducible first | exact HI0.out | apply IsS120.alloc | apply IsS120.drewN | apply IsS120.drew | apply IsS120.set_1 | apply IsS120.set_2 | apply IsS120.far (p := ⟨gb149, _, none⟩) (hne := NB0_149.out) | apply IsS120.far (p := ⟨gb150, _, none⟩) (hne := NB0_150.out)) | exact HI0.out)) hg (IsS120.own_ne HI0.out HO_151000.out (by decide)))
     have n6_ := Aside0.mk (below_weaken (by repeat (first | (with_reducible first | exact HB.out | apply below_alloc | apply pw_below_drewN | apply below_drew1 | refine below_set ?_ (IsS120.ge HI0.out) | refine below_set ?_ GE149.out | refine below_set ?_ GE150.out) | exact HB.out)) HL.out hb)
     have n7_ := Aside0.mk (KeepBut.trans (by repeat (first | (with_reducible first | exact HK.out | apply KeepBut.set_ | apply keep_drewN | apply keep_drew | apply keep_alloc | refine keep_far ?_ GW149.out _ | refine keep_far ?_ GW150.out _) | exact HK.out)) (KeepBut.of_grown hg g) (Kd.R_base2 HO_151000.out))
     have n8_ := Aside0.mk (ho)
     clear HO_151001
     clear HO_151002
     clear HO_151003
     clear BK149
     clear BK150
     clear HI0
     clear HB
     clear HK
     clear HO_151000
     have HO_151001 := n0_
     have HO_151002 := n1_
     have HO_151003 := n2_
     have BK149 := n3_
     have BK150 := n4_
     have HI0 := n5_
     have HB := n6_
     have HK := n7_
     have HO172 := n8_
     clear n0_ n1_ n2_ n3_ n4_ n5_ n6_ n7_ n8_
     clear ho hb hg hat
     obtain ⟨Ao28, co28, eo28⟩ := Kd.R_slice HO172.out
     (first | subst eo28 | (injection eo28 with f1_ f2_ f3_; have f4_ := f1_.symm; have f5_ := f3_.symm; clear f1_ f2_ f3_; subst f4_; subst f5_))
     refine hK.out _ _ ⟨(blk_cell BK150.out 0).trans rfl, (blk_cell BK150.out 1).trans rfl, (blk_cell BK150.out 2).trans rfl, (blk_cell BK150.out 3).trans rfl⟩ (fun hHeld => ?_)
     clear hK K
     refine norm_ (a' := ?_) ?_ ?_
     rotate_left
     ·show Act.put _ (some 46) _ = _
      simp only [Act.put, sz1, sz2, sz3, i64_w, i32_w]
      rfl
     refine pv 23 47 (mk_ 24 1) HT_ rfl rfl ?_
     refine last_ (i := 24) (N := none) #[true, true, true, true, true, true, true, true, true, true, true, true, true, true, true, true, true, true, true, true, true, true, true, true, true] rfl rfl (one_of HT_.out (by kernel_rfl)) (by decide) (fun K hK => ?_)
     have hs29 : w27.cell? ⟨gb150, 0, none⟩ = some (.slice Ao19 x151000_1.length co19) := (blk_cell BK150.out 0).trans rfl
     have hfs29 := blk_frozen BK150.out 0
     have hns29_0 := NB149_150.out
     have hms29_0 := NB150_149.out
     refine skip_ (w1 := ?_) (by rfl) rfl ?_ ?_
     rotate_left
     ·go_simp
      rfl
     refine hK.out _ _ ?_
     clear hK K
     refine done_ (done_of HT_.out (by kernel_rfl)) ?_
     try go_wp2
     go_roundg k1
     case measure => have := HK1.out; omega
     case rel => exact ⟨(wrap64 (x4_1 - 1)), (t168), (t169), (y170), (x151001_1), (x151002_1), (x151003_1), (.slice Ao28 y170.length co28), (.slice Ao22 x151001_1.length co22), (.slice Ao23 x151002_1.length co23), (.slice Ao24 x151003_1.length co24), ez, H', ⟨by have := HK1.out; omega⟩, ⟨by refine rq ?_; exact Kd.R_mono (Kd.R_far (p := ⟨gb150, 0, none⟩) (Kd.R_types HO172.out BK150.out (by decide)) (fun _ hk => hk.2) (.slice Ao28 y170.length co28)) (fun _ hk => trivial)⟩, ⟨by refine rq ?_; exact Kd.R_mono (Kd.R_far (p := ⟨gb150, 0, none⟩) (Kd.R_types HO_151001.out BK150.out (by decide)) (fun _ hk => hk.2) (.slice Ao28 y170.length co28)) (fun _ hk => trivial)⟩, ⟨by refine rq ?_; exact Kd.R_mono (Kd.R_far (p := ⟨gb150, 0, none⟩) (Kd.R_types HO_151002.out BK150.out (by decide)) (fun _ hk => hk.2) (.slice Ao28 y170.length co28)) (fun _ hk => trivial)⟩, ⟨by refine rq ?_; exact Kd.R_mono (Kd.R_far (p := ⟨gb150, 0, none⟩) (Kd.R_types HO_151003.out BK150.out (by decide)) (fun _ hk => hk.2) (.slice Ao28 y170.length co28)) (fun _ hk => trivial)⟩, ⟨by refine kq ?_; refine blk_far ?_ NB149_150.out _; refine kq ?_; exact BK149.out⟩, ⟨by refine kq ?_; refine blk_put (cs := #[.slice Ao19 x151000_1.length co19, .slice Ao22 x151001_1.length co22, .slice Ao23 x151002_1.length co23, .slice Ao24 x151003_1.length co24]) ?_ 0 _ rfl; refine kq ?_; exact BK150.out⟩, ⟨by repeat (first | (with_reducible first | exact HI0.out | apply IsS120.alloc | apply IsS120.drewN | apply IsS120.drew | apply IsS120.set_1 | apply IsS120.set_2 | apply IsS120.far (p := ⟨gb149, _, none⟩) (hne := NB0_149.out) | apply IsS120.far (p := ⟨gb150, _, none⟩) (hne := NB0_150.out)) | exact HI0.out)⟩, ⟨by repeat (first | (with_reducible first | exact HK.out | apply KeepBut.set_ | apply keep_drewN | apply keep_drew | apply keep_alloc | refine keep_far ?_ GW149.out _ | refine keep_far ?_ GW150.out _) | exact HK.out)⟩, ⟨by repeat (first | (with_reducible first | exact HB.out | apply below_alloc | apply pw_below_drewN | apply below_drew1 | refine below_set ?_ (IsS120.ge HI0.out) | refine below_set ?_ GE149.out | refine below_set ?_ GE150.out) | exact HB.out)⟩⟩
    ·rw [if_neg c11] at H
     have c11b0 : (t154 == 0) = false := beq_eq_false_iff_ne.mpr c11
     have c11b1 : (t154 != 0) = true := bne_iff_ne.mpr c11
     by_cases c30 : t154 = 1
     ·rw [if_pos c30] at H
      have c30b0 : (t154 == 1) = true := beq_iff_eq.mpr c30
      have c30b1 : (t154 != 1) = false := bne_eq_false_iff_eq.mpr c30
      clear c30
      replace H := bi H
      obtain ⟨⟨t173, t174, t175⟩, A310, H⟩ := H
      try dsimp only at H
      have A31 := Aside0.mk A310
      clear A310
      replace H := iz H
      obtain ⟨c32, H⟩ := H
      have LMc32 := Aside0.mk c32
      clear c32
      obtain ⟨y176, hy176⟩ : ∃ y_ : List (S86), y_ = (x151001_1 ++ [(⟨t173, wrap64 ((x151000_1.length : Int) - 1)⟩ : S86)]) := ⟨_, rfl⟩
      replace H : (spec_l10Heap.l0 k1 (wrap64 (x4_1 - 1)) s0_0 t174 t175 x151000_1 y176 x151002_1 x151003_1) = some (r1, r2, r3, r4, r5, r6) := yz hy176 H
      have Ny176 := Aside0.mk hy176
      clear hy176
      have H' := Aside0.mk H
      clear H
      try go_wp2_with (first | ((with_reducible refine gate_callee (f := 40) rfl ?_); refine goesL_ (some 13) rfl rfl Tryd.func40 (by kernel_rfl) rfl #[.pointer (some ⟨g, 0, none⟩), .int .i64 4] rfl lz ?_; (with_reducible refine (spec_l1Below.calls g s0_0 x1001_1 x1002_1 4 t154 t155 t156 w0 _ ?side1 ?side2 A10.out).mono ?_); (case side1 => repeat (first | (with_reducible first | exact HI0.out | apply IsS120.alloc | apply IsS120.drewN | apply IsS120.drew | apply IsS120.set_1 | apply IsS120.set_2 | apply IsS120.far (p := ⟨gb149, _, none⟩) (hne := NB0_149.out) | apply IsS120.far (p := ⟨gb150, _, none⟩) (hne := NB0_150.out)) | exact HI0.out)); (case side2 => repeat (first | (with_reducible first | exact HB.out | apply below_alloc | apply pw_below_drewN | apply below_drew1 | refine below_set ?_ (IsS120.ge HI0.out) | refine below_set ?_ GE149.out | refine below_set ?_ GE150.out) | exact HB.out)); rintro e w33 ⟨rfl, hi, hb, hk⟩; refine ⟨_, rfl, ?_⟩; replace HO_151000 := Aside0.mk (Kd.R_mono (Kd.R_keep (IsS120.apart (show IsS120 w0 _ g s0_0 x1001_1 x1002_1 from by repeat (first | (with_reducible first | exact HI0.out | apply IsS120.alloc | apply IsS120.drewN | apply IsS120.drew | apply IsS120.set_1 | apply IsS120.set_2 | apply IsS120.far (p := ⟨gb149, _, none⟩) (hne := NB0_149.out) | apply IsS120.far (p := ⟨gb150, _, none⟩) (hne := NB0_150.out)) | exact HI0.out)) (rz HO_151000.out) (by decide)) hk (fun _ h => h.2)) (fun _ h => h.1)); replace HO_151001 := Aside0.mk (Kd.R_mono (Kd.R_keep (IsS120.apart (show IsS120 w0 _ g s0_0 x1001_1 x1002_1 from by repeat (first | (with_reducible first | exact HI0.out | apply IsS120.alloc | apply IsS120.drewN | apply IsS120.drew | apply IsS120.set_1 | apply IsS120.set_2 | apply IsS120.far (p := ⟨gb149, _, none⟩) (hne := NB0_149.out) | apply IsS120.far (p := ⟨gb150, _, none⟩) (hne := NB0_150.out)) | exact HI0.out)) (rz HO_151001.out) (by decide)) hk (fun _ h => h.2)) (fun _ h => h.1)); replace HO_151002 := Aside0.mk (Kd.R_mono (Kd.R_keep (IsS120.apart (show IsS120 w0 _ g s0_0 x1001_1 x1002_1 from by repeat (first | (with_reducible first | exact HI0.out | apply IsS120.alloc | apply IsS120.drewN | apply IsS120.drew | apply IsS120.set_1 | apply IsS120.set_2 | apply IsS120.far (p := ⟨gb149, _, none⟩) (hne := NB0_149.out) | apply IsS120.far (p := ⟨gb150, _, none⟩) (hne := NB0_150.out)) | exact HI0.out)) (rz HO_151002.out) (by decide)) hk (fun _ h => h.2)) (fun _ h => h.1)); replace HO_151003 := Aside0.mk (Kd.R_mono (Kd.R_keep (IsS120.apart (show IsS120 w0 _ g s0_0 x1001_1 x1002_1 from by repeat (first | (with_reducible first | exact HI0.out | apply IsS120.alloc | apply IsS120.drewN | apply IsS120.drew | apply IsS120.set_1 | apply IsS120.set_2 | apply IsS120.far (p := ⟨gb149, _, none⟩) (hne := NB0_149.out) | apply IsS120.far (p := ⟨gb150, _, none⟩) (hne := NB0_150.out)) | exact HI0.out)) (rz HO_151003.out) (by decide)) hk (fun _ h => h.2)) (fun _ h => h.1)); replace BK149 := Aside0.mk (KeepBut.blk hk (g' := gb149) (o := .cells #[.slice none 0 0, .slice none 0 0, .slice none 0 0, .slice none 0 0] 29 (0, 0)) (kz BK149.out) NB149_0.out (by simp)); replace BK150 := Aside0.mk (KeepBut.blk hk (g' := gb150) (o := .cells #[u151000, u151001, u151002, u151003] 29 (0, 0)) (kz BK150.out) NB150_0.out (by simp)); replace HK := Aside0.mk (KeepBut.trans (by repeat (first | (with_reducible first | exact HK.out | apply KeepBut.set_ | apply keep_drewN | apply keep_drew | apply keep_alloc | refine keep_far ?_ GW149.out _ | refine keep_far ?_ GW150.out _) | exact HK.out)) hk (.inl rfl)); replace HB := Aside0.mk (hb); replace HI0 := Aside0.mk (hi); (try clear hb); (try clear hk); (try clear hi)))
      have n0_ := Aside0.mk (Kd.R_drew HO_151000.out)
      have n1_ := Aside0.mk (Kd.R_drew HO_151001.out)
      have n2_ := Aside0.mk (Kd.R_drew HO_151002.out)
      have n3_ := Aside0.mk (Kd.R_drew HO_151003.out)
      have n4_ := Aside0.mk (blk_drew BK149.out)
      have n5_ := Aside0.mk (blk_drew BK150.out)
      have n6_ := Aside0.mk (IsS120.drew HI0.out)
      have n7_ := Aside0.mk (keep_drew HK.out)
      have n8_ := Aside0.mk (below_drew1 HB.out)
      clear HO_151000
      clear HO_151001
      clear HO_151002
      clear HO_151003
      clear BK149
      clear BK150
      clear HI0
      clear HK
      clear HB
      have HO_151000 := n0_
      have HO_151001 := n1_
      have HO_151002 := n2_
      have HO_151003 := n3_
      have BK149 := n4_
      have BK150 := n5_
      have HI0 := n6_
      have HK := n7_
      have HB := n8_
      clear n0_ n1_ n2_ n3_ n4_ n5_ n6_ n7_ n8_
      obtain ⟨Ao35, co35, eo35⟩ := Kd.R_slice HO_151000.out
      (first | subst eo35 | (injection eo35 with f1_ f2_ f3_; have f4_ := f1_.symm; have f5_ := f3_.symm; clear f1_ f2_ f3_; subst f4_; subst f5_))
      refine start_ (n := 13) (S := fun w' => w'.cell? ⟨gb150, 0, none⟩ = some (.slice Ao35 x151000_1.length co35) /\ w'.cell? ⟨gb150, 1, none⟩ = some (u151001) /\ w'.cell? ⟨gb150, 2, none⟩ = some (u151002) /\ w'.cell? ⟨gb150, 3, none⟩ = some (u151003)) (ds := [12]) (mk_ 0 13) (by kernel_rfl) rfl rfl ⟨(blk_cell BK150.out 0).trans rfl, (blk_cell BK150.out 1).trans rfl, (blk_cell BK150.out 2).trans rfl, (blk_cell BK150.out 3).trans rfl⟩ (fun hHeld => ?_); refine with_tabW spec_l10Heap.tab10 spec_l10Heap.bits10 (fun HT_ HW_ => ?_)
      generalize w33.drew = w34 at HO_151000 HO_151001 HO_151002 HO_151003 BK149 BK150 HI0 HK HB hHeld ⊢
      refine pv 0 50 (mk_ 1 12) HT_ rfl rfl ?_
      refine pv 2 52 (bm_ 13 5) HT_ rfl rfl ?_
      refine pv 4 54 (bm_ 13 21) HT_ rfl rfl ?_
      refine tv4 1 51 (bm_ 13 23) HT_ HW_ rfl rfl hHeld ?_
      refine tv4 5 55 (bm_ 13 55) HT_ HW_ rfl rfl hHeld ?_
      refine pv 6 56 (bm_ 13 119) HT_ rfl rfl ?_
      refine pv 7 57 (bm_ 13 247) HT_ rfl rfl ?_
      refine one_ (i := 3) (N := some 53) (mk_ 8 5) rfl rfl (one_of HT_.out (by kernel_rfl)) (by decide) (fun K hK => ?_)
      refine goes_ Tryd.func40 (by kernel_rfl) rfl #[.pointer (some ⟨g, 0, none⟩), .int .i64 5] (by rfl) rfl rfl lz ?_
      with_reducible refine (spec_l1Below.calls g s0_0 t155 t156 5 t173 t174 t175 w0 _ ?side1 ?side2 A31.out).mono ?_
      (case side1 => repeat (first | (with_reducible first | exact HI0.out | apply IsS120.alloc | apply IsS120.drewN | apply IsS120.drew | apply IsS120.set_1 | apply IsS120.set_2 | apply IsS120.far (p := ⟨gb149, _, none⟩) (hne := NB0_149.out) | apply IsS120.far (p := ⟨gb150, _, none⟩) (hne := NB0_150.out)) | exact HI0.out))
      (case side2 => repeat (first | (with_reducible first | exact HB.out | apply below_alloc | apply pw_below_drewN | apply below_drew1 | refine below_set ?_ (IsS120.ge HI0.out) | refine below_set ?_ GE149.out | refine below_set ?_ GE150.out) | exact HB.out))
      rintro e w36 ⟨rfl, hi, hb, hk⟩
      refine ⟨_, rfl, ?_⟩
      have n0_ := Aside0.mk (Kd.R_mono (Kd.R_keep (IsS120.apart (show IsS120 w0 _ g s0_0 t155 t156 from by repeat (first | (with_reducible first | exact HI0.out | apply IsS120.alloc | apply IsS120.drewN | apply IsS120.drew | apply IsS120.set_1 | apply IsS120.set_2 | apply IsS120.far (p := ⟨gb149, _, none⟩) (hne := NB0_149.out) | apply IsS120.far (p := ⟨gb150, _, none⟩) (hne := NB0_150.out)) | exact HI0.out)) (rz HO_151000.out) (by decide)) hk (fun _ h => h.2)) (fun _ h => h.1))
      have n1_ := Aside0.mk (Kd.R_mono (Kd.R_keep (IsS120.apart (show IsS120 w0 _ g s0_0 t155 t156 from by repeat (first | (with_reducible first | exact HI0.out | apply IsS120.alloc | apply IsS120.drewN | apply IsS120.drew | apply IsS120.set_1 | apply IsS120.set_2 | apply IsS120.far (p := ⟨gb149, _, none⟩) (hne := NB0_149.out) | apply IsS120.far (p := ⟨gb150, _, none⟩) (hne := NB0_150.out)) | exact HI0.out)) (rz HO_151001.out) (by decide)) hk (fun _ h => h.2)) (fun _ h => h.1))
      have n2_ := Aside0.mk (Kd.R_mono (Kd.R_keep (IsS120.apart (show IsS120 w0 _ g s0_0 t155 t156 from by repeat (first | (with_reducible first | exact HI0.out | apply IsS120.alloc | apply IsS120.drewN | apply IsS120.drew | apply IsS120.set_1 | apply IsS120.set_2 | apply IsS120.far (p := ⟨gb149, _, none⟩) (hne := NB0_149.out) | apply IsS120.far (p := ⟨gb150, _, none⟩) (hne := NB0_150.out)) | exact HI0.out)) (rz HO_151002.out) (by decide)) hk (fun _ h => h.2)) (fun _ h => h.1))
      have n3_ := Aside0.mk (Kd.R_mono (Kd.R_keep (IsS120.apart (show IsS120 w0 _ g s0_0 t155 t156 from by repeat (first | (with_reducible first | exact HI0.out | apply IsS120.alloc | apply IsS120.drewN | apply IsS120.drew | apply IsS120.set_1 | apply IsS120.set_2 | apply IsS120.far (p := ⟨gb149, _, none⟩) (hne := NB0_149.out) | apply IsS120.far (p := ⟨gb150, _, none⟩) (hne := NB0_150.out)) | exact HI0.out)) (rz HO_151003.out) (by decide)) hk (fun _ h => h.2)) (fun _ h => h.1))
      have n4_ := Aside0.mk (KeepBut.blk hk (g' := gb149) (o := .cells #[.slice none 0 0, .slice none 0 0, .slice none 0 0, .slice none 0 0] 29 (0, 0)) (kz BK149.out) NB149_0.out (by simp))
      have n5_ := Aside0.mk (KeepBut.blk hk (g' := gb150) (o := .cells #[.slice Ao35 x151000_1.length co35, u151001, u151002, u151003] 29 (0, 0)) (kz BK150.out) NB150_0.out (by simp))
      have n6_ := Aside0.mk (KeepBut.trans (by repeat (first | (with_reducible first | exact HK.out | apply KeepBut.set_ | apply keep_drewN | apply keep_drew | apply keep_alloc | refine keep_far ?_ GW149.out _ | refine keep_far ?_ GW150.out _) | exact HK.out)) hk (.inl rfl))
      have n7_ := Aside0.mk (hb)
      have n8_ := Aside0.mk (hi)
      clear HO_151000
      clear HO_151001
      clear HO_151002
      clear HO_151003
      clear BK149
      clear BK150
      clear HK
      clear HB
      clear HI0
      have HO_151000 := n0_
      have HO_151001 := n1_
      have HO_151002 := n2_
      have HO_151003 := n3_
      have BK149 := n4_
      have BK150 := n5_
      have HK := n6_
      have HB := n7_
      have HI0 := n8_
      clear n0_ n1_ n2_ n3_ n4_ n5_ n6_ n7_ n8_
      (try clear hb)
      (try clear hb2)
      (try clear hk)
      (try clear hi)
      refine hK.out _ _ ⟨(blk_cell BK150.out 0).trans rfl, (blk_cell BK150.out 1).trans rfl, (blk_cell BK150.out 2).trans rfl, (blk_cell BK150.out 3).trans rfl⟩ (fun hHeld => ?_)
      clear hK K
      refine norm_ (a' := ?_) ?_ ?_
      rotate_left
      ·show Act.put _ (some 53) _ = _
       simp only [Act.put, sz1, sz2, sz3, i64_w, i32_w]
       rfl
      refine pv 8 58 (mk_ 9 4) HT_ rfl rfl ?_
      refine one_ (i := 9) (N := some 59) (mk_ 10 3) rfl rfl (one_of HT_.out (by kernel_rfl)) (by decide) (fun K hK => ?_)
      refine value_ (w1 := ?_) (v := ?_) (by rfl) rfl ?_ ?_
      rotate_left 2
      ·go_simp
       constructor
       ·rfl
       ·rfl
      refine hK.out _ _ ⟨(blk_cell (blk_alloc BK150.out _) 0).trans rfl, (blk_cell (blk_alloc BK150.out _) 1).trans rfl, (blk_cell (blk_alloc BK150.out _) 2).trans rfl, (blk_cell (blk_alloc BK150.out _) 3).trans rfl⟩ (fun hHeld => ?_)
      clear hK K
      refine norm_ (a' := ?_) ?_ ?_
      rotate_left
      ·show Act.put _ (some 59) _ = _
       simp only [Act.put, sz1, sz2, sz3, i64_w, i32_w]
       rfl
      refine one_ (i := 10) (N := some 60) (mk_ 11 2) rfl rfl (one_of HT_.out (by kernel_rfl)) (by decide) (fun K hK => ?_)
      refine Kd.R_append_step k86 w.heap.size (by rfl) (.tmp 51) (.tmp 59) 25 86 (.agg #[(.int .i64 0), (.int .i64 0)]) 16 rfl Tryd.underlying25 info86 rfl (by decide) (by omega) u151001 x151001_1 (⟨t173, wrap64 ((x151000_1.length : Int) - 1)⟩ : S86) [.int .i64 t173, .int .i64 (wrap64 ((x151000_1.length : Int) - 1))] (fun _ => True) (fun _ => False) rfl rfl ?aP (fun _ hk => hk.elim) ?aF ?aO (Below.refl _ _) ?aS ?aL ?_
      (case aP => exact k86_mkM _ _ _ (⟨t173, wrap64 ((x151000_1.length : Int) - 1)⟩ : S86))
      (case aF => exact (fun _ _ => trivial))
      (case aO => exact (rz HO_151001.out))
      (case aS => exact (keep_size (w := w) (g := g) (row := none) (by repeat (first | (with_reducible first | exact HK.out | apply KeepBut.set_ | apply keep_drewN | apply keep_drew | apply keep_alloc | refine keep_far ?_ GW149.out _ | refine keep_far ?_ GW150.out _) | exact HK.out))))
      (case aL => have := LMc32.out; omega)
      intro v177 w37 ho hb hg hat
      rw [<- Ny176.out] at ho
      have n0_ := Aside0.mk (Kd.R_over' (rz HO_151000.out) (Kd.R_typed (rz HO_151001.out)) (by decide) hg)
      have n1_ := Aside0.mk (Kd.R_over' (rz HO_151002.out) (Kd.R_typed (rz HO_151001.out)) (by decide) hg)
      have n2_ := Aside0.mk (Kd.R_over' (rz HO_151003.out) (Kd.R_typed (rz HO_151001.out)) (by decide) hg)
      have n3_ := Aside0.mk (blk_grown (g := gb149) (o := .cells #[.slice none 0 0, .slice none 0 0, .slice none 0 0, .slice none 0 0] 29 (0, 0)) (kz BK149.out) hg (Kd.R_ne HO_151001.out BK149.out (by decide)))
      have n4_ := Aside0.mk (blk_grown (g := gb150) (o := .cells #[.slice Ao35 x151000_1.length co35, u151001, u151002, u151003] 29 (0, 0)) (kz BK150.out) hg (Kd.R_ne HO_151001.out BK150.out (by decide)))
      have n5_ := Aside0.mk (IsS120.grown (by repeat (first | (with_reducible first | exact HI0.out | apply IsS120.alloc | apply IsS120.drewN | apply IsS120.drew | apply IsS120.set_1 | apply IsS120.set_2 | apply IsS120.far (p := ⟨gb149, _, none⟩) (hne := NB0_149.out) | apply IsS120.far (p := ⟨gb150, _, none⟩) (hne := NB0_150.out)) | exact HI0.out)) hg (IsS120.own_ne HI0.out HO_151001.out (by decide)))
      have n6_ := Aside0.mk (below_weaken (by repeat (first | (with_reducible first | exact HB.out | apply below_alloc | apply pw_below_drewN | apply below_drew1 | refine below_set ?_ (IsS120.ge HI0.out) | refine below_set ?_ GE149.out | refine below_set ?_ GE150.out) | exact HB.out)) HL.out hb)
      have n7_ := Aside0.mk (KeepBut.trans (by repeat (first | (with_reducible first | exact HK.out | apply KeepBut.set_ | apply keep_drewN | apply keep_drew | apply keep_alloc | refine keep_far ?_ GW149.out _ | refine keep_far ?_ GW150.out _) | exact HK.out)) (KeepBut.of_grown hg g) (Kd.R_base2 HO_151001.out))
      have n8_ := Aside0.mk (ho)
      clear HO_151000
      clear HO_151002
      clear HO_151003
      clear BK149
      clear BK150
      clear HI0
      clear HB
      clear HK
      clear HO_151001
      have HO_151000 := n0_
      have HO_151002 := n1_
      have HO_151003 := n2_
      have BK149 := n3_
      have BK150 := n4_
      have HI0 := n5_
      have HB := n6_
      have HK := n7_
      have HO178 := n8_
      clear n0_ n1_ n2_ n3_ n4_ n5_ n6_ n7_ n8_
      clear ho hb hg hat
      obtain ⟨Ao38, co38, eo38⟩ := Kd.R_slice HO178.out
      (first | subst eo38 | (injection eo38 with f1_ f2_ f3_; have f4_ := f1_.symm; have f5_ := f3_.symm; clear f1_ f2_ f3_; subst f4_; subst f5_))
      refine hK.out _ _ ⟨(blk_cell BK150.out 0).trans rfl, (blk_cell BK150.out 1).trans rfl, (blk_cell BK150.out 2).trans rfl, (blk_cell BK150.out 3).trans rfl⟩ (fun hHeld => ?_)
      clear hK K
      refine norm_ (a' := ?_) ?_ ?_
      rotate_left
      ·show Act.put _ (some 60) _ = _
       simp only [Act.put, sz1, sz2, sz3, i64_w, i32_w]
       rfl
      refine pv 11 61 (mk_ 12 1) HT_ rfl rfl ?_
      refine last_ (i := 12) (N := none) #[true, true, true, true, true, true, true, true, true, true, true, true, true] rfl rfl (one_of HT_.out (by kernel_rfl)) (by decide) (fun K hK => ?_)
      have hs39 : w37.cell? ⟨gb150, 1, none⟩ = some (u151001) := (blk_cell BK150.out 1).trans rfl
      have hfs39 := blk_frozen BK150.out 1
      have hns39_0 := NB149_150.out
      have hms39_0 := NB150_149.out
      refine skip_ (w1 := ?_) (by rfl) rfl ?_ ?_
      rotate_left
      ·go_simp
       rfl
      refine hK.out _ _ ?_
      clear hK K
      refine done_ (done_of HT_.out (by kernel_rfl)) ?_
      try go_wp2
      go_roundg k1
      case measure => have := HK1.out; omega
      case rel => exact ⟨(wrap64 (x4_1 - 1)), (t174), (t175), (x151000_1), (y176), (x151002_1), (x151003_1), (.slice Ao35 x151000_1.length co35), (.slice Ao38 y176.length co38), (u151002), (u151003), ez, H', ⟨by have := HK1.out; omega⟩, ⟨by refine rq ?_; exact Kd.R_mono (Kd.R_far (p := ⟨gb150, 1, none⟩) (Kd.R_types HO_151000.out BK150.out (by decide)) (fun _ hk => hk.2) (.slice Ao38 y176.length co38)) (fun _ hk => trivial)⟩, ⟨by refine rq ?_; exact Kd.R_mono (Kd.R_far (p := ⟨gb150, 1, none⟩) (Kd.R_types HO178.out BK150.out (by decide)) (fun _ hk => hk.2) (.slice Ao38 y176.length co38)) (fun _ hk => trivial)⟩, ⟨by refine rq ?_; exact Kd.R_mono (Kd.R_far (p := ⟨gb150, 1, none⟩) (Kd.R_types HO_151002.out BK150.out (by decide)) (fun _ hk => hk.2) (.slice Ao38 y176.length co38)) (fun _ hk => trivial)⟩, ⟨by refine rq ?_; exact Kd.R_mono (Kd.R_far (p := ⟨gb150, 1, none⟩) (Kd.R_types HO_151003.out BK150.out (by decide)) (fun _ hk => hk.2) (.slice Ao38 y176.length co38)) (fun _ hk => trivial)⟩, ⟨by refine kq ?_; refine blk_far ?_ NB149_150.out _; refine kq ?_; exact BK149.out⟩, ⟨by refine kq ?_; refine blk_put (cs := #[.slice Ao35 x151000_1.length co35, u151001, u151002, u151003]) ?_ 1 _ rfl; refine kq ?_; exact BK150.out⟩, ⟨by repeat (first | (with_reducible first | exact HI0.out | apply IsS120.alloc | apply IsS120.drewN | apply IsS120.drew | apply IsS120.set_1 | apply IsS120.set_2 | apply IsS120.far (p := ⟨gb149, _, none⟩) (hne := NB0_149.out) | apply IsS120.far (p := ⟨gb150, _, none⟩) (hne := NB0_150.out)) | exact HI0.out)⟩, ⟨by repeat (first | (with_reducible first | exact HK.out | apply KeepBut.set_ | apply keep_drewN | apply keep_drew | apply keep_alloc | refine keep_far ?_ GW149.out _ | refine keep_far ?_ GW150.out _) | exact HK.out)⟩, ⟨by repeat (first | (with_reducible first | exact HB.out | apply below_alloc | apply pw_below_drewN | apply below_drew1 | refine below_set ?_ (IsS120.ge HI0.out) | refine below_set ?_ GE149.out | refine below_set ?_ GE150.out) | exact HB.out)⟩⟩
     ·rw [if_neg c30] at H
      have c30b0 : (t154 == 1) = false := beq_eq_false_iff_ne.mpr c30
      have c30b1 : (t154 != 1) = true := bne_iff_ne.mpr c30
      by_cases c40 : t154 = 2
      ·rw [if_pos c40] at H
       have c40b0 : (t154 == 2) = true := beq_iff_eq.mpr c40
       have c40b1 : (t154 != 2) = false := bne_eq_false_iff_eq.mpr c40
       clear c40
       replace H := bi H
       obtain ⟨⟨t179, t180, t181, t182⟩, A410, H⟩ := H
       try dsimp only at H
       have A41 := Aside0.mk A410
       clear A410
       replace H := bi H
       obtain ⟨⟨t183, t184, t185, t186⟩, A420, H⟩ := H
       try dsimp only at H
       have A42 := Aside0.mk A420
       clear A420
       replace H := iz H
       obtain ⟨c43, H⟩ := H
       have LMc43 := Aside0.mk c43
       clear c43
       obtain ⟨y187, hy187⟩ : ∃ y_ : List (S47), y_ = (x151002_1 ++ [(⟨(⟨t179, t180⟩ : S35), (⟨t183, t184⟩ : S35)⟩ : S47)]) := ⟨_, rfl⟩
       replace H : (spec_l10Heap.l0 k1 (wrap64 (x4_1 - 1)) s0_0 t185 t186 x151000_1 x151001_1 y187 x151003_1) = some (r1, r2, r3, r4, r5, r6) := yz hy187 H
       have Ny187 := Aside0.mk hy187
       clear hy187
       have H' := Aside0.mk H
       clear H
       try go_wp2_with (first | ((with_reducible refine gate_callee (f := 40) rfl ?_); refine goesL_ (some 13) rfl rfl Tryd.func40 (by kernel_rfl) rfl #[.pointer (some ⟨g, 0, none⟩), .int .i64 4] rfl lz ?_; (with_reducible refine (spec_l1Below.calls g s0_0 x1001_1 x1002_1 4 t154 t155 t156 w0 _ ?side1 ?side2 A10.out).mono ?_); (case side1 => repeat (first | (with_reducible first | exact HI0.out | apply IsS120.alloc | apply IsS120.drewN | apply IsS120.drew | apply IsS120.set_1 | apply IsS120.set_2 | apply IsS120.far (p := ⟨gb149, _, none⟩) (hne := NB0_149.out) | apply IsS120.far (p := ⟨gb150, _, none⟩) (hne := NB0_150.out)) | exact HI0.out)); (case side2 => repeat (first | (with_reducible first | exact HB.out | apply below_alloc | apply pw_below_drewN | apply below_drew1 | refine below_set ?_ (IsS120.ge HI0.out) | refine below_set ?_ GE149.out | refine below_set ?_ GE150.out) | exact HB.out)); rintro e w44 ⟨rfl, hi, hb, hk⟩; refine ⟨_, rfl, ?_⟩; replace HO_151000 := Aside0.mk (Kd.R_mono (Kd.R_keep (IsS120.apart (show IsS120 w0 _ g s0_0 x1001_1 x1002_1 from by repeat (first | (with_reducible first | exact HI0.out | apply IsS120.alloc | apply IsS120.drewN | apply IsS120.drew | apply IsS120.set_1 | apply IsS120.set_2 | apply IsS120.far (p := ⟨gb149, _, none⟩) (hne := NB0_149.out) | apply IsS120.far (p := ⟨gb150, _, none⟩) (hne := NB0_150.out)) | exact HI0.out)) (rz HO_151000.out) (by decide)) hk (fun _ h => h.2)) (fun _ h => h.1)); replace HO_151001 := Aside0.mk (Kd.R_mono (Kd.R_keep (IsS120.apart (show IsS120 w0 _ g s0_0 x1001_1 x1002_1 from by repeat (first | (with_reducible first | exact HI0.out | apply IsS120.alloc | apply IsS120.drewN | apply IsS120.drew | apply IsS120.set_1 | apply IsS120.set_2 | apply IsS120.far (p := ⟨gb149, _, none⟩) (hne := NB0_149.out) | apply IsS120.far (p := ⟨gb150, _, none⟩) (hne := NB0_150.out)) | exact HI0.out)) (rz HO_151001.out) (by decide)) hk (fun _ h => h.2)) (fun _ h => h.1)); replace HO_151002 := Aside0.mk (Kd.R_mono (Kd.R_keep (IsS120.apart (show IsS120 w0 _ g s0_0 x1001_1 x1002_1 from by repeat (first | (with_reducible first | exact HI0.out | apply IsS120.alloc | apply IsS120.drewN | apply IsS120.drew | apply IsS120.set_1 | apply IsS120.set_2 | apply IsS120.far (p := ⟨gb149, _, none⟩) (hne := NB0_149.out) | apply IsS120.far (p := ⟨gb150, _, none⟩) (hne := NB0_150.out)) | exact HI0.out)) (rz HO_151002.out) (by decide)) hk (fun _ h => h.2)) (fun _ h => h.1)); replace HO_151003 := Aside0.mk (Kd.R_mono (Kd.R_keep (IsS120.apart (show IsS120 w0 _ g s0_0 x1001_1 x1002_1 from by repeat (first | (with_reducible first | exact HI0.out | apply IsS120.alloc | apply IsS120.drewN | apply IsS120.drew | apply IsS120.set_1 | apply IsS120.set_2 | apply IsS120.far (p := ⟨gb149, _, none⟩) (hne := NB0_149.out) | apply IsS120.far (p := ⟨gb150, _, none⟩) (hne := NB0_150.out)) | exact HI0.out)) (rz HO_151003.out) (by decide)) hk (fun _ h => h.2)) (fun _ h => h.1)); replace BK149 := Aside0.mk (KeepBut.blk hk (g' := gb149) (o := .cells #[.slice none 0 0, .slice none 0 0, .slice none 0 0, .slice none 0 0] 29 (0, 0)) (kz BK149.out) NB149_0.out (by simp)); replace BK150 := Aside0.mk (KeepBut.blk hk (g' := gb150) (o := .cells #[u151000, u151001, u151002, u151003] 29 (0, 0)) (kz BK150.out) NB150_0.out (by simp)); replace HK := Aside0.mk (KeepBut.trans (by repeat (first | (with_reducible first | exact HK.out | apply KeepBut.set_ | apply keep_drewN | apply keep_drew | apply keep_alloc | refine keep_far ?_ GW149.out _ | refine keep_far ?_ GW150.out _) | exact HK.out)) hk (.inl rfl)); replace HB := Aside0.mk (hb); replace HI0 := Aside0.mk (hi); (try clear hb); (try clear hk); (try clear hi)))
       have n0_ := Aside0.mk (Kd.R_drew HO_151000.out)
       have n1_ := Aside0.mk (Kd.R_drew HO_151001.out)
       have n2_ := Aside0.mk (Kd.R_drew HO_151002.out)
       have n3_ := Aside0.mk (Kd.R_drew HO_151003.out)
       have n4_ := Aside0.mk (blk_drew BK149.out)
       have n5_ := Aside0.mk (blk_drew BK150.out)
       have n6_ := Aside0.mk (IsS120.drew HI0.out)
       have n7_ := Aside0.mk (keep_drew HK.out)
       have n8_ := Aside0.mk (below_drew1 HB.out)
       clear HO_151000
       clear HO_151001
       clear HO_151002
       clear HO_151003
       clear BK149
       clear BK150
       clear HI0
       clear HK
       clear HB
       have HO_151000 := n0_
       have HO_151001 := n1_
       have HO_151002 := n2_
       have HO_151003 := n3_
       have BK149 := n4_
       have BK150 := n5_
       have HI0 := n6_
       have HK := n7_
       have HB := n8_
       clear n0_ n1_ n2_ n3_ n4_ n5_ n6_ n7_ n8_
       obtain ⟨Ao46, co46, eo46⟩ := Kd.R_slice HO_151000.out
       (first | subst eo46 | (injection eo46 with f1_ f2_ f3_; have f4_ := f1_.symm; have f5_ := f3_.symm; clear f1_ f2_ f3_; subst f4_; subst f5_))
       obtain ⟨Ao47, co47, eo47⟩ := Kd.R_slice HO_151001.out
       (first | subst eo47 | (injection eo47 with f1_ f2_ f3_; have f4_ := f1_.symm; have f5_ := f3_.symm; clear f1_ f2_ f3_; subst f4_; subst f5_))
       obtain ⟨Ao48, co48, eo48⟩ := Kd.R_slice HO_151002.out
       (first | subst eo48 | (injection eo48 with f1_ f2_ f3_; have f4_ := f1_.symm; have f5_ := f3_.symm; clear f1_ f2_ f3_; subst f4_; subst f5_))
       obtain ⟨Ao49, co49, eo49⟩ := Kd.R_slice HO_151003.out
       (first | subst eo49 | (injection eo49 with f1_ f2_ f3_; have f4_ := f1_.symm; have f5_ := f3_.symm; clear f1_ f2_ f3_; subst f4_; subst f5_))
       refine start_ (n := 13) (S := fun w' => w'.cell? ⟨gb150, 0, none⟩ = some (.slice Ao46 x151000_1.length co46) /\ w'.cell? ⟨gb150, 1, none⟩ = some (.slice Ao47 x151001_1.length co47) /\ w'.cell? ⟨gb150, 2, none⟩ = some (.slice Ao48 x151002_1.length co48) /\ w'.cell? ⟨gb150, 3, none⟩ = some (.slice Ao49 x151003_1.length co49)) (ds := [12]) (mk_ 0 13) (by kernel_rfl) rfl rfl ⟨(blk_cell BK150.out 0).trans rfl, (blk_cell BK150.out 1).trans rfl, (blk_cell BK150.out 2).trans rfl, (blk_cell BK150.out 3).trans rfl⟩ (fun hHeld => ?_); refine with_tabW spec_l10Heap.tab12 spec_l10Heap.bits12 (fun HT_ HW_ => ?_)
       generalize w44.drew = w45 at HO_151000 HO_151001 HO_151002 HO_151003 BK149 BK150 HI0 HK HB hHeld ⊢
       refine pv 0 64 (mk_ 1 12) HT_ rfl rfl ?_
       refine pv 2 66 (bm_ 13 5) HT_ rfl rfl ?_
       refine pv 5 69 (bm_ 13 37) HT_ rfl rfl ?_
       refine tv4 1 65 (bm_ 13 39) HT_ HW_ rfl rfl hHeld ?_
       refine tv4 3 67 (bm_ 13 47) HT_ HW_ rfl rfl hHeld ?_
       refine tv4 6 70 (bm_ 13 111) HT_ HW_ rfl rfl hHeld ?_
       refine one_ (i := 4) (N := some 68) (mk_ 7 6) rfl rfl (one_of HT_.out (by kernel_rfl)) (by decide) (fun K hK => ?_)
       refine goes_ Tryd.func46 (by kernel_rfl) rfl #[.pointer (some ⟨g, 0, none⟩), .agg #[.slice Ao46 x151000_1.length co46, .slice Ao47 x151001_1.length co47, .slice Ao48 x151002_1.length co48, .slice Ao49 x151003_1.length co49]] (by rfl) rfl rfl lz ?_
       with_reducible refine (spec_l10Val.calls k1 g s0_0 t155 t156 _ _ x151000_1 _ _ x151001_1 _ _ x151002_1 _ _ x151003_1 t179 t180 t181 t182 w0 _ ?side1 ?side2 ?side3 ?side4 ?side5 ?side6 ?side7 ?side8 ?side9 ?side10 A41.out).mono ?_
       (case side1 => repeat (first | (with_reducible first | exact HI0.out | apply IsS120.alloc | apply IsS120.drewN | apply IsS120.drew | apply IsS120.set_1 | apply IsS120.set_2 | apply IsS120.far (p := ⟨gb149, _, none⟩) (hne := NB0_149.out) | apply IsS120.far (p := ⟨gb150, _, none⟩) (hne := NB0_150.out)) | exact HI0.out))
       (case side2 => repeat (first | (with_reducible first | exact HB.out | apply below_alloc | apply pw_below_drewN | apply below_drew1 | refine below_set ?_ (IsS120.ge HI0.out) | refine below_set ?_ GE149.out | refine below_set ?_ GE150.out) | exact HB.out))
       (case side3 => exact Kd.C_foot_own (IsS120.apart (show IsS120 w0 _ g s0_0 t155 t156 from by repeat (first | (with_reducible first | exact HI0.out | apply IsS120.alloc | apply IsS120.drewN | apply IsS120.drew | apply IsS120.set_1 | apply IsS120.set_2 | apply IsS120.far (p := ⟨gb149, _, none⟩) (hne := NB0_149.out) | apply IsS120.far (p := ⟨gb150, _, none⟩) (hne := NB0_150.out)) | exact HI0.out)) (rz HO_151000.out) (by decide)) (fun _ h_ => h_.2))
       (case side4 => exact (Kd.R_reads' HO_151000.out).2.1)
       (case side5 => exact Kd.C_foot_own (IsS120.apart (show IsS120 w0 _ g s0_0 t155 t156 from by repeat (first | (with_reducible first | exact HI0.out | apply IsS120.alloc | apply IsS120.drewN | apply IsS120.drew | apply IsS120.set_1 | apply IsS120.set_2 | apply IsS120.far (p := ⟨gb149, _, none⟩) (hne := NB0_149.out) | apply IsS120.far (p := ⟨gb150, _, none⟩) (hne := NB0_150.out)) | exact HI0.out)) (rz HO_151001.out) (by decide)) (fun _ h_ => h_.2))
       (case side6 => exact (Kd.R_reads' HO_151001.out).2.1)
       (case side7 => exact Kd.C_foot_own (IsS120.apart (show IsS120 w0 _ g s0_0 t155 t156 from by repeat (first | (with_reducible first | exact HI0.out | apply IsS120.alloc | apply IsS120.drewN | apply IsS120.drew | apply IsS120.set_1 | apply IsS120.set_2 | apply IsS120.far (p := ⟨gb149, _, none⟩) (hne := NB0_149.out) | apply IsS120.far (p := ⟨gb150, _, none⟩) (hne := NB0_150.out)) | exact HI0.out)) (rz HO_151002.out) (by decide)) (fun _ h_ => h_.2))
       (case side8 => exact (Kd.R_reads' HO_151002.out).2.1)
       (case side9 => exact Kd.C_foot_own (IsS120.apart (show IsS120 w0 _ g s0_0 t155 t156 from by repeat (first | (with_reducible first | exact HI0.out | apply IsS120.alloc | apply IsS120.drewN | apply IsS120.drew | apply IsS120.set_1 | apply IsS120.set_2 | apply IsS120.far (p := ⟨gb149, _, none⟩) (hne := NB0_149.out) | apply IsS120.far (p := ⟨gb150, _, none⟩) (hne := NB0_150.out)) | exact HI0.out)) (rz HO_151003.out) (by decide)) (fun _ h_ => h_.2))
       (case side10 => exact (Kd.R_reads' HO_151003.out).2.1)
       rintro e w50 ⟨rfl, hi, hb, hk⟩
       refine ⟨_, rfl, ?_⟩
       have n0_ := Aside0.mk (Kd.R_mono (Kd.R_keep (IsS120.apart (show IsS120 w0 _ g s0_0 t155 t156 from by repeat (first | (with_reducible first | exact HI0.out | apply IsS120.alloc | apply IsS120.drewN | apply IsS120.drew | apply IsS120.set_1 | apply IsS120.set_2 | apply IsS120.far (p := ⟨gb149, _, none⟩) (hne := NB0_149.out) | apply IsS120.far (p := ⟨gb150, _, none⟩) (hne := NB0_150.out)) | exact HI0.out)) (rz HO_151000.out) (by decide)) hk (fun _ h => h.2)) (fun _ h => h.1))
       have n1_ := Aside0.mk (Kd.R_mono (Kd.R_keep (IsS120.apart (show IsS120 w0 _ g s0_0 t155 t156 from by repeat (first | (with_reducible first | exact HI0.out | apply IsS120.alloc | apply IsS120.drewN | apply IsS120.drew | apply IsS120.set_1 | apply IsS120.set_2 | apply IsS120.far (p := ⟨gb149, _, none⟩) (hne := NB0_149.out) | apply IsS120.far (p := ⟨gb150, _, none⟩) (hne := NB0_150.out)) | exact HI0.out)) (rz HO_151001.out) (by decide)) hk (fun _ h => h.2)) (fun _ h => h.1))
       have n2_ := Aside0.mk (Kd.R_mono (Kd.R_keep (IsS120.apart (show IsS120 w0 _ g s0_0 t155 t156 from by repeat (first | (with_reducible first | exact HI0.out | apply IsS120.alloc | apply IsS120.drewN | apply IsS120.drew | apply IsS120.set_1 | apply IsS120.set_2 | apply IsS120.far (p := ⟨gb149, _, none⟩) (hne := NB0_149.out) | apply IsS120.far (p := ⟨gb150, _, none⟩) (hne := NB0_150.out)) | exact HI0.out)) (rz HO_151002.out) (by decide)) hk (fun _ h => h.2)) (fun _ h => h.1))
       have n3_ := Aside0.mk (Kd.R_mono (Kd.R_keep (IsS120.apart (show IsS120 w0 _ g s0_0 t155 t156 from by repeat (first | (with_reducible first | exact HI0.out | apply IsS120.alloc | apply IsS120.drewN | apply IsS120.drew | apply IsS120.set_1 | apply IsS120.set_2 | apply IsS120.far (p := ⟨gb149, _, none⟩) (hne := NB0_149.out) | apply IsS120.far (p := ⟨gb150, _, none⟩) (hne := NB0_150.out)) | exact HI0.out)) (rz HO_151003.out) (by decide)) hk (fun _ h => h.2)) (fun _ h => h.1))
       have n4_ := Aside0.mk (KeepBut.blk hk (g' := gb149) (o := .cells #[.slice none 0 0, .slice none 0 0, .slice none 0 0, .slice none 0 0] 29 (0, 0)) (kz BK149.out) NB149_0.out (by simp))
       have n5_ := Aside0.mk (KeepBut.blk hk (g' := gb150) (o := .cells #[.slice Ao46 x151000_1.length co46, .slice Ao47 x151001_1.length co47, .slice Ao48 x151002_1.length co48, .slice Ao49 x151003_1.length co49] 29 (0, 0)) (kz BK150.out) NB150_0.out (by simp))
       have n6_ := Aside0.mk (KeepBut.trans (by repeat (first | (with_reducible first | exact HK.out | apply KeepBut.set_ | apply keep_drewN | apply keep_drew | apply keep_alloc | refine keep_far ?_ GW149.out _ | refine keep_far ?_ GW150.out _) | exact HK.out)) hk (.inl rfl))
       have n7_ := Aside0.mk (hb)
       have n8_ := Aside0.mk (hi)
       clear HO_151000
       clear HO_151001
       clear HO_151002
       clear HO_151003
       clear BK149
       clear BK150
       clear HK
       clear HB
       clear HI0
       have HO_151000 := n0_
       have HO_151001 := n1_
       have HO_151002 := n2_
       have HO_151003 := n3_
       have BK149 := n4_
       have BK150 := n5_
       have HK := n6_
       have HB := n7_
       have HI0 := n8_
       clear n0_ n1_ n2_ n3_ n4_ n5_ n6_ n7_ n8_
       (try clear hb)
       (try clear hb2)
       (try clear hk)
       (try clear hi)
       refine hK.out _ _ ⟨(blk_cell BK150.out 0).trans rfl, (blk_cell BK150.out 1).trans rfl, (blk_cell BK150.out 2).trans rfl, (blk_cell BK150.out 3).trans rfl⟩ (fun hHeld => ?_)
       clear hK K
       refine norm_ (a' := ?_) ?_ ?_
       rotate_left
       ·show Act.put _ (some 68) _ = _
        simp only [Act.put, sz1, sz2, sz3, i64_w, i32_w]
        rfl
       refine one_ (i := 7) (N := some 71) (mk_ 8 5) rfl rfl (one_of HT_.out (by kernel_rfl)) (by decide) (fun K hK => ?_)
       refine goes_ Tryd.func46 (by kernel_rfl) rfl #[.pointer (some ⟨g, 0, none⟩), .agg #[.slice Ao46 x151000_1.length co46, .slice Ao47 x151001_1.length co47, .slice Ao48 x151002_1.length co48, .slice Ao49 x151003_1.length co49]] (by rfl) rfl rfl lz ?_
       with_reducible refine (spec_l10Val.calls k1 g s0_0 t181 t182 _ _ x151000_1 _ _ x151001_1 _ _ x151002_1 _ _ x151003_1 t183 t184 t185 t186 w0 _ ?side1 ?side2 ?side3 ?side4 ?side5 ?side6 ?side7 ?side8 ?side9 ?side10 A42.out).mono ?_
       (case side1 => repeat (first | (with_reducible first | exact HI0.out | apply IsS120.alloc | apply IsS120.drewN | apply IsS120.drew | apply IsS120.set_1 | apply IsS120.set_2 | apply IsS120.far (p := ⟨gb149, _, none⟩) (hne := NB0_149.out) | apply IsS120.far (p := ⟨gb150, _, none⟩) (hne := NB0_150.out)) | exact HI0.out))
       (case side2 => repeat (first | (with_reducible first | exact HB.out | apply below_alloc | apply pw_below_drewN | apply below_drew1 | refine below_set ?_ (IsS120.ge HI0.out) | refine below_set ?_ GE149.out | refine below_set ?_ GE150.out) | exact HB.out))
       (case side3 => exact Kd.C_foot_own (IsS120.apart (show IsS120 w0 _ g s0_0 t181 t182 from by repeat (first | (with_reducible first | exact HI0.out | apply IsS120.alloc | apply IsS120.drewN | apply IsS120.drew | apply IsS120.set_1 | apply IsS120.set_2 | apply IsS120.far (p := ⟨gb149, _, none⟩) (hne := NB0_149.out) | apply IsS120.far (p := ⟨gb150, _, none⟩) (hne := NB0_150.out)) | exact HI0.out)) (rz HO_151000.out) (by decide)) (fun _ h_ => h_.2))
       (case side4 => exact (Kd.R_reads' HO_151000.out).2.1)
       (case side5 => exact Kd.C_foot_own (IsS120.apart (show IsS120 w0 _ g s0_0 t181 t182 from by repeat (first | (with_reducible first | exact HI0.out | apply IsS120.alloc | apply IsS120.drewN | apply IsS120.drew | apply IsS120.set_1 | apply IsS120.set_2 | apply IsS120.far (p := ⟨gb149, _, none⟩) (hne := NB0_149.out) | apply IsS120.far (p := ⟨gb150, _, none⟩) (hne := NB0_150.out)) | exact HI0.out)) (rz HO_151001.out) (by decide)) (fun _ h_ => h_.2))
       (case side6 => exact (Kd.R_reads' HO_151001.out).2.1)
       (case side7 => exact Kd.C_foot_own (IsS120.apart (show IsS120 w0 _ g s0_0 t181 t182 from by repeat (first | (with_reducible first | exact HI0.out | apply IsS120.alloc | apply IsS120.drewN | apply IsS120.drew | apply IsS120.set_1 | apply IsS120.set_2 | apply IsS120.far (p := ⟨gb149, _, none⟩) (hne := NB0_149.out) | apply IsS120.far (p := ⟨gb150, _, none⟩) (hne := NB0_150.out)) | exact HI0.out)) (rz HO_151002.out) (by decide)) (fun _ h_ => h_.2))
       (case side8 => exact (Kd.R_reads' HO_151002.out).2.1)
       (case side9 => exact Kd.C_foot_own (IsS120.apart (show IsS120 w0 _ g s0_0 t181 t182 from by repeat (first | (with_reducible first | exact HI0.out | apply IsS120.alloc | apply IsS120.drewN | apply IsS120.drew | apply IsS120.set_1 | apply IsS120.set_2 | apply IsS120.far (p := ⟨gb149, _, none⟩) (hne := NB0_149.out) | apply IsS120.far (p := ⟨gb150, _, none⟩) (hne := NB0_150.out)) | exact HI0.out)) (rz HO_151003.out) (by decide)) (fun _ h_ => h_.2))
       (case side10 => exact (Kd.R_reads' HO_151003.out).2.1)
       rintro e w51 ⟨rfl, hi, hb, hk⟩
       refine ⟨_, rfl, ?_⟩
       have n0_ := Aside0.mk (Kd.R_mono (Kd.R_keep (IsS120.apart (show IsS120 w0 _ g s0_0 t181 t182 from by repeat (first | (with_reducible first | exact HI0.out | apply IsS120.alloc | apply IsS120.drewN | apply IsS120.drew | apply IsS120.set_1 | apply IsS120.set_2 | apply IsS120.far (p := ⟨gb149, _, none⟩) (hne := NB0_149.out) | apply IsS120.far (p := ⟨gb150, _, none⟩) (hne := NB0_150.out)) | exact HI0.out)) (rz HO_151000.out) (by decide)) hk (fun _ h => h.2)) (fun _ h => h.1))
       have n1_ := Aside0.mk (Kd.R_mono (Kd.R_keep (IsS120.apart (show IsS120 w0 _ g s0_0 t181 t182 from by repeat (first | (with_reducible first | exact HI0.out | apply IsS120.alloc | apply IsS120.drewN | apply IsS120.drew | apply IsS120.set_1 | apply IsS120.set_2 | apply IsS120.far (p := ⟨gb149, _, none⟩) (hne := NB0_149.out) | apply IsS120.far (p := ⟨gb150, _, none⟩) (hne := NB0_150.out)) | exact HI0.out)) (rz HO_151001.out) (by decide)) hk (fun _ h => h.2)) (fun _ h => h.1))
       have n2_ := Aside0.mk (Kd.R_mono (Kd.R_keep (IsS120.apart (show IsS120 w0 _ g s0_0 t181 t182 from by repeat (first | (with_reducible first | exact HI0.out | apply IsS120.alloc | apply IsS120.drewN | apply IsS120.drew | apply IsS120.set_1 | apply IsS120.set_2 | apply IsS120.far (p := ⟨gb149, _, none⟩) (hne := NB0_149.out) | apply IsS120.far (p := ⟨gb150, _, none⟩) (hne := NB0_150.out)) | exact HI0.out)) (rz HO_151002.out) (by decide)) hk (fun _ h => h.2)) (fun _ h => h.1))
       have n3_ := Aside0.mk (Kd.R_mono (Kd.R_keep (IsS120.apart (show IsS120 w0 _ g s0_0 t181 t182 from by repeat (first | (with_reducible first | exact HI0.out | apply IsS120.alloc | apply IsS120.drewN | apply IsS120.drew | apply IsS120.set_1 | apply IsS120.set_2 | apply IsS120.far (p := ⟨gb149, _, none⟩) (hne := NB0_149.out) | apply IsS120.far (p := ⟨gb150, _, none⟩) (hne := NB0_150.out)) | exact HI0.out)) (rz HO_151003.out) (by decide)) hk (fun _ h => h.2)) (fun _ h => h.1))
       have n4_ := Aside0.mk (KeepBut.blk hk (g' := gb149) (o := .cells #[.slice none 0 0, .slice none 0 0, .slice none 0 0, .slice none 0 0] 29 (0, 0)) (kz BK149.out) NB149_0.out (by simp))
       have n5_ := Aside0.mk (KeepBut.blk hk (g' := gb150) (o := .cells #[.slice Ao46 x151000_1.length co46, .slice Ao47 x151001_1.length co47, .slice Ao48 x151002_1.length co48, .slice Ao49 x151003_1.length co49] 29 (0, 0)) (kz BK150.out) NB150_0.out (by simp))
       have n6_ := Aside0.mk (KeepBut.trans (by repeat (first | (with_reducible first | exact HK.out | apply KeepBut.set_ | apply keep_drewN | apply keep_drew | apply keep_alloc | refine keep_far ?_ GW149.out _ | refine keep_far ?_ GW150.out _) | exact HK.out)) hk (.inl rfl))
       have n7_ := Aside0.mk (hb)
       have n8_ := Aside0.mk (hi)
       clear HO_151000
       clear HO_151001
       clear HO_151002
       clear HO_151003
       clear BK149
       clear BK150
       clear HK
       clear HB
       clear HI0
       have HO_151000 := n0_
       have HO_151001 := n1_
       have HO_151002 := n2_
       have HO_151003 := n3_
       have BK149 := n4_
       have BK150 := n5_
       have HK := n6_
       have HB := n7_
       have HI0 := n8_
       clear n0_ n1_ n2_ n3_ n4_ n5_ n6_ n7_ n8_
       (try clear hb)
       (try clear hb2)
       (try clear hk)
       (try clear hi)
       refine hK.out _ _ ⟨(blk_cell BK150.out 0).trans rfl, (blk_cell BK150.out 1).trans rfl, (blk_cell BK150.out 2).trans rfl, (blk_cell BK150.out 3).trans rfl⟩ (fun hHeld => ?_)
       clear hK K
       refine norm_ (a' := ?_) ?_ ?_
       rotate_left
       ·show Act.put _ (some 71) _ = _
        simp only [Act.put, sz1, sz2, sz3, i64_w, i32_w]
        rfl
       refine pv 8 72 (mk_ 9 4) HT_ rfl rfl ?_
       refine one_ (i := 9) (N := some 73) (mk_ 10 3) rfl rfl (one_of HT_.out (by kernel_rfl)) (by decide) (fun K hK => ?_)
       refine value_ (w1 := ?_) (v := ?_) (by rfl) rfl ?_ ?_
       rotate_left 2
       ·go_simp
        constructor
        ·rfl
        ·rfl
       refine hK.out _ _ ⟨(blk_cell (blk_alloc BK150.out _) 0).trans rfl, (blk_cell (blk_alloc BK150.out _) 1).trans rfl, (blk_cell (blk_alloc BK150.out _) 2).trans rfl, (blk_cell (blk_alloc BK150.out _) 3).trans rfl⟩ (fun hHeld => ?_)
       clear hK K
       refine norm_ (a' := ?_) ?_ ?_
       rotate_left
       ·show Act.put _ (some 73) _ = _
        simp only [Act.put, sz1, sz2, sz3, i64_w, i32_w]
        rfl
       refine one_ (i := 10) (N := some 74) (mk_ 11 2) rfl rfl (one_of HT_.out (by kernel_rfl)) (by decide) (fun K hK => ?_)
       refine Kd.R_append_step k47 w.heap.size (by rfl) (.tmp 65) (.tmp 73) 26 47 (.agg #[(.int .i64 0), (.int .i64 0), (.int .i64 0), (.int .i64 0)]) 32 rfl Tryd.underlying26 info47 rfl (by decide) (by omega) (.slice Ao48 x151002_1.length co48) x151002_1 (⟨(⟨t179, t180⟩ : S35), (⟨t183, t184⟩ : S35)⟩ : S47) [.int .i64 t179, .int .i64 t180, .int .i64 t183, .int .i64 t184] (fun _ => True) (fun _ => False) rfl rfl ?aP (fun _ hk => hk.elim) ?aF ?aO (Below.refl _ _) ?aS ?aL ?_
       (case aP => exact k47_mkM _ _ _ (⟨(⟨t179, t180⟩ : S35), (⟨t183, t184⟩ : S35)⟩ : S47))
       (case aF => exact (fun _ _ => trivial))
       (case aO => exact (rz HO_151002.out))
       (case aS => exact (keep_size (w := w) (g := g) (row := none) (by repeat (first | (with_reducible first | exact HK.out | apply KeepBut.set_ | apply keep_drewN | apply keep_drew | apply keep_alloc | refine keep_far ?_ GW149.out _ | refine keep_far ?_ GW150.out _) | exact HK.out))))
       (case aL => have := LMc43.out; omega)
       intro v188 w52 ho hb hg hat
       rw [<- Ny187.out] at ho
       have n0_ := Aside0.mk (Kd.R_over' (rz HO_151000.out) (Kd.R_typed (rz HO_151002.out)) (by decide) hg)
       have n1_ := Aside0.mk (Kd.R_over' (rz HO_151001.out) (Kd.R_typed (rz HO_151002.out)) (by decide) hg)
       have n2_ := Aside0.mk (Kd.R_over' (rz HO_151003.out) (Kd.R_typed (rz HO_151002.out)) (by decide) hg)
       have n3_ := Aside0.mk (blk_grown (g := gb149) (o := .cells #[.slice none 0 0, .slice none 0 0, .slice none 0 0, .slice none 0 0] 29 (0, 0)) (kz BK149.out) hg (Kd.R_ne HO_151002.out BK149.out (by decide)))
       have n4_ := Aside0.mk (blk_grown (g := gb150) (o := .cells #[.slice Ao46 x151000_1.length co46, .slice Ao47 x151001_1.length co47, .slice Ao48 x151002_1.length co48, .slice Ao49 x151003_1.length co49] 29 (0, 0)) (kz BK150.out) hg (Kd.R_ne HO_151002.out BK150.out (by decide)))
       have n5_ := Aside0.mk (IsS120.grown (by repeat (first | (with_reducible first | exact HI0.out | apply IsS120.alloc | apply IsS120.drewN | apply IsS120.drew | apply IsS120.set_1 | apply IsS120.set_2 | apply IsS120.far (p := ⟨gb149, _, none⟩) (hne := NB0_149.out) | apply IsS120.far (p := ⟨gb150, _, none⟩) (hne := NB0_150.out)) | exact HI0.out)) hg (IsS120.own_ne HI0.out HO_151002.out (by decide)))
       have n6_ := Aside0.mk (below_weaken (by repeat (first | (with_reducible first | exact HB.out | apply below_alloc | apply pw_below_drewN | apply below_drew1 | refine below_set ?_ (IsS120.ge HI0.out) | refine below_set ?_ GE149.out | refine below_set ?_ GE150.out) | exact HB.out)) HL.out hb)
       have n7_ := Aside0.mk (KeepBut.trans (by repeat (first | (with_reducible first | exact HK.out | apply KeepBut.set_ | apply keep_drewN | apply keep_drew | apply keep_alloc | refine keep_far ?_ GW149.out _ | refine keep_far ?_ GW150.out _) | exact HK.out)) (KeepBut.of_grown hg g) (Kd.R_base2 HO_151002.out))
       have n8_ := Aside0.mk (ho)
       clear HO_151000
       clear HO_151001
       clear HO_151003
       clear BK149
       clear BK150
       clear HI0
       clear HB
       clear HK
       clear HO_151002
       have HO_151000 := n0_
       have HO_151001 := n1_
       have HO_151003 := n2_
       have BK149 := n3_
       have BK150 := n4_
       have HI0 := n5_
       have HB := n6_
       have HK := n7_
       have HO189 := n8_
       clear n0_ n1_ n2_ n3_ n4_ n5_ n6_ n7_ n8_
       clear ho hb hg hat
       obtain ⟨Ao53, co53, eo53⟩ := Kd.R_slice HO189.out
       (first | subst eo53 | (injection eo53 with f1_ f2_ f3_; have f4_ := f1_.symm; have f5_ := f3_.symm; clear f1_ f2_ f3_; subst f4_; subst f5_))
       refine hK.out _ _ ⟨(blk_cell BK150.out 0).trans rfl, (blk_cell BK150.out 1).trans rfl, (blk_cell BK150.out 2).trans rfl, (blk_cell BK150.out 3).trans rfl⟩ (fun hHeld => ?_)
       clear hK K
       refine norm_ (a' := ?_) ?_ ?_
       rotate_left
       ·show Act.put _ (some 74) _ = _
        simp only [Act.put, sz1, sz2, sz3, i64_w, i32_w]
        rfl
       refine pv 11 75 (mk_ 12 1) HT_ rfl rfl ?_
       refine last_ (i := 12) (N := none) #[true, true, true, true, true, true, true, true, true, true, true, true, true] rfl rfl (one_of HT_.out (by kernel_rfl)) (by decide) (fun K hK => ?_)
       have hs54 : w52.cell? ⟨gb150, 2, none⟩ = some (.slice Ao48 x151002_1.length co48) := (blk_cell BK150.out 2).trans rfl
       have hfs54 := blk_frozen BK150.out 2
       have hns54_0 := NB149_150.out
       have hms54_0 := NB150_149.out
       refine skip_ (w1 := ?_) (by rfl) rfl ?_ ?_
       rotate_left
       ·go_simp
        rfl
       refine hK.out _ _ ?_
       clear hK K
       refine done_ (done_of HT_.out (by kernel_rfl)) ?_
       try go_wp2
       go_roundg k1
       case measure => have := HK1.out; omega
       case rel => exact ⟨(wrap64 (x4_1 - 1)), (t185), (t186), (x151000_1), (x151001_1), (y187), (x151003_1), (.slice Ao46 x151000_1.length co46), (.slice Ao47 x151001_1.length co47), (.slice Ao53 y187.length co53), (.slice Ao49 x151003_1.length co49), ez, H', ⟨by have := HK1.out; omega⟩, ⟨by refine rq ?_; exact Kd.R_mono (Kd.R_far (p := ⟨gb150, 2, none⟩) (Kd.R_types HO_151000.out BK150.out (by decide)) (fun _ hk => hk.2) (.slice Ao53 y187.length co53)) (fun _ hk => trivial)⟩, ⟨by refine rq ?_; exact Kd.R_mono (Kd.R_far (p := ⟨gb150, 2, none⟩) (Kd.R_types HO_151001.out BK150.out (by decide)) (fun _ hk => hk.2) (.slice Ao53 y187.length co53)) (fun _ hk => trivial)⟩, ⟨by refine rq ?_; exact Kd.R_mono (Kd.R_far (p := ⟨gb150, 2, none⟩) (Kd.R_types HO189.out BK150.out (by decide)) (fun _ hk => hk.2) (.slice Ao53 y187.length co53)) (fun _ hk => trivial)⟩, ⟨by refine rq ?_; exact Kd.R_mono (Kd.R_far (p := ⟨gb150, 2, none⟩) (Kd.R_types HO_151003.out BK150.out (by decide)) (fun _ hk => hk.2) (.slice Ao53 y187.length co53)) (fun _ hk => trivial)⟩, ⟨by refine kq ?_; refine blk_far ?_ NB149_150.out _; refine kq ?_; exact BK149.out⟩, ⟨by refine kq ?_; refine blk_put (cs := #[.slice Ao46 x151000_1.length co46, .slice Ao47 x151001_1.length co47, .slice Ao48 x151002_1.length co48, .slice Ao49 x151003_1.length co49]) ?_ 2 _ rfl; refine kq ?_; exact BK150.out⟩, ⟨by repeat (first | (with_reducible first | exact HI0.out | apply IsS120.alloc | apply IsS120.drewN | apply IsS120.drew | apply IsS120.set_1 | apply IsS120.set_2 | apply IsS120.far (p := ⟨gb149, _, none⟩) (hne := NB0_149.out) | apply IsS120.far (p := ⟨gb150, _, none⟩) (hne := NB0_150.out)) | exact HI0.out)⟩, ⟨by repeat (first | (with_reducible first | exact HK.out | apply KeepBut.set_ | apply keep_drewN | apply keep_drew | apply keep_alloc | refine keep_far ?_ GW149.out _ | refine keep_far ?_ GW150.out _) | exact HK.out)⟩, ⟨by repeat (first | (with_reducible first | exact HB.out | apply below_alloc | apply pw_below_drewN | apply below_drew1 | refine below_set ?_ (IsS120.ge HI0.out) | refine below_set ?_ GE149.out | refine below_set ?_ GE150.out) | exact HB.out)⟩⟩
      ·rw [if_neg c40] at H
       have c40b0 : (t154 == 2) = false := beq_eq_false_iff_ne.mpr c40
       have c40b1 : (t154 != 2) = true := bne_iff_ne.mpr c40
       replace H := bi H
       obtain ⟨⟨t190, t191, t192, t193⟩, A550, H⟩ := H
       try dsimp only at H
       have A55 := Aside0.mk A550
       clear A550
       replace H := iz H
       obtain ⟨c56, H⟩ := H
       have LMc56 := Aside0.mk c56
       clear c56
       obtain ⟨y194, hy194⟩ : ∃ y_ : List (S35), y_ = (x151003_1 ++ [(⟨t190, t191⟩ : S35)]) := ⟨_, rfl⟩
       replace H : (spec_l10Heap.l0 k1 (wrap64 (x4_1 - 1)) s0_0 t192 t193 x151000_1 x151001_1 x151002_1 y194) = some (r1, r2, r3, r4, r5, r6) := yz hy194 H
       have Ny194 := Aside0.mk hy194
       clear hy194
       have H' := Aside0.mk H
       clear H
       try go_wp2_with (first | ((with_reducible refine gate_callee (f := 40) rfl ?_); refine goesL_ (some 13) rfl rfl Tryd.func40 (by kernel_rfl) rfl #[.pointer (some ⟨g, 0, none⟩), .int .i64 4] rfl lz ?_; (with_reducible refine (spec_l1Below.calls g s0_0 x1001_1 x1002_1 4 t154 t155 t156 w0 _ ?side1 ?side2 A10.out).mono ?_); (case side1 => repeat (first | (with_reducible first | exact HI0.out | apply IsS120.alloc | apply IsS120.drewN | apply IsS120.drew | apply IsS120.set_1 | apply IsS120.set_2 | apply IsS120.far (p := ⟨gb149, _, none⟩) (hne := NB0_149.out) | apply IsS120.far (p := ⟨gb150, _, none⟩) (hne := NB0_150.out)) | exact HI0.out)); (case side2 => repeat (first | (with_reducible first | exact HB.out | apply below_alloc | apply pw_below_drewN | apply below_drew1 | refine below_set ?_ (IsS120.ge HI0.out) | refine below_set ?_ GE149.out | refine below_set ?_ GE150.out) | exact HB.out)); rintro e w57 ⟨rfl, hi, hb, hk⟩; refine ⟨_, rfl, ?_⟩; replace HO_151000 := Aside0.mk (Kd.R_mono (Kd.R_keep (IsS120.apart (show IsS120 w0 _ g s0_0 x1001_1 x1002_1 from by repeat (first | (with_reducible first | exact HI0.out | apply IsS120.alloc | apply IsS120.drewN | apply IsS120.drew | apply IsS120.set_1 | apply IsS120.set_2 | apply IsS120.far (p := ⟨gb149, _, none⟩) (hne := NB0_149.out) | apply IsS120.far (p := ⟨gb150, _, none⟩) (hne := NB0_150.out)) | exact HI0.out)) (rz HO_151000.out) (by decide)) hk (fun _ h => h.2)) (fun _ h => h.1)); replace HO_151001 := Aside0.mk (Kd.R_mono (Kd.R_keep (IsS120.apart (show IsS120 w0 _ g s0_0 x1001_1 x1002_1 from by repeat (first | (with_reducible first | exact HI0.out | apply IsS120.alloc | apply IsS120.drewN | apply IsS120.drew | apply IsS120.set_1 | apply IsS120.set_2 | apply IsS120.far (p := ⟨gb149, _, none⟩) (hne := NB0_149.out) | apply IsS120.far (p := ⟨gb150, _, none⟩) (hne := NB0_150.out)) | exact HI0.out)) (rz HO_151001.out) (by decide)) hk (fun _ h => h.2)) (fun _ h => h.1)); replace HO_151002 := Aside0.mk (Kd.R_mono (Kd.R_keep (IsS120.apart (show IsS120 w0 _ g s0_0 x1001_1 x1002_1 from by repeat (first | (with_reducible first | exact HI0.out | apply IsS120.alloc | apply IsS120.drewN | apply IsS120.drew | apply IsS120.set_1 | apply IsS120.set_2 | apply IsS120.far (p := ⟨gb149, _, none⟩) (hne := NB0_149.out) | apply IsS120.far (p := ⟨gb150, _, none⟩) (hne := NB0_150.out)) | exact HI0.out)) (rz HO_151002.out) (by decide)) hk (fun _ h => h.2)) (fun _ h => h.1)); replace HO_151003 := Aside0.mk (Kd.R_mono (Kd.R_keep (IsS120.apart (show IsS120 w0 _ g s0_0 x1001_1 x1002_1 from by repeat (first | (with_reducible first | exact HI0.out | apply IsS120.alloc | apply IsS120.drewN | apply IsS120.drew | apply IsS120.set_1 | apply IsS120.set_2 | apply IsS120.far (p := ⟨gb149, _, none⟩) (hne := NB0_149.out) | apply IsS120.far (p := ⟨gb150, _, none⟩) (hne := NB0_150.out)) | exact HI0.out)) (rz HO_151003.out) (by decide)) hk (fun _ h => h.2)) (fun _ h => h.1)); replace BK149 := Aside0.mk (KeepBut.blk hk (g' := gb149) (o := .cells #[.slice none 0 0, .slice none 0 0, .slice none 0 0, .slice none 0 0] 29 (0, 0)) (kz BK149.out) NB149_0.out (by simp)); replace BK150 := Aside0.mk (KeepBut.blk hk (g' := gb150) (o := .cells #[u151000, u151001, u151002, u151003] 29 (0, 0)) (kz BK150.out) NB150_0.out (by simp)); replace HK := Aside0.mk (KeepBut.trans (by repeat (first | (with_reducible first | exact HK.out | apply KeepBut.set_ | apply keep_drewN | apply keep_drew | apply keep_alloc | refine keep_far ?_ GW149.out _ | refine keep_far ?_ GW150.out _) | exact HK.out)) hk (.inl rfl)); replace HB := Aside0.mk (hb); replace HI0 := Aside0.mk (hi); (try clear hb); (try clear hk); (try clear hi)))
       have n0_ := Aside0.mk (Kd.R_drew HO_151000.out)
       have n1_ := Aside0.mk (Kd.R_drew HO_151001.out)
       have n2_ := Aside0.mk (Kd.R_drew HO_151002.out)
       have n3_ := Aside0.mk (Kd.R_drew HO_151003.out)
       have n4_ := Aside0.mk (blk_drew BK149.out)
       have n5_ := Aside0.mk (blk_drew BK150.out)
       have n6_ := Aside0.mk (IsS120.drew HI0.out)
       have n7_ := Aside0.mk (keep_drew HK.out)
       have n8_ := Aside0.mk (below_drew1 HB.out)
       clear HO_151000
       clear HO_151001
       clear HO_151002
       clear HO_151003
       clear BK149
       clear BK150
       clear HI0
       clear HK
       clear HB
       have HO_151000 := n0_
       have HO_151001 := n1_
       have HO_151002 := n2_
       have HO_151003 := n3_
       have BK149 := n4_
       have BK150 := n5_
       have HI0 := n6_
       have HK := n7_
       have HB := n8_
       clear n0_ n1_ n2_ n3_ n4_ n5_ n6_ n7_ n8_
       obtain ⟨Ao59, co59, eo59⟩ := Kd.R_slice HO_151000.out
       (first | subst eo59 | (injection eo59 with f1_ f2_ f3_; have f4_ := f1_.symm; have f5_ := f3_.symm; clear f1_ f2_ f3_; subst f4_; subst f5_))
       obtain ⟨Ao60, co60, eo60⟩ := Kd.R_slice HO_151001.out
       (first | subst eo60 | (injection eo60 with f1_ f2_ f3_; have f4_ := f1_.symm; have f5_ := f3_.symm; clear f1_ f2_ f3_; subst f4_; subst f5_))
       obtain ⟨Ao61, co61, eo61⟩ := Kd.R_slice HO_151002.out
       (first | subst eo61 | (injection eo61 with f1_ f2_ f3_; have f4_ := f1_.symm; have f5_ := f3_.symm; clear f1_ f2_ f3_; subst f4_; subst f5_))
       obtain ⟨Ao62, co62, eo62⟩ := Kd.R_slice HO_151003.out
       (first | subst eo62 | (injection eo62 with f1_ f2_ f3_; have f4_ := f1_.symm; have f5_ := f3_.symm; clear f1_ f2_ f3_; subst f4_; subst f5_))
       refine start_ (n := 9) (S := fun w' => w'.cell? ⟨gb150, 0, none⟩ = some (.slice Ao59 x151000_1.length co59) /\ w'.cell? ⟨gb150, 1, none⟩ = some (.slice Ao60 x151001_1.length co60) /\ w'.cell? ⟨gb150, 2, none⟩ = some (.slice Ao61 x151002_1.length co61) /\ w'.cell? ⟨gb150, 3, none⟩ = some (.slice Ao62 x151003_1.length co62)) (ds := [8]) (mk_ 0 9) (by kernel_rfl) rfl rfl ⟨(blk_cell BK150.out 0).trans rfl, (blk_cell BK150.out 1).trans rfl, (blk_cell BK150.out 2).trans rfl, (blk_cell BK150.out 3).trans rfl⟩ (fun hHeld => ?_); refine with_tabW spec_l10Heap.tab6 spec_l10Heap.bits6 (fun HT_ HW_ => ?_)
       generalize w57.drew = w58 at HO_151000 HO_151001 HO_151002 HO_151003 BK149 BK150 HI0 HK HB hHeld ⊢
       refine pv 0 14 (mk_ 1 8) HT_ rfl rfl ?_
       refine pv 2 16 (bm_ 9 5) HT_ rfl rfl ?_
       refine tv4 1 15 (mk_ 3 6) HT_ HW_ rfl rfl hHeld ?_
       refine tv4 3 17 (mk_ 4 5) HT_ HW_ rfl rfl hHeld ?_
       refine one_ (i := 4) (N := some 18) (mk_ 5 4) rfl rfl (one_of HT_.out (by kernel_rfl)) (by decide) (fun K hK => ?_)
       refine goes_ Tryd.func46 (by kernel_rfl) rfl #[.pointer (some ⟨g, 0, none⟩), .agg #[.slice Ao59 x151000_1.length co59, .slice Ao60 x151001_1.length co60, .slice Ao61 x151002_1.length co61, .slice Ao62 x151003_1.length co62]] (by rfl) rfl rfl lz ?_
       with_reducible refine (spec_l10Val.calls k1 g s0_0 t155 t156 _ _ x151000_1 _ _ x151001_1 _ _ x151002_1 _ _ x151003_1 t190 t191 t192 t193 w0 _ ?side1 ?side2 ?side3 ?side4 ?side5 ?side6 ?side7 ?side8 ?side9 ?side10 A55.out).mono ?_
       (case side1 => repeat (first | (with_reducible first | exact HI0.out | apply IsS120.alloc | apply IsS120.drewN | apply IsS120.drew | apply IsS120.set_1 | apply IsS120.set_2 | apply IsS120.far (p := ⟨gb149, _, none⟩) (hne := NB0_149.out) | apply IsS120.far (p := ⟨gb150, _, none⟩) (hne := NB0_150.out)) | exact HI0.out))
       (case side2 => repeat (first | (with_reducible first | exact HB.out | apply below_alloc | apply pw_below_drewN | apply below_drew1 | refine below_set ?_ (IsS120.ge HI0.out) | refine below_set ?_ GE149.out | refine below_set ?_ GE150.out) | exact HB.out))
       (case side3 => exact Kd.C_foot_own (IsS120.apart (show IsS120 w0 _ g s0_0 t155 t156 from by repeat (first | (with_reducible first | exact HI0.out | apply IsS120.alloc | apply IsS120.drewN | apply IsS120.drew | apply IsS120.set_1 | apply IsS120.set_2 | apply IsS120.far (p := ⟨gb149, _, none⟩) (hne := NB0_149.out) | apply IsS120.far (p := ⟨gb150, _, none⟩) (hne := NB0_150.out)) | exact HI0.out)) (rz HO_151000.out) (by decide)) (fun _ h_ => h_.2))
       (case side4 => exact (Kd.R_reads' HO_151000.out).2.1)
       (case side5 => exact Kd.C_foot_own (IsS120.apart (show IsS120 w0 _ g s0_0 t155 t156 from by repeat (first | (with_reducible first | exact HI0.out | apply IsS120.alloc | apply IsS120.drewN | apply IsS120.drew | apply IsS120.set_1 | apply IsS120.set_2 | apply IsS120.far (p := ⟨gb149, _, none⟩) (hne := NB0_149.out) | apply IsS120.far (p := ⟨gb150, _, none⟩) (hne := NB0_150.out)) | exact HI0.out)) (rz HO_151001.out) (by decide)) (fun _ h_ => h_.2))
       (case side6 => exact (Kd.R_reads' HO_151001.out).2.1)
       (case side7 => exact Kd.C_foot_own (IsS120.apart (show IsS120 w0 _ g s0_0 t155 t156 from by repeat (first | (with_reducible first | exact HI0.out | apply IsS120.alloc | apply IsS120.drewN | apply IsS120.drew | apply IsS120.set_1 | apply IsS120.set_2 | apply IsS120.far (p := ⟨gb149, _, none⟩) (hne := NB0_149.out) | apply IsS120.far (p := ⟨gb150, _, none⟩) (hne := NB0_150.out)) | exact HI0.out)) (rz HO_151002.out) (by decide)) (fun _ h_ => h_.2))
       (case side8 => exact (Kd.R_reads' HO_151002.out).2.1)
       (case side9 => exact Kd.C_foot_own (IsS120.apart (show IsS120 w0 _ g s0_0 t155 t156 from by repeat (first | (with_reducible first | exact HI0.out | apply IsS120.alloc | apply IsS120.drewN | apply IsS120.drew | apply IsS120.set_1 | apply IsS120.set_2 | apply IsS120.far (p := ⟨gb149, _, none⟩) (hne := NB0_149.out) | apply IsS120.far (p := ⟨gb150, _, none⟩) (hne := NB0_150.out)) | exact HI0.out)) (rz HO_151003.out) (by decide)) (fun _ h_ => h_.2))
       (case side10 => exact (Kd.R_reads' HO_151003.out).2.1)
       rintro e w63 ⟨rfl, hi, hb, hk⟩
       refine ⟨_, rfl, ?_⟩
       have n0_ := Aside0.mk (Kd.R_mono (Kd.R_keep (IsS120.apart (show IsS120 w0 _ g s0_0 t155 t156 from by repeat (first | (with_reducible first | exact HI0.out | apply IsS120.alloc | apply IsS120.drewN | apply IsS120.drew | apply IsS120.set_1 | apply IsS120.set_2 | apply IsS120.far (p := ⟨gb149, _, none⟩) (hne := NB0_149.out) | apply IsS120.far (p := ⟨gb150, _, none⟩) (hne := NB0_150.out)) | exact HI0.out)) (rz HO_151000.out) (by decide)) hk (fun _ h => h.2)) (fun _ h => h.1))
       have n1_ := Aside0.mk (Kd.R_mono (Kd.R_keep (IsS120.apart (show IsS120 w0 _ g s0_0 t155 t156 from by repeat (first | (with_reducible first | exact HI0.out | apply IsS120.alloc | apply IsS120.drewN | apply IsS120.drew | apply IsS120.set_1 | apply IsS120.set_2 | apply IsS120.far (p := ⟨gb149, _, none⟩) (hne := NB0_149.out) | apply IsS120.far (p := ⟨gb150, _, none⟩) (hne := NB0_150.out)) | exact HI0.out)) (rz HO_151001.out) (by decide)) hk (fun _ h => h.2)) (fun _ h => h.1))
       have n2_ := Aside0.mk (Kd.R_mono (Kd.R_keep (IsS120.apart (show IsS120 w0 _ g s0_0 t155 t156 from by repeat (first | (with_reducible first | exact HI0.out | apply IsS120.alloc | apply IsS120.drewN | apply IsS120.drew | apply IsS120.set_1 | apply IsS120.set_2 | apply IsS120.far (p := ⟨gb149, _, none⟩) (hne := NB0_149.out) | apply IsS120.far (p := ⟨gb150, _, none⟩) (hne := NB0_150.out)) | exact HI0.out)) (rz HO_151002.out) (by decide)) hk (fun _ h => h.2)) (fun _ h => h.1))
       have n3_ := Aside0.mk (Kd.R_mono (Kd.R_keep (IsS120.apart (show IsS120 w0 _ g s0_0 t155 t156 from by repeat (first | (with_reducible first | exact HI0.out | apply IsS120.alloc | apply IsS120.drewN | apply IsS120.drew | apply IsS120.set_1 | apply IsS120.set_2 | apply IsS120.far (p := ⟨gb149, _, none⟩) (hne := NB0_149.out) | apply IsS120.far (p := ⟨gb150, _, none⟩) (hne := NB0_150.out)) | exact HI0.out)) (rz HO_151003.out) (by decide)) hk (fun _ h => h.2)) (fun _ h => h.1))
       have n4_ := Aside0.mk (KeepBut.blk hk (g' := gb149) (o := .cells #[.slice none 0 0, .slice none 0 0, .slice none 0 0, .slice none 0 0] 29 (0, 0)) (kz BK149.out) NB149_0.out (by simp))
       have n5_ := Aside0.mk (KeepBut.blk hk (g' := gb150) (o := .cells #[.slice Ao59 x151000_1.length co59, .slice Ao60 x151001_1.length co60, .slice Ao61 x151002_1.length co61, .slice Ao62 x151003_1.length co62] 29 (0, 0)) (kz BK150.out) NB150_0.out (by simp))
       have n6_ := Aside0.mk (KeepBut.trans (by repeat (first | (with_reducible first | exact HK.out | apply KeepBut.set_ | apply keep_drewN | apply keep_drew | apply keep_alloc | refine keep_far ?_ GW149.out _ | refine keep_far ?_ GW150.out _) | exact HK.out)) hk (.inl rfl))
       have n7_ := Aside0.mk (hb)
       have n8_ := Aside0.mk (hi)
       clear HO_151000
       clear HO_151001
       clear HO_151002
       clear HO_151003
       clear BK149
       clear BK150
       clear HK
       clear HB
       clear HI0
       have HO_151000 := n0_
       have HO_151001 := n1_
       have HO_151002 := n2_
       have HO_151003 := n3_
       have BK149 := n4_
       have BK150 := n5_
       have HK := n6_
       have HB := n7_
       have HI0 := n8_
       clear n0_ n1_ n2_ n3_ n4_ n5_ n6_ n7_ n8_
       (try clear hb)
       (try clear hb2)
       (try clear hk)
       (try clear hi)
       refine hK.out _ _ ⟨(blk_cell BK150.out 0).trans rfl, (blk_cell BK150.out 1).trans rfl, (blk_cell BK150.out 2).trans rfl, (blk_cell BK150.out 3).trans rfl⟩ (fun hHeld => ?_)
       clear hK K
       refine norm_ (a' := ?_) ?_ ?_
       rotate_left
       ·show Act.put _ (some 18) _ = _
        simp only [Act.put, sz1, sz2, sz3, i64_w, i32_w]
        rfl
       refine one_ (i := 5) (N := some 19) (mk_ 6 3) rfl rfl (one_of HT_.out (by kernel_rfl)) (by decide) (fun K hK => ?_)
       refine value_ (w1 := ?_) (v := ?_) (by rfl) rfl ?_ ?_
       rotate_left 2
       ·go_simp
        constructor
        ·rfl
        ·rfl
       refine hK.out _ _ ⟨(blk_cell (blk_alloc BK150.out _) 0).trans rfl, (blk_cell (blk_alloc BK150.out _) 1).trans rfl, (blk_cell (blk_alloc BK150.out _) 2).trans rfl, (blk_cell (blk_alloc BK150.out _) 3).trans rfl⟩ (fun hHeld => ?_)
       clear hK K
       refine norm_ (a' := ?_) ?_ ?_
       rotate_left
       ·show Act.put _ (some 19) _ = _
        simp only [Act.put, sz1, sz2, sz3, i64_w, i32_w]
        rfl
       refine one_ (i := 6) (N := some 20) (mk_ 7 2) rfl rfl (one_of HT_.out (by kernel_rfl)) (by decide) (fun K hK => ?_)
       refine Kd.R_append_step k35 w.heap.size (by rfl) (.tmp 15) (.tmp 19) 27 35 (.agg #[(.int .i64 0), (.int .i64 0)]) 16 rfl Tryd.underlying27 info35 rfl (by decide) (by omega) (.slice Ao62 x151003_1.length co62) x151003_1 (⟨t190, t191⟩ : S35) [.int .i64 t190, .int .i64 t191] (fun _ => True) (fun _ => False) rfl rfl ?aP (fun _ hk => hk.elim) ?aF ?aO (Below.refl _ _) ?aS ?aL ?_
       (case aP => exact k35_mkM _ _ _ (⟨t190, t191⟩ : S35))
       (case aF => exact (fun _ _ => trivial))
       (case aO => exact (rz HO_151003.out))
       (case aS => exact (keep_size (w := w) (g := g) (row := none) (by repeat (first | (with_reducible first | exact HK.out | apply KeepBut.set_ | apply keep_drewN | apply keep_drew | apply keep_alloc | refine keep_far ?_ GW149.out _ | refine keep_far ?_ GW150.out _) | exact HK.out))))
       (case aL => have := LMc56.out; omega)
       intro v195 w64 ho hb hg hat
       rw [<- Ny194.out] at ho
       have n0_ := Aside0.mk (Kd.R_over' (rz HO_151000.out) (Kd.R_typed (rz HO_151003.out)) (by decide) hg)
       have n1_ := Aside0.mk (Kd.R_over' (rz HO_151001.out) (Kd.R_typed (rz HO_151003.out)) (by decide) hg)
       have n2_ := Aside0.mk (Kd.R_over' (rz HO_151002.out) (Kd.R_typed (rz HO_151003.out)) (by decide) hg)
       have n3_ := Aside0.mk (blk_grown (g := gb149) (o := .cells #[.slice none 0 0, .slice none 0 0, .slice none 0 0, .slice none 0 0] 29 (0, 0)) (kz BK149.out) hg (Kd.R_ne HO_151003.out BK149.out (by decide)))
       have n4_ := Aside0.mk (blk_grown (g := gb150) (o := .cells #[.slice Ao59 x151000_1.length co59, .slice Ao60 x151001_1.length co60, .slice Ao61 x151002_1.length co61, .slice Ao62 x151003_1.length co62] 29 (0, 0)) (kz BK150.out) hg (Kd.R_ne HO_151003.out BK150.out (by decide)))
       have n5_ := Aside0.mk (IsS120.grown (by repeat (first | (with_reducible first | exact HI0.out | apply IsS120.alloc | apply IsS120.drewN | apply IsS120.drew | apply IsS120.set_1 | apply IsS120.set_2 | apply IsS120.far (p := ⟨gb149, _, none⟩) (hne := NB0_149.out) | apply IsS120.far (p := ⟨gb150, _, none⟩) (hne := NB0_150.out)) | exact HI0.out)) hg (IsS120.own_ne HI0.out HO_151003.out (by decide)))
       have n6_ := Aside0.mk (below_weaken (by repeat (first | (with_reducible first | exact HB.out | apply below_alloc | apply pw_below_drewN | apply below_drew1 | refine below_set ?_ (IsS120.ge HI0.out) | refine below_set ?_ GE149.out | refine below_set ?_ GE150.out) | exact HB.out)) HL.out hb)
       have n7_ := Aside0.mk (KeepBut.trans (by repeat (first | (with_reducible first | exact HK.out | apply KeepBut.set_ | apply keep_drewN | apply keep_drew | apply keep_alloc | refine keep_far ?_ GW149.out _ | refine keep_far ?_ GW150.out _) | exact HK.out)) (KeepBut.of_grown hg g) (Kd.R_base2 HO_151003.out))
       have n8_ := Aside0.mk (ho)
       clear HO_151000
       clear HO_151001
       clear HO_151002
       clear BK149
       clear BK150
       clear HI0
       clear HB
       clear HK
       clear HO_151003
       have HO_151000 := n0_
       have HO_151001 := n1_
       have HO_151002 := n2_
       have BK149 := n3_
       have BK150 := n4_
       have HI0 := n5_
       have HB := n6_
       have HK := n7_
       have HO196 := n8_
       clear n0_ n1_ n2_ n3_ n4_ n5_ n6_ n7_ n8_
       clear ho hb hg hat
       obtain ⟨Ao65, co65, eo65⟩ := Kd.R_slice HO196.out
       (first | subst eo65 | (injection eo65 with f1_ f2_ f3_; have f4_ := f1_.symm; have f5_ := f3_.symm; clear f1_ f2_ f3_; subst f4_; subst f5_))
       refine hK.out _ _ ⟨(blk_cell BK150.out 0).trans rfl, (blk_cell BK150.out 1).trans rfl, (blk_cell BK150.out 2).trans rfl, (blk_cell BK150.out 3).trans rfl⟩ (fun hHeld => ?_)
       clear hK K
       refine norm_ (a' := ?_) ?_ ?_
       rotate_left
       ·show Act.put _ (some 20) _ = _
        simp only [Act.put, sz1, sz2, sz3, i64_w, i32_w]
        rfl
       refine pv 7 21 (mk_ 8 1) HT_ rfl rfl ?_
       refine last_ (i := 8) (N := none) #[true, true, true, true, true, true, true, true, true] rfl rfl (one_of HT_.out (by kernel_rfl)) (by decide) (fun K hK => ?_)
       have hs66 : w64.cell? ⟨gb150, 3, none⟩ = some (.slice Ao62 x151003_1.length co62) := (blk_cell BK150.out 3).trans rfl
       have hfs66 := blk_frozen BK150.out 3
       have hns66_0 := NB149_150.out
       have hms66_0 := NB150_149.out
       refine skip_ (w1 := ?_) (by rfl) rfl ?_ ?_
       rotate_left
       ·go_simp
        rfl
       refine hK.out _ _ ?_
       clear hK K
       refine done_ (done_of HT_.out (by kernel_rfl)) ?_
       try go_wp2
       go_roundg k1
       case measure => have := HK1.out; omega
       case rel => exact ⟨(wrap64 (x4_1 - 1)), (t192), (t193), (x151000_1), (x151001_1), (x151002_1), (y194), (.slice Ao59 x151000_1.length co59), (.slice Ao60 x151001_1.length co60), (.slice Ao61 x151002_1.length co61), (.slice Ao65 y194.length co65), ez, H', ⟨by have := HK1.out; omega⟩, ⟨by refine rq ?_; exact Kd.R_mono (Kd.R_far (p := ⟨gb150, 3, none⟩) (Kd.R_types HO_151000.out BK150.out (by decide)) (fun _ hk => hk.2) (.slice Ao65 y194.length co65)) (fun _ hk => trivial)⟩, ⟨by refine rq ?_; exact Kd.R_mono (Kd.R_far (p := ⟨gb150, 3, none⟩) (Kd.R_types HO_151001.out BK150.out (by decide)) (fun _ hk => hk.2) (.slice Ao65 y194.length co65)) (fun _ hk => trivial)⟩, ⟨by refine rq ?_; exact Kd.R_mono (Kd.R_far (p := ⟨gb150, 3, none⟩) (Kd.R_types HO_151002.out BK150.out (by decide)) (fun _ hk => hk.2) (.slice Ao65 y194.length co65)) (fun _ hk => trivial)⟩, ⟨by refine rq ?_; exact Kd.R_mono (Kd.R_far (p := ⟨gb150, 3, none⟩) (Kd.R_types HO196.out BK150.out (by decide)) (fun _ hk => hk.2) (.slice Ao65 y194.length co65)) (fun _ hk => trivial)⟩, ⟨by refine kq ?_; refine blk_far ?_ NB149_150.out _; refine kq ?_; exact BK149.out⟩, ⟨by refine kq ?_; refine blk_put (cs := #[.slice Ao59 x151000_1.length co59, .slice Ao60 x151001_1.length co60, .slice Ao61 x151002_1.length co61, .slice Ao62 x151003_1.length co62]) ?_ 3 _ rfl; refine kq ?_; exact BK150.out⟩, ⟨by repeat (first | (with_reducible first | exact HI0.out | apply IsS120.alloc | apply IsS120.drewN | apply IsS120.drew | apply IsS120.set_1 | apply IsS120.set_2 | apply IsS120.far (p := ⟨gb149, _, none⟩) (hne := NB0_149.out) | apply IsS120.far (p := ⟨gb150, _, none⟩) (hne := NB0_150.out)) | exact HI0.out)⟩, ⟨by repeat (first | (with_reducible first | exact HK.out | apply KeepBut.set_ | apply keep_drewN | apply keep_drew | apply keep_alloc | refine keep_far ?_ GW149.out _ | refine keep_far ?_ GW150.out _) | exact HK.out)⟩, ⟨by repeat (first | (with_reducible first | exact HB.out | apply below_alloc | apply pw_below_drewN | apply below_drew1 | refine below_set ?_ (IsS120.ge HI0.out) | refine below_set ?_ GE149.out | refine below_set ?_ GE150.out) | exact HB.out)⟩⟩
   ·rw [if_neg c9] at H
    have c9b0 : decide (0 < x4_1) = false := decide_eq_false c9
    clear c9
    replace H := bi H
    obtain ⟨⟨t197, t198, t199⟩, A670, H⟩ := H
    try dsimp only at H
    have A67 := Aside0.mk A670
    clear A670
    by_cases c68 : t197 = 0
    ·rw [if_pos c68] at H
     have c68b0 : (t197 == 0) = true := beq_iff_eq.mpr c68
     have c68b1 : (t197 != 0) = false := bne_eq_false_iff_eq.mpr c68
     clear c68
     replace H := bi H
     obtain ⟨⟨t200, t201, t202⟩, A690, H⟩ := H
     try dsimp only at H
     have A69 := Aside0.mk A690
     clear A690
     replace H := iz H
     obtain ⟨c70, H⟩ := H
     have LMc70 := Aside0.mk c70
     clear c70
     obtain ⟨y203, hy203⟩ : ∃ y_ : List (S35), y_ = (x151003_1 ++ [(⟨3, t200⟩ : S35)]) := ⟨_, rfl⟩
     replace H : (some (x151000_1, x151001_1, x151002_1, y203, t201, t202)) = some (r1, r2, r3, r4, r5, r6) := yz hy203 H
     have Ny203 := Aside0.mk hy203
     clear hy203
     simp only [Option.some.injEq, Prod.mk.injEq] at H
     obtain ⟨rfl, rfl, rfl, rfl, rfl, rfl⟩ := H
     try go_wp2_with (first | ((with_reducible refine gate_callee (f := 40) rfl ?_); refine goesL_ (some 77) rfl rfl Tryd.func40 (by kernel_rfl) rfl #[.pointer (some ⟨g, 0, none⟩), .int .i64 16] rfl lz ?_; (with_reducible refine (spec_l1Below.calls g s0_0 x1001_1 x1002_1 16 t197 t198 t199 w0 _ ?side1 ?side2 A67.out).mono ?_); (case side1 => repeat (first | (with_reducible first | exact HI0.out | apply IsS120.alloc | apply IsS120.drewN | apply IsS120.drew | apply IsS120.set_1 | apply IsS120.set_2 | apply IsS120.far (p := ⟨gb149, _, none⟩) (hne := NB0_149.out) | apply IsS120.far (p := ⟨gb150, _, none⟩) (hne := NB0_150.out)) | exact HI0.out)); (case side2 => repeat (first | (with_reducible first | exact HB.out | apply below_alloc | apply pw_below_drewN | apply below_drew1 | refine below_set ?_ (IsS120.ge HI0.out) | refine below_set ?_ GE149.out | refine below_set ?_ GE150.out) | exact HB.out)); rintro e w71 ⟨rfl, hi, hb, hk⟩; refine ⟨_, rfl, ?_⟩; replace HO_151000 := Aside0.mk (Kd.R_mono (Kd.R_keep (IsS120.apart (show IsS120 w0 _ g s0_0 x1001_1 x1002_1 from by repeat (first | (with_reducible first | exact HI0.out | apply IsS120.alloc | apply IsS120.drewN | apply IsS120.drew | apply IsS120.set_1 | apply IsS120.set_2 | apply IsS120.far (p := ⟨gb149, _, none⟩) (hne := NB0_149.out) | apply IsS120.far (p := ⟨gb150, _, none⟩) (hne := NB0_150.out)) | exact HI0.out)) (rz HO_151000.out) (by decide)) hk (fun _ h => h.2)) (fun _ h => h.1)); replace HO_151001 := Aside0.mk (Kd.R_mono (Kd.R_keep (IsS120.apart (show IsS120 w0 _ g s0_0 x1001_1 x1002_1 from by repeat (first | (with_reducible first | exact HI0.out | apply IsS120.alloc | apply IsS120.drewN | apply IsS120.drew | apply IsS120.set_1 | apply IsS120.set_2 | apply IsS120.far (p := ⟨gb149, _, none⟩) (hne := NB0_149.out) | apply IsS120.far (p := ⟨gb150, _, none⟩) (hne := NB0_150.out)) | exact HI0.out)) (rz HO_151001.out) (by decide)) hk (fun _ h => h.2)) (fun _ h => h.1)); replace HO_151002 := Aside0.mk (Kd.R_mono (Kd.R_keep (IsS120.apart (show IsS120 w0 _ g s0_0 x1001_1 x1002_1 from by repeat (first | (with_reducible first | exact HI0.out | apply IsS120.alloc | apply IsS120.drewN | apply IsS120.drew | apply IsS120.set_1 | apply IsS120.set_2 | apply IsS120.far (p := ⟨gb149, _, none⟩) (hne := NB0_149.out) | apply IsS120.far (p := ⟨gb150, _, none⟩) (hne := NB0_150.out)) | exact HI0.out)) (rz HO_151002.out) (by decide)) hk (fun _ h => h.2)) (fun _ h => h.1)); replace HO_151003 := Aside0.mk (Kd.R_mono (Kd.R_keep (IsS120.apart (show IsS120 w0 _ g s0_0 x1001_1 x1002_1 from by repeat (first | (with_reducible first | exact HI0.out | apply IsS120.alloc | apply IsS120.drewN | apply IsS120.drew | apply IsS120.set_1 | apply IsS120.set_2 | apply IsS120.far (p := ⟨gb149, _, none⟩) (hne := NB0_149.out) | apply IsS120.far (p := ⟨gb150, _, none⟩) (hne := NB0_150.out)) | exact HI0.out)) (rz HO_151003.out) (by decide)) hk (fun _ h => h.2)) (fun _ h => h.1)); replace BK149 := Aside0.mk (KeepBut.blk hk (g' := gb149) (o := .cells #[.slice none 0 0, .slice none 0 0, .slice none 0 0, .slice none 0 0] 29 (0, 0)) (kz BK149.out) NB149_0.out (by simp)); replace BK150 := Aside0.mk (KeepBut.blk hk (g' := gb150) (o := .cells #[u151000, u151001, u151002, u151003] 29 (0, 0)) (kz BK150.out) NB150_0.out (by simp)); replace HK := Aside0.mk (KeepBut.trans (by repeat (first | (with_reducible first | exact HK.out | apply KeepBut.set_ | apply keep_drewN | apply keep_drew | apply keep_alloc | refine keep_far ?_ GW149.out _ | refine keep_far ?_ GW150.out _) | exact HK.out)) hk (.inl rfl)); replace HB := Aside0.mk (hb); replace HI0 := Aside0.mk (hi); (try clear hb); (try clear hk); (try clear hi)))
     have n0_ := Aside0.mk (Kd.R_drew HO_151000.out)
     have n1_ := Aside0.mk (Kd.R_drew HO_151001.out)
     have n2_ := Aside0.mk (Kd.R_drew HO_151002.out)
     have n3_ := Aside0.mk (Kd.R_drew HO_151003.out)
     have n4_ := Aside0.mk (blk_drew BK149.out)
     have n5_ := Aside0.mk (blk_drew BK150.out)
     have n6_ := Aside0.mk (IsS120.drew HI0.out)
     have n7_ := Aside0.mk (keep_drew HK.out)
     have n8_ := Aside0.mk (below_drew1 HB.out)
     clear HO_151000
     clear HO_151001
     clear HO_151002
     clear HO_151003
     clear BK149
     clear BK150
     clear HI0
     clear HK
     clear HB
     have HO_151000 := n0_
     have HO_151001 := n1_
     have HO_151002 := n2_
     have HO_151003 := n3_
     have BK149 := n4_
     have BK150 := n5_
     have HI0 := n6_
     have HK := n7_
     have HB := n8_
     clear n0_ n1_ n2_ n3_ n4_ n5_ n6_ n7_ n8_
     refine start_ (n := 9) (S := fun w' => w'.cell? ⟨gb150, 0, none⟩ = some (u151000) /\ w'.cell? ⟨gb150, 1, none⟩ = some (u151001) /\ w'.cell? ⟨gb150, 2, none⟩ = some (u151002) /\ w'.cell? ⟨gb150, 3, none⟩ = some (u151003)) (ds := [8]) (mk_ 0 9) (by kernel_rfl) rfl rfl ⟨(blk_cell BK150.out 0).trans rfl, (blk_cell BK150.out 1).trans rfl, (blk_cell BK150.out 2).trans rfl, (blk_cell BK150.out 3).trans rfl⟩ (fun hHeld => ?_); refine with_tabW spec_l10Heap.tab15 spec_l10Heap.bits15 (fun HT_ HW_ => ?_)
     generalize w71.drew = w72 at HO_151000 HO_151001 HO_151002 HO_151003 BK149 BK150 HI0 HK HB hHeld ⊢
     refine pv 0 80 (mk_ 1 8) HT_ rfl rfl ?_
     refine pv 2 82 (bm_ 9 5) HT_ rfl rfl ?_
     refine tv4 1 81 (mk_ 3 6) HT_ HW_ rfl rfl hHeld ?_
     refine one_ (i := 3) (N := some 83) (mk_ 4 5) rfl rfl (one_of HT_.out (by kernel_rfl)) (by decide) (fun K hK => ?_)
     refine goes_ Tryd.func40 (by kernel_rfl) rfl #[.pointer (some ⟨g, 0, none⟩), .int .i64 9] (by rfl) rfl rfl lz ?_
     with_reducible refine (spec_l1Below.calls g s0_0 t198 t199 9 t200 t201 t202 w0 _ ?side1 ?side2 A69.out).mono ?_
     (case side1 => repeat (first | (with_reducible first | exact HI0.out | apply IsS120.alloc | apply IsS120.drewN | apply IsS120.drew | apply IsS120.set_1 | apply IsS120.set_2 | apply IsS120.far (p := ⟨gb149, _, none⟩) (hne := NB0_149.out) | apply IsS120.far (p := ⟨gb150, _, none⟩) (hne := NB0_150.out)) | exact HI0.out))
     (case side2 => repeat (first | (with_reducible first | exact HB.out | apply below_alloc | apply pw_below_drewN | apply below_drew1 | refine below_set ?_ (IsS120.ge HI0.out) | refine below_set ?_ GE149.out | refine below_set ?_ GE150.out) | exact HB.out))
     rintro e w73 ⟨rfl, hi, hb, hk⟩
     refine ⟨_, rfl, ?_⟩
     have n0_ := Aside0.mk (Kd.R_mono (Kd.R_keep (IsS120.apart (show IsS120 w0 _ g s0_0 t198 t199 from by repeat (first | (with_reducible first | exact HI0.out | apply IsS120.alloc | apply IsS120.drewN | apply IsS120.drew | apply IsS120.set_1 | apply IsS120.set_2 | apply IsS120.far (p := ⟨gb149, _, none⟩) (hne := NB0_149.out) | apply IsS120.far (p := ⟨gb150, _, none⟩) (hne := NB0_150.out)) | exact HI0.out)) (rz HO_151000.out) (by decide)) hk (fun _ h => h.2)) (fun _ h => h.1))
     have n1_ := Aside0.mk (Kd.R_mono (Kd.R_keep (IsS120.apart (show IsS120 w0 _ g s0_0 t198 t199 from by repeat (first | (with_reducible first | exact HI0.out | apply IsS120.alloc | apply IsS120.drewN | apply IsS120.drew | apply IsS120.set_1 | apply IsS120.set_2 | apply IsS120.far (p := ⟨gb149, _, none⟩) (hne := NB0_149.out) | apply IsS120.far (p := ⟨gb150, _, none⟩) (hne := NB0_150.out)) | exact HI0.out)) (rz HO_151001.out) (by decide)) hk (fun _ h => h.2)) (fun _ h => h.1))
     have n2_ := Aside0.mk (Kd.R_mono (Kd.R_keep (IsS120.apart (show IsS120 w0 _ g s0_0 t198 t199 from by repeat (first | (with_reducible first | exact HI0.out | apply IsS120.alloc | apply IsS120.drewN | apply IsS120.drew | apply IsS120.set_1 | apply IsS120.set_2 | apply IsS120.far (p := ⟨gb149, _, none⟩) (hne := NB0_149.out) | apply IsS120.far (p := ⟨gb150, _, none⟩) (hne := NB0_150.out)) | exact HI0.out)) (rz HO_151002.out) (by decide)) hk (fun _ h => h.2)) (fun _ h => h.1))
     have n3_ := Aside0.mk (Kd.R_mono (Kd.R_keep (IsS120.apart (show IsS120 w0 _ g s0_0 t198 t199 from by repeat (first | (with_reducible first | exact HI0.out | apply IsS120.alloc | apply IsS120.drewN | apply IsS120.drew | apply IsS120.set_1 | apply IsS120.set_2 | apply IsS120.far (p := ⟨gb149, _, none⟩) (hne := NB0_149.out) | apply IsS120.far (p := ⟨gb150, _, none⟩) (hne := NB0_150.out)) | exact HI0.out)) (rz HO_151003.out) (by decide)) hk (fun _ h => h.2)) (fun _ h => h.1))
     have n4_ := Aside0.mk (KeepBut.blk hk (g' := gb149) (o := .cells #[.slice none 0 0, .slice none 0 0, .slice none 0 0, .slice none 0 0] 29 (0, 0)) (kz BK149.out) NB149_0.out (by simp))
     have n5_ := Aside0.mk (KeepBut.blk hk (g' := gb150) (o := .cells #[u151000, u151001, u151002, u151003] 29 (0, 0)) (kz BK150.out) NB150_0.out (by simp))
     have n6_ := Aside0.mk (KeepBut.trans (by repeat (first | (with_reducible first | exact HK.out | apply KeepBut.set_ | apply keep_drewN | apply keep_drew | apply keep_alloc | refine keep_far ?_ GW149.out _ | refine keep_far ?_ GW150.out _) | exact HK.out)) hk (.inl rfl))
     have n7_ := Aside0.mk (hb)
     have n8_ := Aside0.mk (hi)
     clear HO_151000
     clear HO_151001
     clear HO_151002
     clear HO_151003
     clear BK149
     clear BK150
     clear HK
     clear HB
     clear HI0
     have HO_151000 := n0_
     have HO_151001 := n1_
     have HO_151002 := n2_
     have HO_151003 := n3_
     have BK149 := n4_
     have BK150 := n5_
     have HK := n6_
     have HB := n7_
     have HI0 := n8_
     clear n0_ n1_ n2_ n3_ n4_ n5_ n6_ n7_ n8_
     (try clear hb)
     (try clear hb2)
     (try clear hk)
     (try clear hi)
     refine hK.out _ _ ⟨(blk_cell BK150.out 0).trans rfl, (blk_cell BK150.out 1).trans rfl, (blk_cell BK150.out 2).trans rfl, (blk_cell BK150.out 3).trans rfl⟩ (fun hHeld => ?_)
     clear hK K
     refine norm_ (a' := ?_) ?_ ?_
     rotate_left
     ·show Act.put _ (some 83) _ = _
      simp only [Act.put, sz1, sz2, sz3, i64_w, i32_w]
      rfl
     refine pv 4 84 (mk_ 5 4) HT_ rfl rfl ?_
     refine one_ (i := 5) (N := some 85) (mk_ 6 3) rfl rfl (one_of HT_.out (by kernel_rfl)) (by decide) (fun K hK => ?_)
     refine value_ (w1 := ?_) (v := ?_) (by rfl) rfl ?_ ?_
     rotate_left 2
     ·go_simp
      constructor
      ·rfl
      ·rfl
     refine hK.out _ _ ⟨(blk_cell (blk_alloc BK150.out _) 0).trans rfl, (blk_cell (blk_alloc BK150.out _) 1).trans rfl, (blk_cell (blk_alloc BK150.out _) 2).trans rfl, (blk_cell (blk_alloc BK150.out _) 3).trans rfl⟩ (fun hHeld => ?_)
     clear hK K
     refine norm_ (a' := ?_) ?_ ?_
     rotate_left
     ·show Act.put _ (some 85) _ = _
      simp only [Act.put, sz1, sz2, sz3, i64_w, i32_w]
      rfl
     refine one_ (i := 6) (N := some 86) (mk_ 7 2) rfl rfl (one_of HT_.out (by kernel_rfl)) (by decide) (fun K hK => ?_)
     refine Kd.R_append_step k35 w.heap.size (by rfl) (.tmp 81) (.tmp 85) 27 35 (.agg #[(.int .i64 0), (.int .i64 0)]) 16 rfl Tryd.underlying27 info35 rfl (by decide) (by omega) u151003 x151003_1 (⟨3, t200⟩ : S35) [.int .i64 3, .int .i64 t200] (fun _ => True) (fun _ => False) rfl rfl ?aP (fun _ hk => hk.elim) ?aF ?aO (Below.refl _ _) ?aS ?aL ?_
     (case aP => exact k35_mkM _ _ _ (⟨3, t200⟩ : S35))
     (case aF => exact (fun _ _ => trivial))
     (case aO => exact (rz HO_151003.out))
     (case aS => exact (keep_size (w := w) (g := g) (row := none) (by repeat (first | (with_reducible first | exact HK.out | apply KeepBut.set_ | apply keep_drewN | apply keep_drew | apply keep_alloc | refine keep_far ?_ GW149.out _ | refine keep_far ?_ GW150.out _) | exact HK.out))))
     (case aL => have := LMc70.out; omega)
     intro v204 w74 ho hb hg hat
     rw [<- Ny203.out] at ho
     have n0_ := Aside0.mk (Kd.R_over' (rz HO_151000.out) (Kd.R_typed (rz HO_151003.out)) (by decide) hg)
     have n1_ := Aside0.mk (Kd.R_over' (rz HO_151001.out) (Kd.R_typed (rz HO_151003.out)) (by decide) hg)
     have n2_ := Aside0.mk (Kd.R_over' (rz HO_151002.out) (Kd.R_typed (rz HO_151003.out)) (by decide) hg)
     have n3_ := Aside0.mk (blk_grown (g := gb149) (o := .cells #[.slice none 0 0, .slice none 0 0, .slice none 0 0, .slice none 0 0] 29 (0, 0)) (kz BK149.out) hg (Kd.R_ne HO_151003.out BK149.out (by decide)))
     have n4_ := Aside0.mk (blk_grown (g := gb150) (o := .cells #[u151000, u151001, u151002, u151003] 29 (0, 0)) (kz BK150.out) hg (Kd.R_ne HO_151003.out BK150.out (by decide)))
     have n5_ := Aside0.mk (IsS120.grown (by repeat (first | (with_reducible first | exact HI0.out | apply IsS120.alloc | apply IsS120.drewN | apply IsS120.drew | apply IsS120.set_1 | apply IsS120.set_2 | apply IsS120.far (p := ⟨gb149, _, none⟩) (hne := NB0_149.out) | apply IsS120.far (p := ⟨gb150, _, none⟩) (hne := NB0_150.out)) | exact HI0.out)) hg (IsS120.own_ne HI0.out HO_151003.out (by decide)))
     have n6_ := Aside0.mk (below_weaken (by repeat (first | (with_reducible first | exact HB.out | apply below_alloc | apply pw_below_drewN | apply below_drew1 | refine below_set ?_ (IsS120.ge HI0.out) | refine below_set ?_ GE149.out | refine below_set ?_ GE150.out) | exact HB.out)) HL.out hb)
     have n7_ := Aside0.mk (KeepBut.trans (by repeat (first | (with_reducible first | exact HK.out | apply KeepBut.set_ | apply keep_drewN | apply keep_drew | apply keep_alloc | refine keep_far ?_ GW149.out _ | refine keep_far ?_ GW150.out _) | exact HK.out)) (KeepBut.of_grown hg g) (Kd.R_base2 HO_151003.out))
     have n8_ := Aside0.mk (ho)
     clear HO_151000
     clear HO_151001
     clear HO_151002
     clear BK149
     clear BK150
     clear HI0
     clear HB
     clear HK
     clear HO_151003
     have HO_151000 := n0_
     have HO_151001 := n1_
     have HO_151002 := n2_
     have BK149 := n3_
     have BK150 := n4_
     have HI0 := n5_
     have HB := n6_
     have HK := n7_
     have HO205 := n8_
     clear n0_ n1_ n2_ n3_ n4_ n5_ n6_ n7_ n8_
     clear ho hb hg hat
     obtain ⟨Ao75, co75, eo75⟩ := Kd.R_slice HO205.out
     (first | subst eo75 | (injection eo75 with f1_ f2_ f3_; have f4_ := f1_.symm; have f5_ := f3_.symm; clear f1_ f2_ f3_; subst f4_; subst f5_))
     refine hK.out _ _ ⟨(blk_cell BK150.out 0).trans rfl, (blk_cell BK150.out 1).trans rfl, (blk_cell BK150.out 2).trans rfl, (blk_cell BK150.out 3).trans rfl⟩ (fun hHeld => ?_)
     clear hK K
     refine norm_ (a' := ?_) ?_ ?_
     rotate_left
     ·show Act.put _ (some 86) _ = _
      simp only [Act.put, sz1, sz2, sz3, i64_w, i32_w]
      rfl
     refine pv 7 87 (mk_ 8 1) HT_ rfl rfl ?_
     refine last_ (i := 8) (N := none) #[true, true, true, true, true, true, true, true, true] rfl rfl (one_of HT_.out (by kernel_rfl)) (by decide) (fun K hK => ?_)
     have hs76 : w74.cell? ⟨gb150, 3, none⟩ = some (u151003) := (blk_cell BK150.out 3).trans rfl
     have hfs76 := blk_frozen BK150.out 3
     have hns76_0 := NB149_150.out
     have hms76_0 := NB150_149.out
     refine skip_ (w1 := ?_) (by rfl) rfl ?_ ?_
     rotate_left
     ·go_simp
      rfl
     refine hK.out _ _ ?_
     clear hK K
     refine done_ (done_of HT_.out (by kernel_rfl)) ?_
     have hnb77 := NB150_149.out
     have hnc77 := NB149_150.out
     have hnb78 := NB150_0.out
     have hnc78 := NB0_150.out
     obtain ⟨hcz79_0, hcz79_1, hcz79_2, hcz79_3⟩ := cz4 BK150.out
     obtain ⟨hfz79_0, hfz79_1, hfz79_2, hfz79_3⟩ := fz4 BK150.out
     obtain ⟨Ao80, co80, eo80⟩ := Kd.R_slice HO_151000.out
     subst eo80
     have hnb81 := NB149_0.out
     have hnc81 := NB0_149.out
     obtain ⟨hcz82_0, hcz82_1, hcz82_2, hcz82_3⟩ := cz4 BK149.out
     obtain ⟨hfz82_0, hfz82_1, hfz82_2, hfz82_3⟩ := fz4 BK149.out
     obtain ⟨Ao83, co83, eo83⟩ := Kd.R_slice HO_151001.out
     subst eo83
     obtain ⟨Ao84, co84, eo84⟩ := Kd.R_slice HO_151002.out
     subst eo84
     try go_wp2
     refine bodyPost_ret (results_cell_row rfl _ _ gb149 29 #[.slice Ao80 x151000_1.length co80, .slice Ao83 x151001_1.length co83, .slice Ao84 x151002_1.length co84, .slice Ao75 y203.length co75] (0, 0) _ rfl (by refine kq ?_; refine blk_put (cs := #[.slice Ao80 x151000_1.length co80, .slice Ao83 x151001_1.length co83, .slice Ao84 x151002_1.length co84, .slice none 0 0]) ?_ 3 _ rfl; refine kq ?_; refine blk_put (cs := #[.slice Ao80 x151000_1.length co80, .slice Ao83 x151001_1.length co83, .slice none 0 0, .slice none 0 0]) ?_ 2 _ rfl; refine kq ?_; refine blk_put (cs := #[.slice Ao80 x151000_1.length co80, .slice none 0 0, .slice none 0 0, .slice none 0 0]) ?_ 1 _ rfl; refine kq ?_; refine blk_put (cs := #[.slice none 0 0, .slice none 0 0, .slice none 0 0, .slice none 0 0]) ?_ 0 _ rfl; refine kq ?_; refine blk_far ?_ NB149_150.out _; refine kq ?_; exact BK149.out) Tryd.underlying29 rfl (by kernel_rfl)) rfl ?_
     exact ⟨_, _, _, _, gz, by refine rq ?_; first | (with_reducible exact Kd.R_mono (Kd.R_far (p := ⟨gb149, 3, none⟩) (Kd.R_far (p := ⟨gb149, 2, none⟩) (Kd.R_far (p := ⟨gb149, 1, none⟩) (Kd.R_far (p := ⟨gb149, 0, none⟩) (Kd.R_far (p := ⟨gb150, 3, none⟩) (Kd.R_types (Kd.R_types HO_151000.out BK150.out (by decide)) BK149.out (by decide)) (fun _ hk => hk.1.2) (.slice Ao75 y203.length co75)) (fun _ hk => hk.2) (.slice Ao80 x151000_1.length co80)) (fun _ hk => hk.2) (.slice Ao83 x151001_1.length co83)) (fun _ hk => hk.2) (.slice Ao84 x151002_1.length co84)) (fun _ hk => hk.2) (.slice Ao75 y203.length co75)) (fun _ hk => trivial)) | (with_reducible exact Kd.R_mono (Kd.R_far (p := ⟨gb149, 3, none⟩) (Kd.R_drewN (Kd.R_far (p := ⟨gb149, 2, none⟩) (Kd.R_far (p := ⟨gb149, 1, none⟩) (Kd.R_far (p := ⟨gb149, 0, none⟩) (Kd.R_far (p := ⟨gb150, 3, none⟩) (Kd.R_types (Kd.R_types HO_151000.out BK150.out (by decide)) BK149.out (by decide)) (fun _ hk => hk.1.2) (.slice Ao75 y203.length co75)) (fun _ hk => hk.2) (.slice Ao80 x151000_1.length co80)) (fun _ hk => hk.2) (.slice Ao83 x151001_1.length co83)) (fun _ hk => hk.2) (.slice Ao84 x151002_1.length co84)) _) (fun _ hk => hk.2) (.slice Ao75 y203.length co75)) (fun _ hk => trivial)) | exact Kd.R_mono (Kd.R_far (p := ⟨gb149, 3, none⟩) (Kd.R_drewN (Kd.R_far (p := ⟨gb149, 2, none⟩) (Kd.R_far (p := ⟨gb149, 1, none⟩) (Kd.R_far (p := ⟨gb149, 0, none⟩) (Kd.R_far (p := ⟨gb150, 3, none⟩) (Kd.R_types (Kd.R_types HO_151000.out BK150.out (by decide)) BK149.out (by decide)) (fun _ hk => hk.1.2) (.slice Ao75 y203.length co75)) (fun _ hk => hk.2) (.slice Ao80 x151000_1.length co80)) (fun _ hk => hk.2) (.slice Ao83 x151001_1.length co83)) (fun _ hk => hk.2) (.slice Ao84 x151002_1.length co84)) _) (fun _ hk => hk.2) (.slice Ao75 y203.length co75)) (fun _ hk => trivial), by refine rq ?_; first | (with_reducible exact Kd.R_mono (Kd.R_far (p := ⟨gb149, 3, none⟩) (Kd.R_far (p := ⟨gb149, 2, none⟩) (Kd.R_far (p := ⟨gb149, 1, none⟩) (Kd.R_far (p := ⟨gb149, 0, none⟩) (Kd.R_far (p := ⟨gb150, 3, none⟩) (Kd.R_types (Kd.R_types HO_151001.out BK150.out (by decide)) BK149.out (by decide)) (fun _ hk => hk.1.2) (.slice Ao75 y203.length co75)) (fun _ hk => hk.2) (.slice Ao80 x151000_1.length co80)) (fun _ hk => hk.2) (.slice Ao83 x151001_1.length co83)) (fun _ hk => hk.2) (.slice Ao84 x151002_1.length co84)) (fun _ hk => hk.2) (.slice Ao75 y203.length co75)) (fun _ hk => trivial)) | (with_reducible exact Kd.R_mono (Kd.R_far (p := ⟨gb149, 3, none⟩) (Kd.R_drewN (Kd.R_far (p := ⟨gb149, 2, none⟩) (Kd.R_far (p := ⟨gb149, 1, none⟩) (Kd.R_far (p := ⟨gb149, 0, none⟩) (Kd.R_far (p := ⟨gb150, 3, none⟩) (Kd.R_types (Kd.R_types HO_151001.out BK150.out (by decide)) BK149.out (by decide)) (fun _ hk => hk.1.2) (.slice Ao75 y203.length co75)) (fun _ hk => hk.2) (.slice Ao80 x151000_1.length co80)) (fun _ hk => hk.2) (.slice Ao83 x151001_1.length co83)) (fun _ hk => hk.2) (.slice Ao84 x151002_1.length co84)) _) (fun _ hk => hk.2) (.slice Ao75 y203.length co75)) (fun _ hk => trivial)) | exact Kd.R_mono (Kd.R_far (p := ⟨gb149, 3, none⟩) (Kd.R_drewN (Kd.R_far (p := ⟨gb149, 2, none⟩) (Kd.R_far (p := ⟨gb149, 1, none⟩) (Kd.R_far (p := ⟨gb149, 0, none⟩) (Kd.R_far (p := ⟨gb150, 3, none⟩) (Kd.R_types (Kd.R_types HO_151001.out BK150.out (by decide)) BK149.out (by decide)) (fun _ hk => hk.1.2) (.slice Ao75 y203.length co75)) (fun _ hk => hk.2) (.slice Ao80 x151000_1.length co80)) (fun _ hk => hk.2) (.slice Ao83 x151001_1.length co83)) (fun _ hk => hk.2) (.slice Ao84 x151002_1.length co84)) _) (fun _ hk => hk.2) (.slice Ao75 y203.length co75)) (fun _ hk => trivial), by refine rq ?_; first | (with_reducible exact Kd.R_mono (Kd.R_far (p := ⟨gb149, 3, none⟩) (Kd.R_far (p := ⟨gb149, 2, none⟩) (Kd.R_far (p := ⟨gb149, 1, none⟩) (Kd.R_far (p := ⟨gb149, 0, none⟩) (Kd.R_far (p := ⟨gb150, 3, none⟩) (Kd.R_types (Kd.R_types HO_151002.out BK150.out (by decide)) BK149.out (by decide)) (fun _ hk => hk.1.2) (.slice Ao75 y203.length co75)) (fun _ hk => hk.2) (.slice Ao80 x151000_1.length co80)) (fun _ hk => hk.2) (.slice Ao83 x151001_1.length co83)) (fun _ hk => hk.2) (.slice Ao84 x151002_1.length co84)) (fun _ hk => hk.2) (.slice Ao75 y203.length co75)) (fun _ hk => trivial)) | (with_reducible exact Kd.R_mono (Kd.R_far (p := ⟨gb149, 3, none⟩) (Kd.R_drewN (Kd.R_far (p := ⟨gb149, 2, none⟩) (Kd.R_far (p := ⟨gb149, 1, none⟩) (Kd.R_far (p := ⟨gb149, 0, none⟩) (Kd.R_far (p := ⟨gb150, 3, none⟩) (Kd.R_types (Kd.R_types HO_151002.out BK150.out (by decide)) BK149.out (by decide)) (fun _ hk => hk.1.2) (.slice Ao75 y203.length co75)) (fun _ hk => hk.2) (.slice Ao80 x151000_1.length co80)) (fun _ hk => hk.2) (.slice Ao83 x151001_1.length co83)) (fun _ hk => hk.2) (.slice Ao84 x151002_1.length co84)) _) (fun _ hk => hk.2) (.slice Ao75 y203.length co75)) (fun _ hk => trivial)) | exact Kd.R_mono (Kd.R_far (p := ⟨gb149, 3, none⟩) (Kd.R_drewN (Kd.R_far (p := ⟨gb149, 2, none⟩) (Kd.R_far (p := ⟨gb149, 1, none⟩) (Kd.R_far (p := ⟨gb149, 0, none⟩) (Kd.R_far (p := ⟨gb150, 3, none⟩) (Kd.R_types (Kd.R_types HO_151002.out BK150.out (by decide)) BK149.out (by decide)) (fun _ hk => hk.1.2) (.slice Ao75 y203.length co75)) (fun _ hk => hk.2) (.slice Ao80 x151000_1.length co80)) (fun _ hk => hk.2) (.slice Ao83 x151001_1.length co83)) (fun _ hk => hk.2) (.slice Ao84 x151002_1.length co84)) _) (fun _ hk => hk.2) (.slice Ao75 y203.length co75)) (fun _ hk => trivial), by refine rq ?_; first | (with_reducible exact Kd.R_mono (Kd.R_far (p := ⟨gb149, 3, none⟩) (Kd.R_far (p := ⟨gb149, 2, none⟩) (Kd.R_far (p := ⟨gb149, 1, none⟩) (Kd.R_far (p := ⟨gb149, 0, none⟩) (Kd.R_far (p := ⟨gb150, 3, none⟩) (Kd.R_types (Kd.R_types HO205.out BK150.out (by decide)) BK149.out (by decide)) (fun _ hk => hk.1.2) (.slice Ao75 y203.length co75)) (fun _ hk => hk.2) (.slice Ao80 x151000_1.length co80)) (fun _ hk => hk.2) (.slice Ao83 x151001_1.length co83)) (fun _ hk => hk.2) (.slice Ao84 x151002_1.length co84)) (fun _ hk => hk.2) (.slice Ao75 y203.length co75)) (fun _ hk => trivial)) | (with_reducible exact Kd.R_mono (Kd.R_far (p := ⟨gb149, 3, none⟩) (Kd.R_drewN (Kd.R_far (p := ⟨gb149, 2, none⟩) (Kd.R_far (p := ⟨gb149, 1, none⟩) (Kd.R_far (p := ⟨gb149, 0, none⟩) (Kd.R_far (p := ⟨gb150, 3, none⟩) (Kd.R_types (Kd.R_types HO205.out BK150.out (by decide)) BK149.out (by decide)) (fun _ hk => hk.1.2) (.slice Ao75 y203.length co75)) (fun _ hk => hk.2) (.slice Ao80 x151000_1.length co80)) (fun _ hk => hk.2) (.slice Ao83 x151001_1.length co83)) (fun _ hk => hk.2) (.slice Ao84 x151002_1.length co84)) _) (fun _ hk => hk.2) (.slice Ao75 y203.length co75)) (fun _ hk => trivial)) | exact Kd.R_mono (Kd.R_far (p := ⟨gb149, 3, none⟩) (Kd.R_drewN (Kd.R_far (p := ⟨gb149, 2, none⟩) (Kd.R_far (p := ⟨gb149, 1, none⟩) (Kd.R_far (p := ⟨gb149, 0, none⟩) (Kd.R_far (p := ⟨gb150, 3, none⟩) (Kd.R_types (Kd.R_types HO205.out BK150.out (by decide)) BK149.out (by decide)) (fun _ hk => hk.1.2) (.slice Ao75 y203.length co75)) (fun _ hk => hk.2) (.slice Ao80 x151000_1.length co80)) (fun _ hk => hk.2) (.slice Ao83 x151001_1.length co83)) (fun _ hk => hk.2) (.slice Ao84 x151002_1.length co84)) _) (fun _ hk => hk.2) (.slice Ao75 y203.length co75)) (fun _ hk => trivial), by repeat (first | (with_reducible first | exact HI0.out | apply IsS120.alloc | apply IsS120.drewN | apply IsS120.drew | apply IsS120.set_1 | apply IsS120.set_2 | apply IsS120.far (p := ⟨gb149, _, none⟩) (hne := NB0_149.out) | apply IsS120.far (p := ⟨gb150, _, none⟩) (hne := NB0_150.out)) | exact HI0.out), by repeat (first | (with_reducible first | exact HB.out | apply below_alloc | apply pw_below_drewN | apply below_drew1 | refine below_set ?_ (IsS120.ge HI0.out) | refine below_set ?_ GE149.out | refine below_set ?_ GE150.out) | exact HB.out), by repeat (first | (with_reducible first | exact HK.out | apply KeepBut.set_ | apply keep_drewN | apply keep_drew | apply keep_alloc | refine keep_far ?_ GW149.out _ | refine keep_far ?_ GW150.out _) | exact HK.out)⟩
    ·rw [if_neg c68] at H
     have c68b0 : (t197 == 0) = false := beq_eq_false_iff_ne.mpr c68
     have c68b1 : (t197 != 0) = true := bne_iff_ne.mpr c68
     by_cases c85 : t197 = 1
     ·rw [if_pos c85] at H
      have c85b0 : (t197 == 1) = true := beq_iff_eq.mpr c85
      have c85b1 : (t197 != 1) = false := bne_eq_false_iff_eq.mpr c85
      clear c85
      replace H := iz H
      obtain ⟨c86, H⟩ := H
      have LMc86 := Aside0.mk c86
      clear c86
      obtain ⟨y206, hy206⟩ : ∃ y_ : List (S86), y_ = (x151001_1 ++ [(⟨0, (x151000_1.length : Int)⟩ : S86)]) := ⟨_, rfl⟩
      replace H : (some (x151000_1, y206, x151002_1, x151003_1, t198, t199)) = some (r1, r2, r3, r4, r5, r6) := yz hy206 H
      have Ny206 := Aside0.mk hy206
      clear hy206
      simp only [Option.some.injEq, Prod.mk.injEq] at H
      obtain ⟨rfl, rfl, rfl, rfl, rfl, rfl⟩ := H
      go_wp2_with (first | ((with_reducible refine gate_callee (f := 40) rfl ?_); refine goesL_ (some 77) rfl rfl Tryd.func40 (by kernel_rfl) rfl #[.pointer (some ⟨g, 0, none⟩), .int .i64 16] rfl lz ?_; (with_reducible refine (spec_l1Below.calls g s0_0 x1001_1 x1002_1 16 t197 t198 t199 w0 _ ?side1 ?side2 A67.out).mono ?_); (case side1 => repeat (first | (with_reducible first | exact HI0.out | apply IsS120.alloc | apply IsS120.drewN | apply IsS120.drew | apply IsS120.set_1 | apply IsS120.set_2 | apply IsS120.far (p := ⟨gb149, _, none⟩) (hne := NB0_149.out) | apply IsS120.far (p := ⟨gb150, _, none⟩) (hne := NB0_150.out)) | exact HI0.out)); (case side2 => repeat (first | (with_reducible first | exact HB.out | apply below_alloc | apply pw_below_drewN | apply below_drew1 | refine below_set ?_ (IsS120.ge HI0.out) | refine below_set ?_ GE149.out | refine below_set ?_ GE150.out) | exact HB.out)); rintro e w87 ⟨rfl, hi, hb, hk⟩; refine ⟨_, rfl, ?_⟩; replace HO_151000 := Aside0.mk (Kd.R_mono (Kd.R_keep (IsS120.apart (show IsS120 w0 _ g s0_0 x1001_1 x1002_1 from by repeat (first | (with_reducible first | exact HI0.out | apply IsS120.alloc | apply IsS120.drewN | apply IsS120.drew | apply IsS120.set_1 | apply IsS120.set_2 | apply IsS120.far (p := ⟨gb149, _, none⟩) (hne := NB0_149.out) | apply IsS120.far (p := ⟨gb150, _, none⟩) (hne := NB0_150.out)) | exact HI0.out)) (rz HO_151000.out) (by decide)) hk (fun _ h => h.2)) (fun _ h => h.1)); replace HO_151001 := Aside0.mk (Kd.R_mono (Kd.R_keep (IsS120.apart (show IsS120 w0 _ g s0_0 x1001_1 x1002_1 from by repeat (first | (with_reducible first | exact HI0.out | apply IsS120.alloc | apply IsS120.drewN | apply IsS120.drew | apply IsS120.set_1 | apply IsS120.set_2 | apply IsS120.far (p := ⟨gb149, _, none⟩) (hne := NB0_149.out) | apply IsS120.far (p := ⟨gb150, _, none⟩) (hne := NB0_150.out)) | exact HI0.out)) (rz HO_151001.out) (by decide)) hk (fun _ h => h.2)) (fun _ h => h.1)); replace HO_151002 := Aside0.mk (Kd.R_mono (Kd.R_keep (IsS120.apart (show IsS120 w0 _ g s0_0 x1001_1 x1002_1 from by repeat (first | (with_reducible first | exact HI0.out | apply IsS120.alloc | apply IsS120.drewN | apply IsS120.drew | apply IsS120.set_1 | apply IsS120.set_2 | apply IsS120.far (p := ⟨gb149, _, none⟩) (hne := NB0_149.out) | apply IsS120.far (p := ⟨gb150, _, none⟩) (hne := NB0_150.out)) | exact HI0.out)) (rz HO_151002.out) (by decide)) hk (fun _ h => h.2)) (fun _ h => h.1)); replace HO_151003 := Aside0.mk (Kd.R_mono (Kd.R_keep (IsS120.apart (show IsS120 w0 _ g s0_0 x1001_1 x1002_1 from by repeat (first | (with_reducible first | exact HI0.out | apply IsS120.alloc | apply IsS120.drewN | apply IsS120.drew | apply IsS120.set_1 | apply IsS120.set_2 | apply IsS120.far (p := ⟨gb149, _, none⟩) (hne := NB0_149.out) | apply IsS120.far (p := ⟨gb150, _, none⟩) (hne := NB0_150.out)) | exact HI0.out)) (rz HO_151003.out) (by decide)) hk (fun _ h => h.2)) (fun _ h => h.1)); replace BK149 := Aside0.mk (KeepBut.blk hk (g' := gb149) (o := .cells #[.slice none 0 0, .slice none 0 0, .slice none 0 0, .slice none 0 0] 29 (0, 0)) (kz BK149.out) NB149_0.out (by simp)); replace BK150 := Aside0.mk (KeepBut.blk hk (g' := gb150) (o := .cells #[u151000, u151001, u151002, u151003] 29 (0, 0)) (kz BK150.out) NB150_0.out (by simp)); replace HK := Aside0.mk (KeepBut.trans (by repeat (first | (with_reducible first | exact HK.out | apply KeepBut.set_ | apply keep_drewN | apply keep_drew | apply keep_alloc | refine keep_far ?_ GW149.out _ | refine keep_far ?_ GW150.out _) | exact HK.out)) hk (.inl rfl)); replace HB := Aside0.mk (hb); replace HI0 := Aside0.mk (hi); (try clear hb); (try clear hk); (try clear hi); have hnb88 := NB150_149.out; have hnc88 := NB149_150.out; have hnb89 := NB150_0.out; have hnc89 := NB0_150.out; obtain ⟨hcz90_0, hcz90_1, hcz90_2, hcz90_3⟩ := cz4 BK150.out; obtain ⟨hfz90_0, hfz90_1, hfz90_2, hfz90_3⟩ := fz4 BK150.out; obtain ⟨Ao91, co91, eo91⟩ := Kd.R_slice HO_151000.out; subst eo91) | ((with_reducible refine gate_builtin (b := .append) (xs := #[.tmp 91, .tmp 96]) rfl ?_); at_builtin; refine Kd.R_append k86 w.heap.size rfl (.tmp 91) (.tmp 96) 25 86 (.agg #[(.int .i64 0), (.int .i64 0)]) 16 rfl Tryd.underlying25 info86 rfl (by decide) (by omega) u151001 x151001_1 (⟨0, (x151000_1.length : Int)⟩ : S86) [.int .i64 0, .int .i64 (x151000_1.length : Int)] (fun _ => True) (fun _ => False) rfl rfl ?aP (fun _ hk => hk.elim) ?aF ?aO (Below.refl _ _) ?aS ?aL ?_; (case aP => exact k86_mkM _ _ _ (⟨0, (x151000_1.length : Int)⟩ : S86)); (case aF => exact (fun _ _ => trivial)); (case aO => exact (rz HO_151001.out)); (case aS => exact (keep_size (w := w) (g := g) (row := none) (by repeat (first | (with_reducible first | exact HK.out | apply KeepBut.set_ | apply keep_drewN | apply keep_drew | apply keep_alloc | refine keep_far ?_ GW149.out _ | refine keep_far ?_ GW150.out _) | exact HK.out)))); (case aL => have := LMc86.out; omega); intro v207 w92 ho hb hg hat; rw [<- Ny206.out] at ho; have n0_ := Aside0.mk (Kd.R_over' (rz HO_151000.out) (Kd.R_typed (rz HO_151001.out)) (by decide) hg); have n1_ := Aside0.mk (Kd.R_over' (rz HO_151002.out) (Kd.R_typed (rz HO_151001.out)) (by decide) hg); have n2_ := Aside0.mk (Kd.R_over' (rz HO_151003.out) (Kd.R_typed (rz HO_151001.out)) (by decide) hg); have n3_ := Aside0.mk (blk_grown (g := gb149) (o := .cells #[.slice none 0 0, .slice none 0 0, .slice none 0 0, .slice none 0 0] 29 (0, 0)) (kz BK149.out) hg (Kd.R_ne HO_151001.out BK149.out (by decide))); have n4_ := Aside0.mk (blk_grown (g := gb150) (o := .cells #[.slice Ao91 x151000_1.length co91, u151001, u151002, u151003] 29 (0, 0)) (kz BK150.out) hg (Kd.R_ne HO_151001.out BK150.out (by decide))); have n5_ := Aside0.mk (IsS120.grown (by repeat (first | (with_reducible first | exact HI0.out | apply IsS120.alloc | apply IsS120.drewN | apply IsS120.drew | apply IsS120.set_1 | apply IsS120.set_2 | apply IsS120.far (p := ⟨gb149, _, none⟩) (hne := NB0_149.out) | apply IsS120.far (p := ⟨gb150, _, none⟩) (hne := NB0_150.out)) | exact HI0.out)) hg (IsS120.own_ne HI0.out HO_151001.out (by decide))); have n6_ := Aside0.mk (below_weaken (by repeat (first | (with_reducible first | exact HB.out | apply below_alloc | apply pw_below_drewN | apply below_drew1 | refine below_set ?_ (IsS120.ge HI0.out) | refine below_set ?_ GE149.out | refine below_set ?_ GE150.out) | exact HB.out)) HL.out hb); have n7_ := Aside0.mk (KeepBut.trans (by repeat (first | (with_reducible first | exact HK.out | apply KeepBut.set_ | apply keep_drewN | apply keep_drew | apply keep_alloc | refine keep_far ?_ GW149.out _ | refine keep_far ?_ GW150.out _) | exact HK.out)) (KeepBut.of_grown hg g) (Kd.R_base2 HO_151001.out)); have n8_ := Aside0.mk (ho); clear HO_151000; clear HO_151002; clear HO_151003; clear BK149; clear BK150; clear HI0; clear HB; clear HK; clear HO_151001; have HO_151000 := n0_; have HO_151002 := n1_; have HO_151003 := n2_; have BK149 := n3_; have BK150 := n4_; have HI0 := n5_; have HB := n6_; have HK := n7_; have HO208 := n8_; clear n0_ n1_ n2_ n3_ n4_ n5_ n6_ n7_ n8_; clear ho hb hg hat; obtain ⟨Ao93, co93, eo93⟩ := Kd.R_slice HO208.out; subst eo93; obtain ⟨hcz94_0, hcz94_1, hcz94_2, hcz94_3⟩ := cz4 BK150.out; obtain ⟨hfz94_0, hfz94_1, hfz94_2, hfz94_3⟩ := fz4 BK150.out; have hnb95 := NB149_0.out; have hnc95 := NB0_149.out; obtain ⟨hcz96_0, hcz96_1, hcz96_2, hcz96_3⟩ := cz4 BK149.out; obtain ⟨hfz96_0, hfz96_1, hfz96_2, hfz96_3⟩ := fz4 BK149.out; obtain ⟨Ao97, co97, eo97⟩ := Kd.R_slice HO_151002.out; subst eo97; obtain ⟨Ao98, co98, eo98⟩ := Kd.R_slice HO_151003.out; subst eo98))
      refine bodyPost_ret (results_cell_row rfl _ _ gb149 29 #[.slice Ao91 x151000_1.length co91, .slice Ao93 y206.length co93, .slice Ao97 x151002_1.length co97, .slice Ao98 x151003_1.length co98] (0, 0) _ rfl (by refine kq ?_; refine blk_put (cs := #[.slice Ao91 x151000_1.length co91, .slice Ao93 y206.length co93, .slice Ao97 x151002_1.length co97, .slice none 0 0]) ?_ 3 _ rfl; refine kq ?_; refine blk_put (cs := #[.slice Ao91 x151000_1.length co91, .slice Ao93 y206.length co93, .slice none 0 0, .slice none 0 0]) ?_ 2 _ rfl; refine kq ?_; refine blk_put (cs := #[.slice Ao91 x151000_1.length co91, .slice none 0 0, .slice none 0 0, .slice none 0 0]) ?_ 1 _ rfl; refine kq ?_; refine blk_put (cs := #[.slice none 0 0, .slice none 0 0, .slice none 0 0, .slice none 0 0]) ?_ 0 _ rfl; refine kq ?_; refine blk_far ?_ NB149_150.out _; refine kq ?_; exact BK149.out) Tryd.underlying29 rfl (by kernel_rfl)) rfl ?_
      exact ⟨_, _, _, _, gz, by refine rq ?_; first | (with_reducible exact Kd.R_mono (Kd.R_far (p := ⟨gb149, 3, none⟩) (Kd.R_far (p := ⟨gb149, 2, none⟩) (Kd.R_far (p := ⟨gb149, 1, none⟩) (Kd.R_far (p := ⟨gb149, 0, none⟩) (Kd.R_far (p := ⟨gb150, 1, none⟩) (Kd.R_types (Kd.R_types HO_151000.out BK150.out (by decide)) BK149.out (by decide)) (fun _ hk => hk.1.2) (.slice Ao93 y206.length co93)) (fun _ hk => hk.2) (.slice Ao91 x151000_1.length co91)) (fun _ hk => hk.2) (.slice Ao93 y206.length co93)) (fun _ hk => hk.2) (.slice Ao97 x151002_1.length co97)) (fun _ hk => hk.2) (.slice Ao98 x151003_1.length co98)) (fun _ hk => trivial)) | (with_reducible exact Kd.R_mono (Kd.R_far (p := ⟨gb149, 3, none⟩) (Kd.R_drewN (Kd.R_far (p := ⟨gb149, 2, none⟩) (Kd.R_far (p := ⟨gb149, 1, none⟩) (Kd.R_far (p := ⟨gb149, 0, none⟩) (Kd.R_far (p := ⟨gb150, 1, none⟩) (Kd.R_types (Kd.R_types HO_151000.out BK150.out (by decide)) BK149.out (by decide)) (fun _ hk => hk.1.2) (.slice Ao93 y206.length co93)) (fun _ hk => hk.2) (.slice Ao91 x151000_1.length co91)) (fun _ hk => hk.2) (.slice Ao93 y206.length co93)) (fun _ hk => hk.2) (.slice Ao97 x151002_1.length co97)) _) (fun _ hk => hk.2) (.slice Ao98 x151003_1.length co98)) (fun _ hk => trivial)) | exact Kd.R_mono (Kd.R_far (p := ⟨gb149, 3, none⟩) (Kd.R_drewN (Kd.R_far (p := ⟨gb149, 2, none⟩) (Kd.R_far (p := ⟨gb149, 1, none⟩) (Kd.R_far (p := ⟨gb149, 0, none⟩) (Kd.R_far (p := ⟨gb150, 1, none⟩) (Kd.R_types (Kd.R_types HO_151000.out BK150.out (by decide)) BK149.out (by decide)) (fun _ hk => hk.1.2) (.slice Ao93 y206.length co93)) (fun _ hk => hk.2) (.slice Ao91 x151000_1.length co91)) (fun _ hk => hk.2) (.slice Ao93 y206.length co93)) (fun _ hk => hk.2) (.slice Ao97 x151002_1.length co97)) _) (fun _ hk => hk.2) (.slice Ao98 x151003_1.length co98)) (fun _ hk => trivial), by refine rq ?_; first | (with_reducible exact Kd.R_mono (Kd.R_far (p := ⟨gb149, 3, none⟩) (Kd.R_far (p := ⟨gb149, 2, none⟩) (Kd.R_far (p := ⟨gb149, 1, none⟩) (Kd.R_far (p := ⟨gb149, 0, none⟩) (Kd.R_far (p := ⟨gb150, 1, none⟩) (Kd.R_types (Kd.R_types HO208.out BK150.out (by decide)) BK149.out (by decide)) (fun _ hk => hk.1.2) (.slice Ao93 y206.length co93)) (fun _ hk => hk.2) (.slice Ao91 x151000_1.length co91)) (fun _ hk => hk.2) (.slice Ao93 y206.length co93)) (fun _ hk => hk.2) (.slice Ao97 x151002_1.length co97)) (fun _ hk => hk.2) (.slice Ao98 x151003_1.length co98)) (fun _ hk => trivial)) | (with_reducible exact Kd.R_mono (Kd.R_far (p := ⟨gb149, 3, none⟩) (Kd.R_drewN (Kd.R_far (p := ⟨gb149, 2, none⟩) (Kd.R_far (p := ⟨gb149, 1, none⟩) (Kd.R_far (p := ⟨gb149, 0, none⟩) (Kd.R_far (p := ⟨gb150, 1, none⟩) (Kd.R_types (Kd.R_types HO208.out BK150.out (by decide)) BK149.out (by decide)) (fun _ hk => hk.1.2) (.slice Ao93 y206.length co93)) (fun _ hk => hk.2) (.slice Ao91 x151000_1.length co91)) (fun _ hk => hk.2) (.slice Ao93 y206.length co93)) (fun _ hk => hk.2) (.slice Ao97 x151002_1.length co97)) _) (fun _ hk => hk.2) (.slice Ao98 x151003_1.length co98)) (fun _ hk => trivial)) | exact Kd.R_mono (Kd.R_far (p := ⟨gb149, 3, none⟩) (Kd.R_drewN (Kd.R_far (p := ⟨gb149, 2, none⟩) (Kd.R_far (p := ⟨gb149, 1, none⟩) (Kd.R_far (p := ⟨gb149, 0, none⟩) (Kd.R_far (p := ⟨gb150, 1, none⟩) (Kd.R_types (Kd.R_types HO208.out BK150.out (by decide)) BK149.out (by decide)) (fun _ hk => hk.1.2) (.slice Ao93 y206.length co93)) (fun _ hk => hk.2) (.slice Ao91 x151000_1.length co91)) (fun _ hk => hk.2) (.slice Ao93 y206.length co93)) (fun _ hk => hk.2) (.slice Ao97 x151002_1.length co97)) _) (fun _ hk => hk.2) (.slice Ao98 x151003_1.length co98)) (fun _ hk => trivial), by refine rq ?_; first | (with_reducible exact Kd.R_mono (Kd.R_far (p := ⟨gb149, 3, none⟩) (Kd.R_far (p := ⟨gb149, 2, none⟩) (Kd.R_far (p := ⟨gb149, 1, none⟩) (Kd.R_far (p := ⟨gb149, 0, none⟩) (Kd.R_far (p := ⟨gb150, 1, none⟩) (Kd.R_types (Kd.R_types HO_151002.out BK150.out (by decide)) BK149.out (by decide)) (fun _ hk => hk.1.2) (.slice Ao93 y206.length co93)) (fun _ hk => hk.2) (.slice Ao91 x151000_1.length co91)) (fun _ hk => hk.2) (.slice Ao93 y206.length co93)) (fun _ hk => hk.2) (.slice Ao97 x151002_1.length co97)) (fun _ hk => hk.2) (.slice Ao98 x151003_1.length co98)) (fun _ hk => trivial)) | (with_reducible exact Kd.R_mono (Kd.R_far (p := ⟨gb149, 3, none⟩) (Kd.R_drewN (Kd.R_far (p := ⟨gb149, 2, none⟩) (Kd.R_far (p := ⟨gb149, 1, none⟩) (Kd.R_far (p := ⟨gb149, 0, none⟩) (Kd.R_far (p := ⟨gb150, 1, none⟩) (Kd.R_types (Kd.R_types HO_151002.out BK150.out (by decide)) BK149.out (by decide)) (fun _ hk => hk.1.2) (.slice Ao93 y206.length co93)) (fun _ hk => hk.2) (.slice Ao91 x151000_1.length co91)) (fun _ hk => hk.2) (.slice Ao93 y206.length co93)) (fun _ hk => hk.2) (.slice Ao97 x151002_1.length co97)) _) (fun _ hk => hk.2) (.slice Ao98 x151003_1.length co98)) (fun _ hk => trivial)) | exact Kd.R_mono (Kd.R_far (p := ⟨gb149, 3, none⟩) (Kd.R_drewN (Kd.R_far (p := ⟨gb149, 2, none⟩) (Kd.R_far (p := ⟨gb149, 1, none⟩) (Kd.R_far (p := ⟨gb149, 0, none⟩) (Kd.R_far (p := ⟨gb150, 1, none⟩) (Kd.R_types (Kd.R_types HO_151002.out BK150.out (by decide)) BK149.out (by decide)) (fun _ hk => hk.1.2) (.slice Ao93 y206.length co93)) (fun _ hk => hk.2) (.slice Ao91 x151000_1.length co91)) (fun _ hk => hk.2) (.slice Ao93 y206.length co93)) (fun _ hk => hk.2) (.slice Ao97 x151002_1.length co97)) _) (fun _ hk => hk.2) (.slice Ao98 x151003_1.length co98)) (fun _ hk => trivial), by refine rq ?_; first | (with_reducible exact Kd.R_mono (Kd.R_far (p := ⟨gb149, 3, none⟩) (Kd.R_far (p := ⟨gb149, 2, none⟩) (Kd.R_far (p := ⟨gb149, 1, none⟩) (Kd.R_far (p := ⟨gb149, 0, none⟩) (Kd.R_far (p := ⟨gb150, 1, none⟩) (Kd.R_types (Kd.R_types HO_151003.out BK150.out (by decide)) BK149.out (by decide)) (fun _ hk => hk.1.2) (.slice Ao93 y206.length co93)) (fun _ hk => hk.2) (.slice Ao91 x151000_1.length co91)) (fun _ hk => hk.2) (.slice Ao93 y206.length co93)) (fun _ hk => hk.2) (.slice Ao97 x151002_1.length co97)) (fun _ hk => hk.2) (.slice Ao98 x151003_1.length co98)) (fun _ hk => trivial)) | (with_reducible exact Kd.R_mono (Kd.R_far (p := ⟨gb149, 3, none⟩) (Kd.R_drewN (Kd.R_far (p := ⟨gb149, 2, none⟩) (Kd.R_far (p := ⟨gb149, 1, none⟩) (Kd.R_far (p := ⟨gb149, 0, none⟩) (Kd.R_far (p := ⟨gb150, 1, none⟩) (Kd.R_types (Kd.R_types HO_151003.out BK150.out (by decide)) BK149.out (by decide)) (fun _ hk => hk.1.2) (.slice Ao93 y206.length co93)) (fun _ hk => hk.2) (.slice Ao91 x151000_1.length co91)) (fun _ hk => hk.2) (.slice Ao93 y206.length co93)) (fun _ hk => hk.2) (.slice Ao97 x151002_1.length co97)) _) (fun _ hk => hk.2) (.slice Ao98 x151003_1.length co98)) (fun _ hk => trivial)) | exact Kd.R_mono (Kd.R_far (p := ⟨gb149, 3, none⟩) (Kd.R_drewN (Kd.R_far (p := ⟨gb149, 2, none⟩) (Kd.R_far (p := ⟨gb149, 1, none⟩) (Kd.R_far (p := ⟨gb149, 0, none⟩) (Kd.R_far (p := ⟨gb150, 1, none⟩) (Kd.R_types (Kd.R_types HO_151003.out BK150.out (by decide)) BK149.out (by decide)) (fun _ hk => hk.1.2) (.slice Ao93 y206.length co93)) (fun _ hk => hk.2) (.slice Ao91 x151000_1.length co91)) (fun _ hk => hk.2) (.slice Ao93 y206.length co93)) (fun _ hk => hk.2) (.slice Ao97 x151002_1.length co97)) _) (fun _ hk => hk.2) (.slice Ao98 x151003_1.length co98)) (fun _ hk => trivial), by repeat (first | (with_reducible first | exact HI0.out | apply IsS120.alloc | apply IsS120.drewN | apply IsS120.drew | apply IsS120.set_1 | apply IsS120.set_2 | apply IsS120.far (p := ⟨gb149, _, none⟩) (hne := NB0_149.out) | apply IsS120.far (p := ⟨gb150, _, none⟩) (hne := NB0_150.out)) | exact HI0.out), by repeat (first | (with_reducible first | exact HB.out | apply below_alloc | apply pw_below_drewN | apply below_drew1 | refine below_set ?_ (IsS120.ge HI0.out) | refine below_set ?_ GE149.out | refine below_set ?_ GE150.out) | exact HB.out), by repeat (first | (with_reducible first | exact HK.out | apply KeepBut.set_ | apply keep_drewN | apply keep_drew | apply keep_alloc | refine keep_far ?_ GW149.out _ | refine keep_far ?_ GW150.out _) | exact HK.out)⟩
     ·rw [if_neg c85] at H
      have c85b0 : (t197 == 1) = false := beq_eq_false_iff_ne.mpr c85
      have c85b1 : (t197 != 1) = true := bne_iff_ne.mpr c85
      by_cases c99 : t197 = 2
      ·rw [if_pos c99] at H
       have c99b0 : (t197 == 2) = true := beq_iff_eq.mpr c99
       have c99b1 : (t197 != 2) = false := bne_eq_false_iff_eq.mpr c99
       clear c99
       replace H := iz H
       obtain ⟨c100, H⟩ := H
       have LMc100 := Aside0.mk c100
       clear c100
       obtain ⟨y209, hy209⟩ : ∃ y_ : List (S47), y_ = (x151002_1 ++ [(⟨(⟨4, (x151002_1.length : Int)⟩ : S35), (⟨0, 0⟩ : S35)⟩ : S47)]) := ⟨_, rfl⟩
       replace H : (some (x151000_1, x151001_1, y209, x151003_1, t198, t199)) = some (r1, r2, r3, r4, r5, r6) := yz hy209 H
       have Ny209 := Aside0.mk hy209
       clear hy209
       simp only [Option.some.injEq, Prod.mk.injEq] at H
       obtain ⟨rfl, rfl, rfl, rfl, rfl, rfl⟩ := H
       go_wp2_with (first | ((with_reducible refine gate_callee (f := 40) rfl ?_); refine goesL_ (some 77) rfl rfl Tryd.func40 (by kernel_rfl) rfl #[.pointer (some ⟨g, 0, none⟩), .int .i64 16] rfl lz ?_; (with_reducible refine (spec_l1Below.calls g s0_0 x1001_1 x1002_1 16 t197 t198 t199 w0 _ ?side1 ?side2 A67.out).mono ?_); (case side1 => repeat (first | (with_reducible first | exact HI0.out | apply IsS120.alloc | apply IsS120.drewN | apply IsS120.drew | apply IsS120.set_1 | apply IsS120.set_2 | apply IsS120.far (p := ⟨gb149, _, none⟩) (hne := NB0_149.out) | apply IsS120.far (p := ⟨gb150, _, none⟩) (hne := NB0_150.out)) | exact HI0.out)); (case side2 => repeat (first | (with_reducible first | exact HB.out | apply below_alloc | apply pw_below_drewN | apply below_drew1 | refine below_set ?_ (IsS120.ge HI0.out) | refine below_set ?_ GE149.out | refine below_set ?_ GE150.out) | exact HB.out)); rintro e w101 ⟨rfl, hi, hb, hk⟩; refine ⟨_, rfl, ?_⟩; replace HO_151000 := Aside0.mk (Kd.R_mono (Kd.R_keep (IsS120.apart (show IsS120 w0 _ g s0_0 x1001_1 x1002_1 from by repeat (first | (with_reducible first | exact HI0.out | apply IsS120.alloc | apply IsS120.drewN | apply IsS120.drew | apply IsS120.set_1 | apply IsS120.set_2 | apply IsS120.far (p := ⟨gb149, _, none⟩) (hne := NB0_149.out) | apply IsS120.far (p := ⟨gb150, _, none⟩) (hne := NB0_150.out)) | exact HI0.out)) (rz HO_151000.out) (by decide)) hk (fun _ h => h.2)) (fun _ h => h.1)); replace HO_151001 := Aside0.mk (Kd.R_mono (Kd.R_keep (IsS120.apart (show IsS120 w0 _ g s0_0 x1001_1 x1002_1 from by repeat (first | (with_reducible first | exact HI0.out | apply IsS120.alloc | apply IsS120.drewN | apply IsS120.drew | apply IsS120.set_1 | apply IsS120.set_2 | apply IsS120.far (p := ⟨gb149, _, none⟩) (hne := NB0_149.out) | apply IsS120.far (p := ⟨gb150, _, none⟩) (hne := NB0_150.out)) | exact HI0.out)) (rz HO_151001.out) (by decide)) hk (fun _ h => h.2)) (fun _ h => h.1)); replace HO_151002 := Aside0.mk (Kd.R_mono (Kd.R_keep (IsS120.apart (show IsS120 w0 _ g s0_0 x1001_1 x1002_1 from by repeat (first | (with_reducible first | exact HI0.out | apply IsS120.alloc | apply IsS120.drewN | apply IsS120.drew | apply IsS120.set_1 | apply IsS120.set_2 | apply IsS120.far (p := ⟨gb149, _, none⟩) (hne := NB0_149.out) | apply IsS120.far (p := ⟨gb150, _, none⟩) (hne := NB0_150.out)) | exact HI0.out)) (rz HO_151002.out) (by decide)) hk (fun _ h => h.2)) (fun _ h => h.1)); replace HO_151003 := Aside0.mk (Kd.R_mono (Kd.R_keep (IsS120.apart (show IsS120 w0 _ g s0_0 x1001_1 x1002_1 from by repeat (first | (with_reducible first | exact HI0.out | apply IsS120.alloc | apply IsS120.drewN | apply IsS120.drew | apply IsS120.set_1 | apply IsS120.set_2 | apply IsS120.far (p := ⟨gb149, _, none⟩) (hne := NB0_149.out) | apply IsS120.far (p := ⟨gb150, _, none⟩) (hne := NB0_150.out)) | exact HI0.out)) (rz HO_151003.out) (by decide)) hk (fun _ h => h.2)) (fun _ h => h.1)); replace BK149 := Aside0.mk (KeepBut.blk hk (g' := gb149) (o := .cells #[.slice none 0 0, .slice none 0 0, .slice none 0 0, .slice none 0 0] 29 (0, 0)) (kz BK149.out) NB149_0.out (by simp)); replace BK150 := Aside0.mk (KeepBut.blk hk (g' := gb150) (o := .cells #[u151000, u151001, u151002, u151003] 29 (0, 0)) (kz BK150.out) NB150_0.out (by simp)); replace HK := Aside0.mk (KeepBut.trans (by repeat (first | (with_reducible first | exact HK.out | apply KeepBut.set_ | apply keep_drewN | apply keep_drew | apply keep_alloc | refine keep_far ?_ GW149.out _ | refine keep_far ?_ GW150.out _) | exact HK.out)) hk (.inl rfl)); replace HB := Aside0.mk (hb); replace HI0 := Aside0.mk (hi); (try clear hb); (try clear hk); (try clear hi); have hnb102 := NB150_149.out; have hnc102 := NB149_150.out; have hnb103 := NB150_0.out; have hnc103 := NB0_150.out; obtain ⟨hcz104_0, hcz104_1, hcz104_2, hcz104_3⟩ := cz4 BK150.out; obtain ⟨hfz104_0, hfz104_1, hfz104_2, hfz104_3⟩ := fz4 BK150.out; obtain ⟨Ao105, co105, eo105⟩ := Kd.R_slice HO_151002.out; subst eo105) | ((with_reducible refine gate_builtin (b := .append) (xs := #[.tmp 102, .tmp 109]) rfl ?_); at_builtin; refine Kd.R_append k47 w.heap.size rfl (.tmp 102) (.tmp 109) 26 47 (.agg #[(.int .i64 0), (.int .i64 0), (.int .i64 0), (.int .i64 0)]) 32 rfl Tryd.underlying26 info47 rfl (by decide) (by omega) (.slice Ao105 x151002_1.length co105) x151002_1 (⟨(⟨4, (x151002_1.length : Int)⟩ : S35), (⟨0, 0⟩ : S35)⟩ : S47) [.int .i64 4, .int .i64 (x151002_1.length : Int), .int .i64 0, .int .i64 0] (fun _ => True) (fun _ => False) rfl rfl ?aP (fun _ hk => hk.elim) ?aF ?aO (Below.refl _ _) ?aS ?aL ?_; (case aP => exact k47_mkM _ _ _ (⟨(⟨4, (x151002_1.length : Int)⟩ : S35), (⟨0, 0⟩ : S35)⟩ : S47)); (case aF => exact (fun _ _ => trivial)); (case aO => exact (rz HO_151002.out)); (case aS => exact (keep_size (w := w) (g := g) (row := none) (by repeat (first | (with_reducible first | exact HK.out | apply KeepBut.set_ | apply keep_drewN | apply keep_drew | apply keep_alloc | refine keep_far ?_ GW149.out _ | refine keep_far ?_ GW150.out _) | exact HK.out)))); (case aL => have := LMc100.out; omega); intro v210 w106 ho hb hg hat; rw [<- Ny209.out] at ho; have n0_ := Aside0.mk (Kd.R_over' (rz HO_151000.out) (Kd.R_typed (rz HO_151002.out)) (by decide) hg); have n1_ := Aside0.mk (Kd.R_over' (rz HO_151001.out) (Kd.R_typed (rz HO_151002.out)) (by decide) hg); have n2_ := Aside0.mk (Kd.R_over' (rz HO_151003.out) (Kd.R_typed (rz HO_151002.out)) (by decide) hg); have n3_ := Aside0.mk (blk_grown (g := gb149) (o := .cells #[.slice none 0 0, .slice none 0 0, .slice none 0 0, .slice none 0 0] 29 (0, 0)) (kz BK149.out) hg (Kd.R_ne HO_151002.out BK149.out (by decide))); have n4_ := Aside0.mk (blk_grown (g := gb150) (o := .cells #[u151000, u151001, .slice Ao105 x151002_1.length co105, u151003] 29 (0, 0)) (kz BK150.out) hg (Kd.R_ne HO_151002.out BK150.out (by decide))); have n5_ := Aside0.mk (IsS120.grown (by repeat (first | (with_reducible first | exact HI0.out | apply IsS120.alloc | apply IsS120.drewN | apply IsS120.drew | apply IsS120.set_1 | apply IsS120.set_2 | apply IsS120.far (p := ⟨gb149, _, none⟩) (hne := NB0_149.out) | apply IsS120.far (p := ⟨gb150, _, none⟩) (hne := NB0_150.out)) | exact HI0.out)) hg (IsS120.own_ne HI0.out HO_151002.out (by decide))); have n6_ := Aside0.mk (below_weaken (by repeat (first | (with_reducible first | exact HB.out | apply below_alloc | apply pw_below_drewN | apply below_drew1 | refine below_set ?_ (IsS120.ge HI0.out) | refine below_set ?_ GE149.out | refine below_set ?_ GE150.out) | exact HB.out)) HL.out hb); have n7_ := Aside0.mk (KeepBut.trans (by repeat (first | (with_reducible first | exact HK.out | apply KeepBut.set_ | apply keep_drewN | apply keep_drew | apply keep_alloc | refine keep_far ?_ GW149.out _ | refine keep_far ?_ GW150.out _) | exact HK.out)) (KeepBut.of_grown hg g) (Kd.R_base2 HO_151002.out)); have n8_ := Aside0.mk (ho); clear HO_151000; clear HO_151001; clear HO_151003; clear BK149; clear BK150; clear HI0; clear HB; clear HK; clear HO_151002; have HO_151000 := n0_; have HO_151001 := n1_; have HO_151003 := n2_; have BK149 := n3_; have BK150 := n4_; have HI0 := n5_; have HB := n6_; have HK := n7_; have HO211 := n8_; clear n0_ n1_ n2_ n3_ n4_ n5_ n6_ n7_ n8_; clear ho hb hg hat; obtain ⟨Ao107, co107, eo107⟩ := Kd.R_slice HO211.out; subst eo107; obtain ⟨hcz108_0, hcz108_1, hcz108_2, hcz108_3⟩ := cz4 BK150.out; obtain ⟨hfz108_0, hfz108_1, hfz108_2, hfz108_3⟩ := fz4 BK150.out; obtain ⟨Ao109, co109, eo109⟩ := Kd.R_slice HO_151000.out; subst eo109; have hnb110 := NB149_0.out; have hnc110 := NB0_149.out; obtain ⟨hcz111_0, hcz111_1, hcz111_2, hcz111_3⟩ := cz4 BK149.out; obtain ⟨hfz111_0, hfz111_1, hfz111_2, hfz111_3⟩ := fz4 BK149.out; obtain ⟨Ao112, co112, eo112⟩ := Kd.R_slice HO_151001.out; subst eo112; obtain ⟨Ao113, co113, eo113⟩ := Kd.R_slice HO_151003.out; subst eo113))
       refine bodyPost_ret (results_cell_row rfl _ _ gb149 29 #[.slice Ao109 x151000_1.length co109, .slice Ao112 x151001_1.length co112, .slice Ao107 y209.length co107, .slice Ao113 x151003_1.length co113] (0, 0) _ rfl (by refine kq ?_; refine blk_put (cs := #[.slice Ao109 x151000_1.length co109, .slice Ao112 x151001_1.length co112, .slice Ao107 y209.length co107, .slice none 0 0]) ?_ 3 _ rfl; refine kq ?_; refine blk_put (cs := #[.slice Ao109 x151000_1.length co109, .slice Ao112 x151001_1.length co112, .slice none 0 0, .slice none 0 0]) ?_ 2 _ rfl; refine kq ?_; refine blk_put (cs := #[.slice Ao109 x151000_1.length co109, .slice none 0 0, .slice none 0 0, .slice none 0 0]) ?_ 1 _ rfl; refine kq ?_; refine blk_put (cs := #[.slice none 0 0, .slice none 0 0, .slice none 0 0, .slice none 0 0]) ?_ 0 _ rfl; refine kq ?_; refine blk_far ?_ NB149_150.out _; refine kq ?_; exact BK149.out) Tryd.underlying29 rfl (by kernel_rfl)) rfl ?_
       exact ⟨_, _, _, _, gz, by refine rq ?_; first | (with_reducible exact Kd.R_mono (Kd.R_far (p := ⟨gb149, 3, none⟩) (Kd.R_far (p := ⟨gb149, 2, none⟩) (Kd.R_far (p := ⟨gb149, 1, none⟩) (Kd.R_far (p := ⟨gb149, 0, none⟩) (Kd.R_far (p := ⟨gb150, 2, none⟩) (Kd.R_types (Kd.R_types HO_151000.out BK150.out (by decide)) BK149.out (by decide)) (fun _ hk => hk.1.2) (.slice Ao107 y209.length co107)) (fun _ hk => hk.2) (.slice Ao109 x151000_1.length co109)) (fun _ hk => hk.2) (.slice Ao112 x151001_1.length co112)) (fun _ hk => hk.2) (.slice Ao107 y209.length co107)) (fun _ hk => hk.2) (.slice Ao113 x151003_1.length co113)) (fun _ hk => trivial)) | (with_reducible exact Kd.R_mono (Kd.R_far (p := ⟨gb149, 3, none⟩) (Kd.R_drewN (Kd.R_far (p := ⟨gb149, 2, none⟩) (Kd.R_far (p := ⟨gb149, 1, none⟩) (Kd.R_far (p := ⟨gb149, 0, none⟩) (Kd.R_far (p := ⟨gb150, 2, none⟩) (Kd.R_types (Kd.R_types HO_151000.out BK150.out (by decide)) BK149.out (by decide)) (fun _ hk => hk.1.2) (.slice Ao107 y209.length co107)) (fun _ hk => hk.2) (.slice Ao109 x151000_1.length co109)) (fun _ hk => hk.2) (.slice Ao112 x151001_1.length co112)) (fun _ hk => hk.2) (.slice Ao107 y209.length co107)) _) (fun _ hk => hk.2) (.slice Ao113 x151003_1.length co113)) (fun _ hk => trivial)) | exact Kd.R_mono (Kd.R_far (p := ⟨gb149, 3, none⟩) (Kd.R_drewN (Kd.R_far (p := ⟨gb149, 2, none⟩) (Kd.R_far (p := ⟨gb149, 1, none⟩) (Kd.R_far (p := ⟨gb149, 0, none⟩) (Kd.R_far (p := ⟨gb150, 2, none⟩) (Kd.R_types (Kd.R_types HO_151000.out BK150.out (by decide)) BK149.out (by decide)) (fun _ hk => hk.1.2) (.slice Ao107 y209.length co107)) (fun _ hk => hk.2) (.slice Ao109 x151000_1.length co109)) (fun _ hk => hk.2) (.slice Ao112 x151001_1.length co112)) (fun _ hk => hk.2) (.slice Ao107 y209.length co107)) _) (fun _ hk => hk.2) (.slice Ao113 x151003_1.length co113)) (fun _ hk => trivial), by refine rq ?_; first | (with_reducible exact Kd.R_mono (Kd.R_far (p := ⟨gb149, 3, none⟩) (Kd.R_far (p := ⟨gb149, 2, none⟩) (Kd.R_far (p := ⟨gb149, 1, none⟩) (Kd.R_far (p := ⟨gb149, 0, none⟩) (Kd.R_far (p := ⟨gb150, 2, none⟩) (Kd.R_types (Kd.R_types HO_151001.out BK150.out (by decide)) BK149.out (by decide)) (fun _ hk => hk.1.2) (.slice Ao107 y209.length co107)) (fun _ hk => hk.2) (.slice Ao109 x151000_1.length co109)) (fun _ hk => hk.2) (.slice Ao112 x151001_1.length co112)) (fun _ hk => hk.2) (.slice Ao107 y209.length co107)) (fun _ hk => hk.2) (.slice Ao113 x151003_1.length co113)) (fun _ hk => trivial)) | (with_reducible exact Kd.R_mono (Kd.R_far (p := ⟨gb149, 3, none⟩) (Kd.R_drewN (Kd.R_far (p := ⟨gb149, 2, none⟩) (Kd.R_far (p := ⟨gb149, 1, none⟩) (Kd.R_far (p := ⟨gb149, 0, none⟩) (Kd.R_far (p := ⟨gb150, 2, none⟩) (Kd.R_types (Kd.R_types HO_151001.out BK150.out (by decide)) BK149.out (by decide)) (fun _ hk => hk.1.2) (.slice Ao107 y209.length co107)) (fun _ hk => hk.2) (.slice Ao109 x151000_1.length co109)) (fun _ hk => hk.2) (.slice Ao112 x151001_1.length co112)) (fun _ hk => hk.2) (.slice Ao107 y209.length co107)) _) (fun _ hk => hk.2) (.slice Ao113 x151003_1.length co113)) (fun _ hk => trivial)) | exact Kd.R_mono (Kd.R_far (p := ⟨gb149, 3, none⟩) (Kd.R_drewN (Kd.R_far (p := ⟨gb149, 2, none⟩) (Kd.R_far (p := ⟨gb149, 1, none⟩) (Kd.R_far (p := ⟨gb149, 0, none⟩) (Kd.R_far (p := ⟨gb150, 2, none⟩) (Kd.R_types (Kd.R_types HO_151001.out BK150.out (by decide)) BK149.out (by decide)) (fun _ hk => hk.1.2) (.slice Ao107 y209.length co107)) (fun _ hk => hk.2) (.slice Ao109 x151000_1.length co109)) (fun _ hk => hk.2) (.slice Ao112 x151001_1.length co112)) (fun _ hk => hk.2) (.slice Ao107 y209.length co107)) _) (fun _ hk => hk.2) (.slice Ao113 x151003_1.length co113)) (fun _ hk => trivial), by refine rq ?_; first | (with_reducible exact Kd.R_mono (Kd.R_far (p := ⟨gb149, 3, none⟩) (Kd.R_far (p := ⟨gb149, 2, none⟩) (Kd.R_far (p := ⟨gb149, 1, none⟩) (Kd.R_far (p := ⟨gb149, 0, none⟩) (Kd.R_far (p := ⟨gb150, 2, none⟩) (Kd.R_types (Kd.R_types HO211.out BK150.out (by decide)) BK149.out (by decide)) (fun _ hk => hk.1.2) (.slice Ao107 y209.length co107)) (fun _ hk => hk.2) (.slice Ao109 x151000_1.length co109)) (fun _ hk => hk.2) (.slice Ao112 x151001_1.length co112)) (fun _ hk => hk.2) (.slice Ao107 y209.length co107)) (fun _ hk => hk.2) (.slice Ao113 x151003_1.length co113)) (fun _ hk => trivial)) | (with_reducible exact Kd.R_mono (Kd.R_far (p := ⟨gb149, 3, none⟩) (Kd.R_drewN (Kd.R_far (p := ⟨gb149, 2, none⟩) (Kd.R_far (p := ⟨gb149, 1, none⟩) (Kd.R_far (p := ⟨gb149, 0, none⟩) (Kd.R_far (p := ⟨gb150, 2, none⟩) (Kd.R_types (Kd.R_types HO211.out BK150.out (by decide)) BK149.out (by decide)) (fun _ hk => hk.1.2) (.slice Ao107 y209.length co107)) (fun _ hk => hk.2) (.slice Ao109 x151000_1.length co109)) (fun _ hk => hk.2) (.slice Ao112 x151001_1.length co112)) (fun _ hk => hk.2) (.slice Ao107 y209.length co107)) _) (fun _ hk => hk.2) (.slice Ao113 x151003_1.length co113)) (fun _ hk => trivial)) | exact Kd.R_mono (Kd.R_far (p := ⟨gb149, 3, none⟩) (Kd.R_drewN (Kd.R_far (p := ⟨gb149, 2, none⟩) (Kd.R_far (p := ⟨gb149, 1, none⟩) (Kd.R_far (p := ⟨gb149, 0, none⟩) (Kd.R_far (p := ⟨gb150, 2, none⟩) (Kd.R_types (Kd.R_types HO211.out BK150.out (by decide)) BK149.out (by decide)) (fun _ hk => hk.1.2) (.slice Ao107 y209.length co107)) (fun _ hk => hk.2) (.slice Ao109 x151000_1.length co109)) (fun _ hk => hk.2) (.slice Ao112 x151001_1.length co112)) (fun _ hk => hk.2) (.slice Ao107 y209.length co107)) _) (fun _ hk => hk.2) (.slice Ao113 x151003_1.length co113)) (fun _ hk => trivial), by refine rq ?_; first | (with_reducible exact Kd.R_mono (Kd.R_far (p := ⟨gb149, 3, none⟩) (Kd.R_far (p := ⟨gb149, 2, none⟩) (Kd.R_far (p := ⟨gb149, 1, none⟩) (Kd.R_far (p := ⟨gb149, 0, none⟩) (Kd.R_far (p := ⟨gb150, 2, none⟩) (Kd.R_types (Kd.R_types HO_151003.out BK150.out (by decide)) BK149.out (by decide)) (fun _ hk => hk.1.2) (.slice Ao107 y209.length co107)) (fun _ hk => hk.2) (.slice Ao109 x151000_1.length co109)) (fun _ hk => hk.2) (.slice Ao112 x151001_1.length co112)) (fun _ hk => hk.2) (.slice Ao107 y209.length co107)) (fun _ hk => hk.2) (.slice Ao113 x151003_1.length co113)) (fun _ hk => trivial)) | (with_reducible exact Kd.R_mono (Kd.R_far (p := ⟨gb149, 3, none⟩) (Kd.R_drewN (Kd.R_far (p := ⟨gb149, 2, none⟩) (Kd.R_far (p := ⟨gb149, 1, none⟩) (Kd.R_far (p := ⟨gb149, 0, none⟩) (Kd.R_far (p := ⟨gb150, 2, none⟩) (Kd.R_types (Kd.R_types HO_151003.out BK150.out (by decide)) BK149.out (by decide)) (fun _ hk => hk.1.2) (.slice Ao107 y209.length co107)) (fun _ hk => hk.2) (.slice Ao109 x151000_1.length co109)) (fun _ hk => hk.2) (.slice Ao112 x151001_1.length co112)) (fun _ hk => hk.2) (.slice Ao107 y209.length co107)) _) (fun _ hk => hk.2) (.slice Ao113 x151003_1.length co113)) (fun _ hk => trivial)) | exact Kd.R_mono (Kd.R_far (p := ⟨gb149, 3, none⟩) (Kd.R_drewN (Kd.R_far (p := ⟨gb149, 2, none⟩) (Kd.R_far (p := ⟨gb149, 1, none⟩) (Kd.R_far (p := ⟨gb149, 0, none⟩) (Kd.R_far (p := ⟨gb150, 2, none⟩) (Kd.R_types (Kd.R_types HO_151003.out BK150.out (by decide)) BK149.out (by decide)) (fun _ hk => hk.1.2) (.slice Ao107 y209.length co107)) (fun _ hk => hk.2) (.slice Ao109 x151000_1.length co109)) (fun _ hk => hk.2) (.slice Ao112 x151001_1.length co112)) (fun _ hk => hk.2) (.slice Ao107 y209.length co107)) _) (fun _ hk => hk.2) (.slice Ao113 x151003_1.length co113)) (fun _ hk => trivial), by repeat (first | (with_reducible first | exact HI0.out | apply IsS120.alloc | apply IsS120.drewN | apply IsS120.drew | apply IsS120.set_1 | apply IsS120.set_2 | apply IsS120.far (p := ⟨gb149, _, none⟩) (hne := NB0_149.out) | apply IsS120.far (p := ⟨gb150, _, none⟩) (hne := NB0_150.out)) | exact HI0.out), by repeat (first | (with_reducible first | exact HB.out | apply below_alloc | apply pw_below_drewN | apply below_drew1 | refine below_set ?_ (IsS120.ge HI0.out) | refine below_set ?_ GE149.out | refine below_set ?_ GE150.out) | exact HB.out), by repeat (first | (with_reducible first | exact HK.out | apply KeepBut.set_ | apply keep_drewN | apply keep_drew | apply keep_alloc | refine keep_far ?_ GW149.out _ | refine keep_far ?_ GW150.out _) | exact HK.out)⟩
      ·rw [if_neg c99] at H
       have c99b0 : (t197 == 2) = false := beq_eq_false_iff_ne.mpr c99
       have c99b1 : (t197 != 2) = true := bne_iff_ne.mpr c99
       simp only [Option.some.injEq, Prod.mk.injEq] at H
       obtain ⟨rfl, rfl, rfl, rfl, rfl, rfl⟩ := H
       go_wp2_with (first | ((with_reducible refine gate_callee (f := 40) rfl ?_); refine goesL_ (some 77) rfl rfl Tryd.func40 (by kernel_rfl) rfl #[.pointer (some ⟨g, 0, none⟩), .int .i64 16] rfl lz ?_; (with_reducible refine (spec_l1Below.calls g s0_0 x1001_1 x1002_1 16 t197 t198 t199 w0 _ ?side1 ?side2 A67.out).mono ?_); (case side1 => repeat (first | (with_reducible first | exact HI0.out | apply IsS120.alloc | apply IsS120.drewN | apply IsS120.drew | apply IsS120.set_1 | apply IsS120.set_2 | apply IsS120.far (p := ⟨gb149, _, none⟩) (hne := NB0_149.out) | apply IsS120.far (p := ⟨gb150, _, none⟩) (hne := NB0_150.out)) | exact HI0.out)); (case side2 => repeat (first | (with_reducible first | exact HB.out | apply below_alloc | apply pw_below_drewN | apply below_drew1 | refine below_set ?_ (IsS120.ge HI0.out) | refine below_set ?_ GE149.out | refine below_set ?_ GE150.out) | exact HB.out)); rintro e w114 ⟨rfl, hi, hb, hk⟩; refine ⟨_, rfl, ?_⟩; replace HO_151000 := Aside0.mk (Kd.R_mono (Kd.R_keep (IsS120.apart (show IsS120 w0 _ g s0_0 x1001_1 x1002_1 from by repeat (first | (with_reducible first | exact HI0.out | apply IsS120.alloc | apply IsS120.drewN | apply IsS120.drew | apply IsS120.set_1 | apply IsS120.set_2 | apply IsS120.far (p := ⟨gb149, _, none⟩) (hne := NB0_149.out) | apply IsS120.far (p := ⟨gb150, _, none⟩) (hne := NB0_150.out)) | exact HI0.out)) (rz HO_151000.out) (by decide)) hk (fun _ h => h.2)) (fun _ h => h.1)); replace HO_151001 := Aside0.mk (Kd.R_mono (Kd.R_keep (IsS120.apart (show IsS120 w0 _ g s0_0 x1001_1 x1002_1 from by repeat (first | (with_reducible first | exact HI0.out | apply IsS120.alloc | apply IsS120.drewN | apply IsS120.drew | apply IsS120.set_1 | apply IsS120.set_2 | apply IsS120.far (p := ⟨gb149, _, none⟩) (hne := NB0_149.out) | apply IsS120.far (p := ⟨gb150, _, none⟩) (hne := NB0_150.out)) | exact HI0.out)) (rz HO_151001.out) (by decide)) hk (fun _ h => h.2)) (fun _ h => h.1)); replace HO_151002 := Aside0.mk (Kd.R_mono (Kd.R_keep (IsS120.apart (show IsS120 w0 _ g s0_0 x1001_1 x1002_1 from by repeat (first | (with_reducible first | exact HI0.out | apply IsS120.alloc | apply IsS120.drewN | apply IsS120.drew | apply IsS120.set_1 | apply IsS120.set_2 | apply IsS120.far (p := ⟨gb149, _, none⟩) (hne := NB0_149.out) | apply IsS120.far (p := ⟨gb150, _, none⟩) (hne := NB0_150.out)) | exact HI0.out)) (rz HO_151002.out) (by decide)) hk (fun _ h => h.2)) (fun _ h => h.1)); replace HO_151003 := Aside0.mk (Kd.R_mono (Kd.R_keep (IsS120.apart (show IsS120 w0 _ g s0_0 x1001_1 x1002_1 from by repeat (first | (with_reducible first | exact HI0.out | apply IsS120.alloc | apply IsS120.drewN | apply IsS120.drew | apply IsS120.set_1 | apply IsS120.set_2 | apply IsS120.far (p := ⟨gb149, _, none⟩) (hne := NB0_149.out) | apply IsS120.far (p := ⟨gb150, _, none⟩) (hne := NB0_150.out)) | exact HI0.out)) (rz HO_151003.out) (by decide)) hk (fun _ h => h.2)) (fun _ h => h.1)); replace BK149 := Aside0.mk (KeepBut.blk hk (g' := gb149) (o := .cells #[.slice none 0 0, .slice none 0 0, .slice none 0 0, .slice none 0 0] 29 (0, 0)) (kz BK149.out) NB149_0.out (by simp)); replace BK150 := Aside0.mk (KeepBut.blk hk (g' := gb150) (o := .cells #[u151000, u151001, u151002, u151003] 29 (0, 0)) (kz BK150.out) NB150_0.out (by simp)); replace HK := Aside0.mk (KeepBut.trans (by repeat (first | (with_reducible first | exact HK.out | apply KeepBut.set_ | apply keep_drewN | apply keep_drew | apply keep_alloc | refine keep_far ?_ GW149.out _ | refine keep_far ?_ GW150.out _) | exact HK.out)) hk (.inl rfl)); replace HB := Aside0.mk (hb); replace HI0 := Aside0.mk (hi); (try clear hb); (try clear hk); (try clear hi); have hnb115 := NB150_149.out; have hnc115 := NB149_150.out; have hnb116 := NB150_0.out; have hnc116 := NB0_150.out; obtain ⟨hcz117_0, hcz117_1, hcz117_2, hcz117_3⟩ := cz4 BK150.out; obtain ⟨hfz117_0, hfz117_1, hfz117_2, hfz117_3⟩ := fz4 BK150.out; obtain ⟨Ao118, co118, eo118⟩ := Kd.R_slice HO_151000.out; subst eo118; have hnb119 := NB149_0.out; have hnc119 := NB0_149.out; obtain ⟨hcz120_0, hcz120_1, hcz120_2, hcz120_3⟩ := cz4 BK149.out; obtain ⟨hfz120_0, hfz120_1, hfz120_2, hfz120_3⟩ := fz4 BK149.out; obtain ⟨Ao121, co121, eo121⟩ := Kd.R_slice HO_151001.out; subst eo121; obtain ⟨Ao122, co122, eo122⟩ := Kd.R_slice HO_151002.out; subst eo122; obtain ⟨Ao123, co123, eo123⟩ := Kd.R_slice HO_151003.out; subst eo123))
       refine bodyPost_ret (results_cell_row rfl _ _ gb149 29 #[.slice Ao118 x151000_1.length co118, .slice Ao121 x151001_1.length co121, .slice Ao122 x151002_1.length co122, .slice Ao123 x151003_1.length co123] (0, 0) _ rfl (by refine kq ?_; refine blk_put (cs := #[.slice Ao118 x151000_1.length co118, .slice Ao121 x151001_1.length co121, .slice Ao122 x151002_1.length co122, .slice none 0 0]) ?_ 3 _ rfl; refine kq ?_; refine blk_put (cs := #[.slice Ao118 x151000_1.length co118, .slice Ao121 x151001_1.length co121, .slice none 0 0, .slice none 0 0]) ?_ 2 _ rfl; refine kq ?_; refine blk_put (cs := #[.slice Ao118 x151000_1.length co118, .slice none 0 0, .slice none 0 0, .slice none 0 0]) ?_ 1 _ rfl; refine kq ?_; refine blk_put (cs := #[.slice none 0 0, .slice none 0 0, .slice none 0 0, .slice none 0 0]) ?_ 0 _ rfl; refine kq ?_; exact BK149.out) Tryd.underlying29 rfl (by kernel_rfl)) rfl ?_
       exact ⟨_, _, _, _, gz, by refine rq ?_; first | (with_reducible exact Kd.R_mono (Kd.R_far (p := ⟨gb149, 3, none⟩) (Kd.R_far (p := ⟨gb149, 2, none⟩) (Kd.R_far (p := ⟨gb149, 1, none⟩) (Kd.R_far (p := ⟨gb149, 0, none⟩) (Kd.R_types HO_151000.out BK149.out (by decide)) (fun _ hk => hk.2) (.slice Ao118 x151000_1.length co118)) (fun _ hk => hk.2) (.slice Ao121 x151001_1.length co121)) (fun _ hk => hk.2) (.slice Ao122 x151002_1.length co122)) (fun _ hk => hk.2) (.slice Ao123 x151003_1.length co123)) (fun _ hk => trivial)) | (with_reducible exact Kd.R_mono (Kd.R_far (p := ⟨gb149, 3, none⟩) (Kd.R_drewN (Kd.R_far (p := ⟨gb149, 2, none⟩) (Kd.R_far (p := ⟨gb149, 1, none⟩) (Kd.R_far (p := ⟨gb149, 0, none⟩) (Kd.R_types HO_151000.out BK149.out (by decide)) (fun _ hk => hk.2) (.slice Ao118 x151000_1.length co118)) (fun _ hk => hk.2) (.slice Ao121 x151001_1.length co121)) (fun _ hk => hk.2) (.slice Ao122 x151002_1.length co122)) _) (fun _ hk => hk.2) (.slice Ao123 x151003_1.length co123)) (fun _ hk => trivial)) | exact Kd.R_mono (Kd.R_far (p := ⟨gb149, 3, none⟩) (Kd.R_drewN (Kd.R_far (p := ⟨gb149, 2, none⟩) (Kd.R_far (p := ⟨gb149, 1, none⟩) (Kd.R_far (p := ⟨gb149, 0, none⟩) (Kd.R_types HO_151000.out BK149.out (by decide)) (fun _ hk => hk.2) (.slice Ao118 x151000_1.length co118)) (fun _ hk => hk.2) (.slice Ao121 x151001_1.length co121)) (fun _ hk => hk.2) (.slice Ao122 x151002_1.length co122)) _) (fun _ hk => hk.2) (.slice Ao123 x151003_1.length co123)) (fun _ hk => trivial), by refine rq ?_; first | (with_reducible exact Kd.R_mono (Kd.R_far (p := ⟨gb149, 3, none⟩) (Kd.R_far (p := ⟨gb149, 2, none⟩) (Kd.R_far (p := ⟨gb149, 1, none⟩) (Kd.R_far (p := ⟨gb149, 0, none⟩) (Kd.R_types HO_151001.out BK149.out (by decide)) (fun _ hk => hk.2) (.slice Ao118 x151000_1.length co118)) (fun _ hk => hk.2) (.slice Ao121 x151001_1.length co121)) (fun _ hk => hk.2) (.slice Ao122 x151002_1.length co122)) (fun _ hk => hk.2) (.slice Ao123 x151003_1.length co123)) (fun _ hk => trivial)) | (with_reducible exact Kd.R_mono (Kd.R_far (p := ⟨gb149, 3, none⟩) (Kd.R_drewN (Kd.R_far (p := ⟨gb149, 2, none⟩) (Kd.R_far (p := ⟨gb149, 1, none⟩) (Kd.R_far (p := ⟨gb149, 0, none⟩) (Kd.R_types HO_151001.out BK149.out (by decide)) (fun _ hk => hk.2) (.slice Ao118 x151000_1.length co118)) (fun _ hk => hk.2) (.slice Ao121 x151001_1.length co121)) (fun _ hk => hk.2) (.slice Ao122 x151002_1.length co122)) _) (fun _ hk => hk.2) (.slice Ao123 x151003_1.length co123)) (fun _ hk => trivial)) | exact Kd.R_mono (Kd.R_far (p := ⟨gb149, 3, none⟩) (Kd.R_drewN (Kd.R_far (p := ⟨gb149, 2, none⟩) (Kd.R_far (p := ⟨gb149, 1, none⟩) (Kd.R_far (p := ⟨gb149, 0, none⟩) (Kd.R_types HO_151001.out BK149.out (by decide)) (fun _ hk => hk.2) (.slice Ao118 x151000_1.length co118)) (fun _ hk => hk.2) (.slice Ao121 x151001_1.length co121)) (fun _ hk => hk.2) (.slice Ao122 x151002_1.length co122)) _) (fun _ hk => hk.2) (.slice Ao123 x151003_1.length co123)) (fun _ hk => trivial), by refine rq ?_; first | (with_reducible exact Kd.R_mono (Kd.R_far (p := ⟨gb149, 3, none⟩) (Kd.R_far (p := ⟨gb149, 2, none⟩) (Kd.R_far (p := ⟨gb149, 1, none⟩) (Kd.R_far (p := ⟨gb149, 0, none⟩) (Kd.R_types HO_151002.out BK149.out (by decide)) (fun _ hk => hk.2) (.slice Ao118 x151000_1.length co118)) (fun _ hk => hk.2) (.slice Ao121 x151001_1.length co121)) (fun _ hk => hk.2) (.slice Ao122 x151002_1.length co122)) (fun _ hk => hk.2) (.slice Ao123 x151003_1.length co123)) (fun _ hk => trivial)) | (with_reducible exact Kd.R_mono (Kd.R_far (p := ⟨gb149, 3, none⟩) (Kd.R_drewN (Kd.R_far (p := ⟨gb149, 2, none⟩) (Kd.R_far (p := ⟨gb149, 1, none⟩) (Kd.R_far (p := ⟨gb149, 0, none⟩) (Kd.R_types HO_151002.out BK149.out (by decide)) (fun _ hk => hk.2) (.slice Ao118 x151000_1.length co118)) (fun _ hk => hk.2) (.slice Ao121 x151001_1.length co121)) (fun _ hk => hk.2) (.slice Ao122 x151002_1.length co122)) _) (fun _ hk => hk.2) (.slice Ao123 x151003_1.length co123)) (fun _ hk => trivial)) | exact Kd.R_mono (Kd.R_far (p := ⟨gb149, 3, none⟩) (Kd.R_drewN (Kd.R_far (p := ⟨gb149, 2, none⟩) (Kd.R_far (p := ⟨gb149, 1, none⟩) (Kd.R_far (p := ⟨gb149, 0, none⟩) (Kd.R_types HO_151002.out BK149.out (by decide)) (fun _ hk => hk.2) (.slice Ao118 x151000_1.length co118)) (fun _ hk => hk.2) (.slice Ao121 x151001_1.length co121)) (fun _ hk => hk.2) (.slice Ao122 x151002_1.length co122)) _) (fun _ hk => hk.2) (.slice Ao123 x151003_1.length co123)) (fun _ hk => trivial), by refine rq ?_; first | (with_reducible exact Kd.R_mono (Kd.R_far (p := ⟨gb149, 3, none⟩) (Kd.R_far (p := ⟨gb149, 2, none⟩) (Kd.R_far (p := ⟨gb149, 1, none⟩) (Kd.R_far (p := ⟨gb149, 0, none⟩) (Kd.R_types HO_151003.out BK149.out (by decide)) (fun _ hk => hk.2) (.slice Ao118 x151000_1.length co118)) (fun _ hk => hk.2) (.slice Ao121 x151001_1.length co121)) (fun _ hk => hk.2) (.slice Ao122 x151002_1.length co122)) (fun _ hk => hk.2) (.slice Ao123 x151003_1.length co123)) (fun _ hk => trivial)) | (with_reducible exact Kd.R_mono (Kd.R_far (p := ⟨gb149, 3, none⟩) (Kd.R_drewN (Kd.R_far (p := ⟨gb149, 2, none⟩) (Kd.R_far (p := ⟨gb149, 1, none⟩) (Kd.R_far (p := ⟨gb149, 0, none⟩) (Kd.R_types HO_151003.out BK149.out (by decide)) (fun _ hk => hk.2) (.slice Ao118 x151000_1.length co118)) (fun _ hk => hk.2) (.slice Ao121 x151001_1.length co121)) (fun _ hk => hk.2) (.slice Ao122 x151002_1.length co122)) _) (fun _ hk => hk.2) (.slice Ao123 x151003_1.length co123)) (fun _ hk => trivial)) | exact Kd.R_mono (Kd.R_far (p := ⟨gb149, 3, none⟩) (Kd.R_drewN (Kd.R_far (p := ⟨gb149, 2, none⟩) (Kd.R_far (p := ⟨gb149, 1, none⟩) (Kd.R_far (p := ⟨gb149, 0, none⟩) (Kd.R_types HO_151003.out BK149.out (by decide)) (fun _ hk => hk.2) (.slice Ao118 x151000_1.length co118)) (fun _ hk => hk.2) (.slice Ao121 x151001_1.length co121)) (fun _ hk => hk.2) (.slice Ao122 x151002_1.length co122)) _) (fun _ hk => hk.2) (.slice Ao123 x151003_1.length co123)) (fun _ hk => trivial), by repeat (first | (with_reducible first | exact HI0.out | apply IsS120.alloc | apply IsS120.drewN | apply IsS120.drew | apply IsS120.set_1 | apply IsS120.set_2 | apply IsS120.far (p := ⟨gb149, _, none⟩) (hne := NB0_149.out) | apply IsS120.far (p := ⟨gb150, _, none⟩) (hne := NB0_150.out)) | exact HI0.out), by repeat (first | (with_reducible first | exact HB.out | apply below_alloc | apply pw_below_drewN | apply below_drew1 | refine below_set ?_ (IsS120.ge HI0.out) | refine below_set ?_ GE149.out | refine below_set ?_ GE150.out) | exact HB.out), by repeat (first | (with_reducible first | exact HK.out | apply KeepBut.set_ | apply keep_drewN | apply keep_drew | apply keep_alloc | refine keep_far ?_ GW149.out _ | refine keep_far ?_ GW150.out _) | exact HK.out)⟩
end Go.Proofs.YtlhofeikcaejpaaDoor.PFnValues
