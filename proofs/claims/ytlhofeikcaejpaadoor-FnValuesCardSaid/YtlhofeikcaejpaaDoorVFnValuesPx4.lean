/- PFnValuesx4, of the words and walks that the law FnValues needs; made by this session's program out of printed texts. -/

import Derived.Test.YtlhofeikcaejpaaDoorVFnValuesPx0
import Derived.Test.YtlhofeikcaejpaaDoorVFnValuesPx2
import Derived.Test.YtlhofeikcaejpaaDoorVFnValuesPx3
namespace Go.Proofs.YtlhofeikcaejpaaDoor.PFnValues
open Go.RowKit Go.Proofs.YtlhofeikcaejpaaDoorW.PrintWords Go.Proofs.YtlhofeikcaejpaaDoorW.PrintLast Go.Proofs.YtlhofeikcaejpaaDoorW.PrintMore
attribute [local go_sem] max2_int min2_int max_two min_two max_three min_three max_four min_four
set_option linter.unusedVariables false
set_option linter.unusedSimpArgs false
def spec_l1Once.f (s0_0 : List Int) (s0_1 : Int) (s0_2 : Int) (a1 : Int) : Option (Bool × Int × Int) := (spec_l1Below.f s0_0 s0_1 s0_2 a1).bind fun bt212 => (some ((bt212.1 == 0), bt212.2.1, bt212.2.2))
set_option maxHeartbeats 80000000 in
set_option maxRecDepth 100000 in
theorem spec_l1Once.calls (g : Nat) (s0_0 : List Int) (s0_1 : Int) (s0_2 : Int) (a1 : Int) (r1 : Bool) (r2 : Int) (r3 : Int) (w0 w : World) (hI : IsS120 w0 w g s0_0 s0_1 s0_2) (hB : Below w0.heap.size w0 w) (h : spec_l1Once.f s0_0 s0_1 s0_2 a1 = some (r1, r2, r3)) :
  Calls Tryd.prog 39 #[.pointer (some ⟨g, 0, none⟩), .int .i64 a1] w fun e w' => e = .returned (.bool r1) /\ IsS120 w0 w' g s0_0 r2 r3 /\ Below w0.heap.size w0 w' /\ KeepBut w w' g none := by
 have HI0 := Aside0.mk hI
 have HK := Aside0.mk (KeepBut.refl w g none)
 have HL := Aside0.mk hB.size
 clear hI
 have HW0 := Aside0.mk hB.size
 have HB := Aside0.mk hB
 clear hB
 have H : ((spec_l1Below.f s0_0 s0_1 s0_2 a1).bind fun bt212 => (some ((bt212.1 == 0), bt212.2.1, bt212.2.2))) = some (r1, r2, r3) := h
 clear h
 replace H := bi H
 obtain ⟨⟨t212, t213, t214⟩, A30, H⟩ := H
 try dsimp only at H
 have A3 := Aside0.mk A30
 clear A30
 simp only [Option.some.injEq, Prod.mk.injEq] at H
 obtain ⟨rfl, rfl, rfl⟩ := H
 go_enter Tryd.func39, Tryd.ntmps39
 go_wp2_with (first | ((with_reducible refine gate_callee (f := 40) rfl ?_); refine goesL_ (some 7) rfl rfl Tryd.func40 (by kernel_rfl) rfl #[.pointer (some ⟨g, 0, none⟩), .int .i64 a1] rfl lz ?_; (with_reducible refine (spec_l1Below.calls g s0_0 s0_1 s0_2 a1 t212 t213 t214 w0 _ ?side1 ?side2 A3.out).mono ?_); (case side1 => repeat (first | (with_reducible first | exact HI0.out | apply IsS120.alloc | apply IsS120.drewN | apply IsS120.drew | apply IsS120.set_1 | apply IsS120.set_2) | exact HI0.out)); (case side2 => repeat (first | (with_reducible first | exact HB.out | apply below_alloc | apply pw_below_drewN | apply below_drew1 | refine below_set ?_ (IsS120.ge HI0.out)) | exact HB.out)); rintro e w4 ⟨rfl, hi, hb, hk⟩; refine ⟨_, rfl, ?_⟩; replace HK := Aside0.mk (KeepBut.trans (by repeat (first | (with_reducible first | exact HK.out | apply KeepBut.set_ | apply keep_drewN | apply keep_drew | apply keep_alloc) | exact HK.out)) hk (.inl rfl)); replace HB := Aside0.mk (hb); replace HI0 := Aside0.mk (hi); (try clear hb); (try clear hk); (try clear hi)))
 go_ret
 exact ⟨gz, by repeat (first | (with_reducible first | exact HI0.out | apply IsS120.alloc | apply IsS120.drewN | apply IsS120.drew | apply IsS120.set_1 | apply IsS120.set_2) | exact HI0.out), by repeat (first | (with_reducible first | exact HB.out | apply below_alloc | apply pw_below_drewN | apply below_drew1 | refine below_set ?_ (IsS120.ge HI0.out)) | exact HB.out), by repeat (first | (with_reducible first | exact HK.out | apply KeepBut.set_ | apply keep_drewN | apply keep_drew | apply keep_alloc) | exact HK.out)⟩
def spec_DrawLookUp.f (k : Nat) (l0 : List Int) : Option ((List (S41)) × (List (S86)) × (List (S47)) × (List (S35)) × Int × Int × Int) := (spec_l1New.f k l0).bind fun bt217 => ((spec_l10Heap.f k bt217.1 bt217.2.1 bt217.2.2).bind fun bt221 => ((spec_l1Once.f bt217.1 bt221.2.2.2.2.1 bt221.2.2.2.2.2 6).bind fun bt236 => (if bt236.1 = true then ((spec_l1Below.f bt217.1 bt236.2.1 bt236.2.2 (wrap64 ((bt221.1.length : Int) + 3))).bind fun bt239 => ((spec_l1Below.f bt217.1 bt239.2.1 bt239.2.2 4).bind fun bt242 => ((spec_l1Below.f bt217.1 bt242.2.1 bt242.2.2 2).bind fun bt245 => (some (bt221.1, bt221.2.1, bt221.2.2.1, bt221.2.2.2.1, wrap64 (bt239.1 - 2), bt242.1, bt245.1))))) else ((spec_l1Below.f bt217.1 bt236.2.1 bt236.2.2 4).bind fun bt248 => ((spec_l1Below.f bt217.1 bt248.2.1 bt248.2.2 2).bind fun bt251 => (some (bt221.1, bt221.2.1, bt221.2.2.1, bt221.2.2.2.1, wrap64 ((bt221.1.length : Int) - 1), bt248.1, bt251.1)))))))
theorem spec_DrawLookUp.mono : ∀ a0 k, LeO (spec_DrawLookUp.f k a0) (spec_DrawLookUp.f (k + 1) a0) := by
 intro a0 k
 unfold spec_DrawLookUp.f
 with_reducible repeat' first | exact spec_l10Heap.mono _ _ _ _ | exact spec_l1New.mono _ _ | exact lrz _ | exact lnz _ | refine liz ?_ ?_ | refine lbz ?_ fun _ => ?_
def spec_DrawLookUp.T6 : Bool × List (List Nat × List Nat) := (true, [([], []), ([], []), ([], []), ([2], [2]), ([], []), ([4, 3], [4]), ([3, 5], [3, 5]), ([0, 5, 0], [0]), ([1, 7, 0, 1, 7], [1]), ([6, 8, 0, 1, 2, 3, 4, 5, 6, 7, 8], [6])])
def spec_DrawLookUp.B6 : List Nat := [0, 0, 0, 4, 0, 28, 60, 61, 191, 511]
theorem spec_DrawLookUp.tab6 : rtab .any (opsOf Tryd.f10 6) = spec_DrawLookUp.T6 := by kernel_rfl
theorem spec_DrawLookUp.bits6 : waitsOk spec_DrawLookUp.T6.2 spec_DrawLookUp.B6 = true := by kernel_rfl
set_option maxHeartbeats 80000000 in
set_option maxRecDepth 100000 in
theorem spec_DrawLookUp.calls (k : Nat) (A0 : Option Addr) (c0 : Nat) (l0 : List Int) (r1 : List (S41)) (r2 : List (S86)) (r3 : List (S47)) (r4 : List (S35)) (r5 : Int) (r6 : Int) (r7 : Int) (w : World) (hr0 : Kd.C (Kd.int .u8) w A0 l0.length l0) (hc0 : l0.length <= c0) (h : spec_DrawLookUp.f k l0 = some (r1, r2, r3, r4, r5, r6, r7)) :
  Calls Tryd.prog 10 #[.slice A0 l0.length c0] w fun e w' => ∃ v0_ v1_ v2_ v3_ : Value, e = .returned (.tuple #[.agg #[v0_, v1_, v2_, v3_], .int .i64 r5, .agg #[.int .i64 r6, .int .i64 r7]]) /\ Kd.R k41 41 w' w.heap.size (fun _ => True) v0_ r1 /\ Kd.R k86 86 w' w.heap.size (fun _ => True) v1_ r2 /\ Kd.R k47 47 w' w.heap.size (fun _ => True) v2_ r3 /\ Kd.R k35 35 w' w.heap.size (fun _ => True) v3_ r4 /\ Below w.heap.size w w' := by
 have hu29 := Tryd.underlying29
 have hu31 := Tryd.underlying31
 have HR0 := Aside0.mk hr0
 have HC0 := Aside0.mk hc0
 clear hr0 hc0
 have HB := Aside0.mk (Below.refl w.heap.size w)
 have H : ((spec_l1New.f k l0).bind fun bt217 => ((spec_l10Heap.f k bt217.1 bt217.2.1 bt217.2.2).bind fun bt221 => ((spec_l1Once.f bt217.1 bt221.2.2.2.2.1 bt221.2.2.2.2.2 6).bind fun bt236 => (if bt236.1 = true then ((spec_l1Below.f bt217.1 bt236.2.1 bt236.2.2 (wrap64 ((bt221.1.length : Int) + 3))).bind fun bt239 => ((spec_l1Below.f bt217.1 bt239.2.1 bt239.2.2 4).bind fun bt242 => ((spec_l1Below.f bt217.1 bt242.2.1 bt242.2.2 2).bind fun bt245 => (some (bt221.1, bt221.2.1, bt221.2.2.1, bt221.2.2.2.1, wrap64 (bt239.1 - 2), bt242.1, bt245.1))))) else ((spec_l1Below.f bt217.1 bt236.2.1 bt236.2.2 4).bind fun bt248 => ((spec_l1Below.f bt217.1 bt248.2.1 bt248.2.2 2).bind fun bt251 => (some (bt221.1, bt221.2.1, bt221.2.2.1, bt221.2.2.2.1, wrap64 ((bt221.1.length : Int) - 1), bt248.1, bt251.1)))))))) = some (r1, r2, r3, r4, r5, r6, r7) := h
 clear h
 replace H := bi H
 obtain ⟨⟨t217, t218, t219⟩, A20, H⟩ := H
 try dsimp only at H
 have A2 := Aside0.mk A20
 clear A20
 replace H := bi H
 obtain ⟨⟨t221, t224, t227, t230, t233, t234⟩, A30, H⟩ := H
 try dsimp only at H
 have A3 := Aside0.mk A30
 clear A30
 replace H := bi H
 obtain ⟨⟨t236, t237, t238⟩, A40, H⟩ := H
 try dsimp only at H
 have A4 := Aside0.mk A40
 clear A40
 by_cases c5 : t236 = true
 ·subst c5
  have H1 := hp H
  clear H
  have H := H1
  clear H1
  replace H := bi H
  obtain ⟨⟨t239, t240, t241⟩, A60, H⟩ := H
  try dsimp only at H
  have A6 := Aside0.mk A60
  clear A60
  replace H := bi H
  obtain ⟨⟨t242, t243, t244⟩, A70, H⟩ := H
  try dsimp only at H
  have A7 := Aside0.mk A70
  clear A70
  replace H := bi H
  obtain ⟨⟨t245, t246, t247⟩, A80, H⟩ := H
  try dsimp only at H
  have A8 := Aside0.mk A80
  clear A80
  simp only [Option.some.injEq, Prod.mk.injEq] at H
  obtain ⟨rfl, rfl, rfl, rfl, rfl, rfl, rfl⟩ := H
  go_enter Tryd.func10, Tryd.ntmps10
  try go_wp2_with (first | ((with_reducible refine gate_dst (N := 2) rfl ?_); refine box_event ?hg (N := 2) ?hd (cs := #[.slice none 0 0, .slice none 0 0, .slice none 0 0, .slice none 0 0]) (t := 29) ?hr ?_; (case hd => rfl); (case hg => rfl); (case hr => exact vz); intro gb215 hg w9 hbox hb; have BK215 := Aside0.mk (hbox); have GW215 := Aside0.mk ((by rw [hg]; exact (below_size (bz0 HB.out)) : w.heap.size <= gb215)); have GE215 := GW215; replace HB := Aside0.mk (below_step (bz0 HB.out) hb); clear hb hbox hg) | ((with_reducible refine gate_dst (N := 4) rfl ?_); refine box_event ?hg (N := 4) ?hd (cs := #[.int .i64 0, .int .i64 0]) (t := 31) ?hr ?_; (case hd => rfl); (case hg => rfl); (case hr => exact vz); intro gb216 hg w10 hbox hb; have BK216 := Aside0.mk (hbox); have GW216 := Aside0.mk ((by rw [hg]; exact (below_size (bz1 HB.out GE215.out)) : w.heap.size <= gb216)); have GE216 := GW216; replace HB := Aside0.mk (below_step (bz1 HB.out GE215.out) hb); have NB215_216 := Aside0.mk ((by rw [hg]; exact Nat.ne_of_lt (blk_lt (kz BK215.out)) : gb215 ≠ gb216)); have NB216_215 := Aside0.mk ((by rw [hg]; exact Nat.ne_of_gt (blk_lt (kz BK215.out)) : gb216 ≠ gb215)); replace BK215 := Aside0.mk (blk_below (kz BK215.out) hb); clear hb hbox hg) | ((with_reducible refine gate_callee (f := 37) rfl ?_); refine goesL_ (some 9) rfl rfl Tryd.func37 (by kernel_rfl) rfl #[.slice A0 l0.length c0] rfl lz ?_; (with_reducible refine (spec_l1New.calls k _ _ l0 t217 t218 t219 w _ ?side1 ?side2 ?side3 A2.out).mono ?_); (case side1 => repeat (first | (with_reducible first | exact HB.out | apply below_alloc | apply pw_below_drewN | apply below_drew1 | refine below_set ?_ GE215.out | refine below_set ?_ GE216.out) | exact HB.out)); (case side2 => exact HR0.out); (case side3 => exact HC0.out); rintro e w11 ⟨g220, rfl, hi, hb, hb2⟩; refine ⟨_, rfl, ?_⟩; replace HB := Aside0.mk (hb); have HI220 := Aside0.mk (hi); have NB220_215 := Aside0.mk (IsS120.ne_blk hi (blk_below (g := gb215) (o := .cells #[.slice none 0 0, .slice none 0 0, .slice none 0 0, .slice none 0 0] 29 (0, 0)) (kz BK215.out) hb2) (by decide)); have NB215_220 := Aside0.mk (Ne.symm (IsS120.ne_blk hi (blk_below (g := gb215) (o := .cells #[.slice none 0 0, .slice none 0 0, .slice none 0 0, .slice none 0 0] 29 (0, 0)) (kz BK215.out) hb2) (by decide))); replace BK215 := Aside0.mk (blk_below (g := gb215) (o := .cells #[.slice none 0 0, .slice none 0 0, .slice none 0 0, .slice none 0 0] 29 (0, 0)) (kz BK215.out) hb2); have NB220_216 := Aside0.mk (IsS120.ne_blk hi (blk_below (g := gb216) (o := .cells #[.int .i64 0, .int .i64 0] 31 (0, 0)) (kz BK216.out) hb2) (by decide)); have NB216_220 := Aside0.mk (Ne.symm (IsS120.ne_blk hi (blk_below (g := gb216) (o := .cells #[.int .i64 0, .int .i64 0] 31 (0, 0)) (kz BK216.out) hb2) (by decide))); replace BK216 := Aside0.mk (blk_below (g := gb216) (o := .cells #[.int .i64 0, .int .i64 0] 31 (0, 0)) (kz BK216.out) hb2); (try clear hb); (try clear hb2); (try clear hk); (try clear hi)) | ((with_reducible refine gate_callee (f := 38) rfl ?_); refine goesL_ (some 11) rfl rfl Tryd.func38 (by kernel_rfl) rfl #[.pointer (some ⟨g220, 0, none⟩)] rfl lz ?_; (with_reducible refine (spec_l10Heap.calls k g220 t217 t218 t219 t221 t224 t227 t230 t233 t234 w _ ?side1 ?side2 A3.out).mono ?_); (case side1 => repeat (first | (with_reducible first | exact HI220.out | apply IsS120.alloc | apply IsS120.drewN | apply IsS120.drew | apply IsS120.set_1 | apply IsS120.set_2 | apply IsS120.far (p := ⟨gb215, _, none⟩) (hne := NB220_215.out) | apply IsS120.far (p := ⟨gb216, _, none⟩) (hne := NB220_216.out)) | exact HI220.out)); (case side2 => repeat (first | (with_reducible first | exact HB.out | apply below_alloc | apply pw_below_drewN | apply below_drew1 | refine below_set ?_ (IsS120.ge HI220.out) | refine below_set ?_ GE215.out | refine below_set ?_ GE216.out) | exact HB.out)); rintro e w12 ⟨v222, v225, v228, v231, rfl, ho0, ho1, ho2, ho3, hi, hb, hk⟩; refine ⟨_, rfl, ?_⟩; replace BK215 := Aside0.mk (KeepBut.blk hk (g' := gb215) (o := .cells #[.slice none 0 0, .slice none 0 0, .slice none 0 0, .slice none 0 0] 29 (0, 0)) (kz BK215.out) NB215_220.out (by simp)); replace BK216 := Aside0.mk (KeepBut.blk hk (g' := gb216) (o := .cells #[.int .i64 0, .int .i64 0] 31 (0, 0)) (kz BK216.out) NB216_220.out (by simp)); have HO223 := Aside0.mk (Kd.R_lower ho0 (below_size (by repeat (first | (with_reducible first | exact HB.out | apply below_alloc | apply pw_below_drewN | apply below_drew1 | refine below_set ?_ (IsS120.ge HI220.out) | refine below_set ?_ GE215.out | refine below_set ?_ GE216.out) | exact HB.out)))); have HO226 := Aside0.mk (Kd.R_lower ho1 (below_size (by repeat (first | (with_reducible first | exact HB.out | apply below_alloc | apply pw_below_drewN | apply below_drew1 | refine below_set ?_ (IsS120.ge HI220.out) | refine below_set ?_ GE215.out | refine below_set ?_ GE216.out) | exact HB.out)))); have HO229 := Aside0.mk (Kd.R_lower ho2 (below_size (by repeat (first | (with_reducible first | exact HB.out | apply below_alloc | apply pw_below_drewN | apply below_drew1 | refine below_set ?_ (IsS120.ge HI220.out) | refine below_set ?_ GE215.out | refine below_set ?_ GE216.out) | exact HB.out)))); have HO232 := Aside0.mk (Kd.R_lower ho3 (below_size (by repeat (first | (with_reducible first | exact HB.out | apply below_alloc | apply pw_below_drewN | apply below_drew1 | refine below_set ?_ (IsS120.ge HI220.out) | refine below_set ?_ GE215.out | refine below_set ?_ GE216.out) | exact HB.out)))); replace HB := Aside0.mk (hb); replace HI220 := Aside0.mk (hi); (try clear hb); (try clear hb2); (try clear hk); (try clear hi); (try clear ho0); (try clear ho1); (try clear ho2); (try clear ho3)) | ((with_reducible refine gate_dst (N := 6) rfl ?_); refine box_event ?hg (N := 6) ?hd (cs := #[.slice none 0 0, .slice none 0 0, .slice none 0 0, .slice none 0 0]) (t := 29) ?hr ?_; (case hd => rfl); (case hg => rfl); (case hr => exact vz); intro gb235 hg w13 hbox hb; replace HO223 := qz HO223 hb; replace HO226 := qz HO226 hb; replace HO229 := qz HO229 hb; replace HO232 := qz HO232 hb; have BK235 := Aside0.mk (hbox); have GW235 := Aside0.mk ((by rw [hg]; exact (below_size (by repeat (first | (with_reducible first | exact HB.out | apply below_alloc | apply pw_below_drewN | apply below_drew1 | refine below_set ?_ (IsS120.ge HI220.out) | refine below_set ?_ GE215.out | refine below_set ?_ GE216.out) | exact HB.out))) : w.heap.size <= gb235)); have GE235 := Aside0.mk ((by rw [hg]; exact (below_size (by repeat (first | (with_reducible first | exact HB.out | apply below_alloc | apply pw_below_drewN | apply below_drew1 | refine below_set ?_ (IsS120.ge HI220.out) | refine below_set ?_ GE215.out | refine below_set ?_ GE216.out) | exact HB.out))) : w.heap.size <= gb235)); replace HB := Aside0.mk (below_step (by repeat (first | (with_reducible first | exact HB.out | apply below_alloc | apply pw_below_drewN | apply below_drew1 | refine below_set ?_ (IsS120.ge HI220.out) | refine below_set ?_ GE215.out | refine below_set ?_ GE216.out) | exact HB.out)) hb); have NB215_235 := Aside0.mk ((by rw [hg]; exact Nat.ne_of_lt (blk_lt (kz BK215.out)) : gb215 ≠ gb235)); have NB235_215 := Aside0.mk ((by rw [hg]; exact Nat.ne_of_gt (blk_lt (kz BK215.out)) : gb235 ≠ gb215)); replace BK215 := Aside0.mk (blk_below (kz BK215.out) hb); have NB216_235 := Aside0.mk ((by rw [hg]; exact Nat.ne_of_lt (blk_lt (kz BK216.out)) : gb216 ≠ gb235)); have NB235_216 := Aside0.mk ((by rw [hg]; exact Nat.ne_of_gt (blk_lt (kz BK216.out)) : gb235 ≠ gb216)); replace BK216 := Aside0.mk (blk_below (kz BK216.out) hb); have NB220_235 := Aside0.mk ((by rw [hg]; exact Nat.ne_of_lt (IsS120.lt (show IsS120 w _ g220 t217 t233 t234 from by repeat (first | (with_reducible first | exact HI220.out | apply IsS120.alloc | apply IsS120.drewN | apply IsS120.drew | apply IsS120.set_1 | apply IsS120.set_2 | apply IsS120.far (p := ⟨gb215, _, none⟩) (hne := NB220_215.out) | apply IsS120.far (p := ⟨gb216, _, none⟩) (hne := NB220_216.out)) | exact HI220.out))) : g220 ≠ gb235)); have NB235_220 := Aside0.mk ((by rw [hg]; exact Nat.ne_of_gt (IsS120.lt (show IsS120 w _ g220 t217 t233 t234 from by repeat (first | (with_reducible first | exact HI220.out | apply IsS120.alloc | apply IsS120.drewN | apply IsS120.drew | apply IsS120.set_1 | apply IsS120.set_2 | apply IsS120.far (p := ⟨gb215, _, none⟩) (hne := NB220_215.out) | apply IsS120.far (p := ⟨gb216, _, none⟩) (hne := NB220_216.out)) | exact HI220.out))) : gb235 ≠ g220)); replace HI220 := Aside0.mk (IsS120.below (by repeat (first | (with_reducible first | exact HI220.out | apply IsS120.alloc | apply IsS120.drewN | apply IsS120.drew | apply IsS120.set_1 | apply IsS120.set_2 | apply IsS120.far (p := ⟨gb215, _, none⟩) (hne := NB220_215.out) | apply IsS120.far (p := ⟨gb216, _, none⟩) (hne := NB220_216.out)) | exact HI220.out)) hb); clear hb hbox hg; obtain ⟨Ao14, co14, eo14⟩ := Kd.R_slice HO223.out; subst eo14; have hnb15 := NB235_215.out; have hnc15 := NB215_235.out; have hnb16 := NB235_216.out; have hnc16 := NB216_235.out; have hnb17 := NB235_220.out; have hnc17 := NB220_235.out; obtain ⟨hcz18_0, hcz18_1, hcz18_2, hcz18_3⟩ := cz4 BK235.out; obtain ⟨hfz18_0, hfz18_1, hfz18_2, hfz18_3⟩ := fz4 BK235.out; obtain ⟨Ao19, co19, eo19⟩ := Kd.R_slice HO226.out; subst eo19; obtain ⟨Ao20, co20, eo20⟩ := Kd.R_slice HO229.out; subst eo20; obtain ⟨Ao21, co21, eo21⟩ := Kd.R_slice HO232.out; subst eo21) | ((with_reducible refine gate_callee (f := 39) rfl ?_); refine goesL_ (some 17) rfl rfl Tryd.func39 (by kernel_rfl) rfl #[.pointer (some ⟨g220, 0, none⟩), .int .i64 6] rfl lz ?_; (with_reducible refine (spec_l1Once.calls g220 t217 t233 t234 6 true t237 t238 w _ ?side1 ?side2 A4.out).mono ?_); (case side1 => repeat (first | (with_reducible first | exact HI220.out | apply IsS120.alloc | apply IsS120.drewN | apply IsS120.drew | apply IsS120.set_1 | apply IsS120.set_2 | apply IsS120.far (p := ⟨gb215, _, none⟩) (hne := NB220_215.out) | apply IsS120.far (p := ⟨gb216, _, none⟩) (hne := NB220_216.out) | apply IsS120.far (p := ⟨gb235, _, none⟩) (hne := NB220_235.out)) | exact HI220.out)); (case side2 => repeat (first | (with_reducible first | exact HB.out | apply below_alloc | apply pw_below_drewN | apply below_drew1 | refine below_set ?_ (IsS120.ge HI220.out) | refine below_set ?_ GE215.out | refine below_set ?_ GE216.out | refine below_set ?_ GE235.out) | exact HB.out)); rintro e w22 ⟨rfl, hi, hb, hk⟩; refine ⟨_, rfl, ?_⟩; replace BK215 := Aside0.mk (KeepBut.blk hk (g' := gb215) (o := .cells #[.slice none 0 0, .slice none 0 0, .slice none 0 0, .slice none 0 0] 29 (0, 0)) (by refine kq ?_; refine blk_far ?_ NB215_235.out _; refine kq ?_; refine blk_far ?_ NB215_235.out _; refine kq ?_; refine blk_far ?_ NB215_235.out _; refine kq ?_; refine blk_far ?_ NB215_235.out _; refine kq ?_; exact BK215.out) NB215_220.out (by simp)); replace BK216 := Aside0.mk (KeepBut.blk hk (g' := gb216) (o := .cells #[.int .i64 0, .int .i64 0] 31 (0, 0)) (by refine kq ?_; refine blk_far ?_ NB216_235.out _; refine kq ?_; refine blk_far ?_ NB216_235.out _; refine kq ?_; refine blk_far ?_ NB216_235.out _; refine kq ?_; refine blk_far ?_ NB216_235.out _; refine kq ?_; exact BK216.out) NB216_220.out (by simp)); replace HO223 := Aside0.mk (Kd.R_mono (Kd.R_keep (IsS120.apart (show IsS120 w _ g220 t217 t233 t234 from by repeat (first | (with_reducible first | exact HI220.out | apply IsS120.alloc | apply IsS120.drewN | apply IsS120.drew | apply IsS120.set_1 | apply IsS120.set_2 | apply IsS120.far (p := ⟨gb215, _, none⟩) (hne := NB220_215.out) | apply IsS120.far (p := ⟨gb216, _, none⟩) (hne := NB220_216.out) | apply IsS120.far (p := ⟨gb235, _, none⟩) (hne := NB220_235.out)) | exact HI220.out)) (by refine rq ?_; exact (Kd.R_mono (Kd.R_far (p := ⟨gb235, 3, none⟩) (Kd.R_far (p := ⟨gb235, 2, none⟩) (Kd.R_far (p := ⟨gb235, 1, none⟩) (Kd.R_far (p := ⟨gb235, 0, none⟩) (Kd.R_types HO223.out BK235.out (by decide)) (fun _ hk => hk.2) (.slice Ao14 t221.length co14)) (fun _ hk => hk.2) (.slice Ao19 t224.length co19)) (fun _ hk => hk.2) (.slice Ao20 t227.length co20)) (fun _ hk => hk.2) (.slice Ao21 t230.length co21)) (fun _ h_ => h_.1))) (by decide)) hk (fun _ h => h.2)) (fun _ h => h.1)); replace HO226 := Aside0.mk (Kd.R_mono (Kd.R_keep (IsS120.apart (show IsS120 w _ g220 t217 t233 t234 from by repeat (first | (with_reducible first | exact HI220.out | apply IsS120.alloc | apply IsS120.drewN | apply IsS120.drew | apply IsS120.set_1 | apply IsS120.set_2 | apply IsS120.far (p := ⟨gb215, _, none⟩) (hne := NB220_215.out) | apply IsS120.far (p := ⟨gb216, _, none⟩) (hne := NB220_216.out) | apply IsS120.far (p := ⟨gb235, _, none⟩) (hne := NB220_235.out)) | exact HI220.out)) (by refine rq ?_; exact (Kd.R_mono (Kd.R_far (p := ⟨gb235, 3, none⟩) (Kd.R_far (p := ⟨gb235, 2, none⟩) (Kd.R_far (p := ⟨gb235, 1, none⟩) (Kd.R_far (p := ⟨gb235, 0, none⟩) (Kd.R_types HO226.out BK235.out (by decide)) (fun _ hk => hk.2) (.slice Ao14 t221.length co14)) (fun _ hk => hk.2) (.slice Ao19 t224.length co19)) (fun _ hk => hk.2) (.slice Ao20 t227.length co20)) (fun _ hk => hk.2) (.slice Ao21 t230.length co21)) (fun _ h_ => h_.1))) (by decide)) hk (fun _ h => h.2)) (fun _ h => h.1)); replace HO229 := Aside0.mk (Kd.R_mono (Kd.R_keep (IsS120.apart (show IsS120 w _ g220 t217 t233 t234 from by repeat (first | (with_reducible first | exact HI220.out | apply IsS120.alloc | apply IsS120.drewN | apply IsS120.drew | apply IsS120.set_1 | apply IsS120.set_2 | apply IsS120.far (p := ⟨gb215, _, none⟩) (hne := NB220_215.out) | apply IsS120.far (p := ⟨gb216, _, none⟩) (hne := NB220_216.out) | apply IsS120.far (p := ⟨gb235, _, none⟩) (hne := NB220_235.out)) | exact HI220.out)) (by refine rq ?_; exact (Kd.R_mono (Kd.R_far (p := ⟨gb235, 3, none⟩) (Kd.R_far (p := ⟨gb235, 2, none⟩) (Kd.R_far (p := ⟨gb235, 1, none⟩) (Kd.R_far (p := ⟨gb235, 0, none⟩) (Kd.R_types HO229.out BK235.out (by decide)) (fun _ hk => hk.2) (.slice Ao14 t221.length co14)) (fun _ hk => hk.2) (.slice Ao19 t224.length co19)) (fun _ hk => hk.2) (.slice Ao20 t227.length co20)) (fun _ hk => hk.2) (.slice Ao21 t230.length co21)) (fun _ h_ => h_.1))) (by decide)) hk (fun _ h => h.2)) (fun _ h => h.1)); replace HO232 := Aside0.mk (Kd.R_mono (Kd.R_keep (IsS120.apart (show IsS120 w _ g220 t217 t233 t234 from by repeat (first | (with_reducible first | exact HI220.out | apply IsS120.alloc | apply IsS120.drewN | apply IsS120.drew | apply IsS120.set_1 | apply IsS120.set_2 | apply IsS120.far (p := ⟨gb215, _, none⟩) (hne := NB220_215.out) | apply IsS120.far (p := ⟨gb216, _, none⟩) (hne := NB220_216.out) | apply IsS120.far (p := ⟨gb235, _, none⟩) (hne := NB220_235.out)) | exact HI220.out)) (by refine rq ?_; exact (Kd.R_mono (Kd.R_far (p := ⟨gb235, 3, none⟩) (Kd.R_far (p := ⟨gb235, 2, none⟩) (Kd.R_far (p := ⟨gb235, 1, none⟩) (Kd.R_far (p := ⟨gb235, 0, none⟩) (Kd.R_types HO232.out BK235.out (by decide)) (fun _ hk => hk.2) (.slice Ao14 t221.length co14)) (fun _ hk => hk.2) (.slice Ao19 t224.length co19)) (fun _ hk => hk.2) (.slice Ao20 t227.length co20)) (fun _ hk => hk.2) (.slice Ao21 t230.length co21)) (fun _ h_ => h_.1))) (by decide)) hk (fun _ h => h.2)) (fun _ h => h.1)); replace BK235 := Aside0.mk (KeepBut.blk hk (g' := gb235) (o := .cells #[.slice Ao14 t221.length co14, .slice Ao19 t224.length co19, .slice Ao20 t227.length co20, .slice Ao21 t230.length co21] 29 (0, 0)) (by refine kq ?_; refine blk_put (cs := #[.slice Ao14 t221.length co14, .slice Ao19 t224.length co19, .slice Ao20 t227.length co20, .slice none 0 0]) ?_ 3 _ rfl; refine kq ?_; refine blk_put (cs := #[.slice Ao14 t221.length co14, .slice Ao19 t224.length co19, .slice none 0 0, .slice none 0 0]) ?_ 2 _ rfl; refine kq ?_; refine blk_put (cs := #[.slice Ao14 t221.length co14, .slice none 0 0, .slice none 0 0, .slice none 0 0]) ?_ 1 _ rfl; refine kq ?_; refine blk_put (cs := #[.slice none 0 0, .slice none 0 0, .slice none 0 0, .slice none 0 0]) ?_ 0 _ rfl; refine kq ?_; exact BK235.out) NB235_220.out (by simp)); replace HB := Aside0.mk (hb); replace HI220 := Aside0.mk (hi); (try clear hb); (try clear hb2); (try clear hk); (try clear hi); obtain ⟨hcz23_0, hcz23_1, hcz23_2, hcz23_3⟩ := cz4 BK235.out; obtain ⟨hfz23_0, hfz23_1, hfz23_2, hfz23_3⟩ := fz4 BK235.out) | ((with_reducible refine gate_callee (f := 40) rfl ?_); refine goesL_ (some 23) rfl rfl Tryd.func40 (by kernel_rfl) rfl #[.pointer (some ⟨g220, 0, none⟩), .int .i64 (wrap64 ((t221.length : Int) + 3))] rfl lz ?_; (with_reducible refine (spec_l1Below.calls g220 t217 t237 t238 (wrap64 ((t221.length : Int) + 3)) t239 t240 t241 w _ ?side1 ?side2 A6.out).mono ?_); (case side1 => repeat (first | (with_reducible first | exact HI220.out | apply IsS120.alloc | apply IsS120.drewN | apply IsS120.drew | apply IsS120.set_1 | apply IsS120.set_2 | apply IsS120.far (p := ⟨gb215, _, none⟩) (hne := NB220_215.out) | apply IsS120.far (p := ⟨gb216, _, none⟩) (hne := NB220_216.out) | apply IsS120.far (p := ⟨gb235, _, none⟩) (hne := NB220_235.out)) | exact HI220.out)); (case side2 => repeat (first | (with_reducible first | exact HB.out | apply below_alloc | apply pw_below_drewN | apply below_drew1 | refine below_set ?_ (IsS120.ge HI220.out) | refine below_set ?_ GE215.out | refine below_set ?_ GE216.out | refine below_set ?_ GE235.out) | exact HB.out)); rintro e w24 ⟨rfl, hi, hb, hk⟩; refine ⟨_, rfl, ?_⟩; replace BK215 := Aside0.mk (KeepBut.blk hk (g' := gb215) (o := .cells #[.slice none 0 0, .slice none 0 0, .slice none 0 0, .slice none 0 0] 29 (0, 0)) (kz BK215.out) NB215_220.out (by simp)); replace BK216 := Aside0.mk (KeepBut.blk hk (g' := gb216) (o := .cells #[.int .i64 0, .int .i64 0] 31 (0, 0)) (kz BK216.out) NB216_220.out (by simp)); replace HO223 := Aside0.mk (Kd.R_mono (Kd.R_keep (IsS120.apart (show IsS120 w _ g220 t217 t237 t238 from by repeat (first | (with_reducible first | exact HI220.out | apply IsS120.alloc | apply IsS120.drewN | apply IsS120.drew | apply IsS120.set_1 | apply IsS120.set_2 | apply IsS120.far (p := ⟨gb215, _, none⟩) (hne := NB220_215.out) | apply IsS120.far (p := ⟨gb216, _, none⟩) (hne := NB220_216.out) | apply IsS120.far (p := ⟨gb235, _, none⟩) (hne := NB220_235.out)) | exact HI220.out)) (rz HO223.out) (by decide)) hk (fun _ h => h.2)) (fun _ h => h.1)); replace HO226 := Aside0.mk (Kd.R_mono (Kd.R_keep (IsS120.apart (show IsS120 w _ g220 t217 t237 t238 from by repeat (first | (with_reducible first | exact HI220.out | apply IsS120.alloc | apply IsS120.drewN | apply IsS120.drew | apply IsS120.set_1 | apply IsS120.set_2 | apply IsS120.far (p := ⟨gb215, _, none⟩) (hne := NB220_215.out) | apply IsS120.far (p := ⟨gb216, _, none⟩) (hne := NB220_216.out) | apply IsS120.far (p := ⟨gb235, _, none⟩) (hne := NB220_235.out)) | exact HI220.out)) (rz HO226.out) (by decide)) hk (fun _ h => h.2)) (fun _ h => h.1)); replace HO229 := Aside0.mk (Kd.R_mono (Kd.R_keep (IsS120.apart (show IsS120 w _ g220 t217 t237 t238 from by repeat (first | (with_reducible first | exact HI220.out | apply IsS120.alloc | apply IsS120.drewN | apply IsS120.drew | apply IsS120.set_1 | apply IsS120.set_2 | apply IsS120.far (p := ⟨gb215, _, none⟩) (hne := NB220_215.out) | apply IsS120.far (p := ⟨gb216, _, none⟩) (hne := NB220_216.out) | apply IsS120.far (p := ⟨gb235, _, none⟩) (hne := NB220_235.out)) | exact HI220.out)) (rz HO229.out) (by decide)) hk (fun _ h => h.2)) (fun _ h => h.1)); replace HO232 := Aside0.mk (Kd.R_mono (Kd.R_keep (IsS120.apart (show IsS120 w _ g220 t217 t237 t238 from by repeat (first | (with_reducible first | exact HI220.out | apply IsS120.alloc | apply IsS120.drewN | apply IsS120.drew | apply IsS120.set_1 | apply IsS120.set_2 | apply IsS120.far (p := ⟨gb215, _, none⟩) (hne := NB220_215.out) | apply IsS120.far (p := ⟨gb216, _, none⟩) (hne := NB220_216.out) | apply IsS120.far (p := ⟨gb235, _, none⟩) (hne := NB220_235.out)) | exact HI220.out)) (rz HO232.out) (by decide)) hk (fun _ h => h.2)) (fun _ h => h.1)); replace BK235 := Aside0.mk (KeepBut.blk hk (g' := gb235) (o := .cells #[.slice Ao14 t221.length co14, .slice Ao19 t224.length co19, .slice Ao20 t227.length co20, .slice Ao21 t230.length co21] 29 (0, 0)) (kz BK235.out) NB235_220.out (by simp)); replace HB := Aside0.mk (hb); replace HI220 := Aside0.mk (hi); (try clear hb); (try clear hb2); (try clear hk); (try clear hi)))
  have n0_ := Aside0.mk (Kd.R_drew HO223.out)
  have n1_ := Aside0.mk (Kd.R_drew HO226.out)
  have n2_ := Aside0.mk (Kd.R_drew HO229.out)
  have n3_ := Aside0.mk (Kd.R_drew HO232.out)
  have n4_ := Aside0.mk (blk_drew BK215.out)
  have n5_ := Aside0.mk (blk_drew BK216.out)
  have n6_ := Aside0.mk (blk_drew BK235.out)
  have n7_ := Aside0.mk (IsS120.drew HI220.out)
  have n8_ := Aside0.mk (below_drew1 HB.out)
  clear HO223
  clear HO226
  clear HO229
  clear HO232
  clear BK215
  clear BK216
  clear BK235
  clear HI220
  clear HB
  have HO223 := n0_
  have HO226 := n1_
  have HO229 := n2_
  have HO232 := n3_
  have BK215 := n4_
  have BK216 := n5_
  have BK235 := n6_
  have HI220 := n7_
  have HB := n8_
  clear n0_ n1_ n2_ n3_ n4_ n5_ n6_ n7_ n8_
  refine start_ (n := 10) (S := fun w' => w'.cell? ⟨gb235, 0, none⟩ = some (.slice Ao14 t221.length co14) /\ w'.cell? ⟨gb235, 1, none⟩ = some (.slice Ao19 t224.length co19) /\ w'.cell? ⟨gb235, 2, none⟩ = some (.slice Ao20 t227.length co20) /\ w'.cell? ⟨gb235, 3, none⟩ = some (.slice Ao21 t230.length co21)) (ds := []) (mk_ 0 10) (by kernel_rfl) rfl rfl ⟨(blk_cell BK235.out 0).trans rfl, (blk_cell BK235.out 1).trans rfl, (blk_cell BK235.out 2).trans rfl, (blk_cell BK235.out 3).trans rfl⟩ (fun hHeld => ?_); refine with_tabW spec_DrawLookUp.tab6 spec_DrawLookUp.bits6 (fun HT_ HW_ => ?_)
  generalize w24.drew = w25 at HO223 HO226 HO229 HO232 BK215 BK216 BK235 HI220 HB hHeld ⊢
  refine pv 1 26 (bm_ 10 2) HT_ rfl rfl ?_
  refine pv 2 27 (bm_ 10 6) HT_ rfl rfl ?_
  refine pv 4 29 (bm_ 10 22) HT_ rfl rfl ?_
  refine tv4 0 25 (bm_ 10 23) HT_ HW_ rfl rfl hHeld ?_
  refine one_ (i := 3) (N := some 28) (mk_ 5 5) rfl rfl (one_of HT_.out (by kernel_rfl)) (by decide) (fun K hK => ?_)
  refine goes_ Tryd.func40 (by kernel_rfl) rfl #[.pointer (some ⟨g220, 0, none⟩), .int .i64 4] (by rfl) rfl rfl lz ?_
  with_reducible refine (spec_l1Below.calls g220 t217 t240 t241 4 t242 t243 t244 w _ ?side1 ?side2 A7.out).mono ?_
  (case side1 => repeat (first | (with_reducible first | exact HI220.out | apply IsS120.alloc | apply IsS120.drewN | apply IsS120.drew | apply IsS120.set_1 | apply IsS120.set_2 | apply IsS120.far (p := ⟨gb215, _, none⟩) (hne := NB220_215.out) | apply IsS120.far (p := ⟨gb216, _, none⟩) (hne := NB220_216.out) | apply IsS120.far (p := ⟨gb235, _, none⟩) (hne := NB220_235.out)) | exact HI220.out))
  (case side2 => repeat (first | (with_reducible first | exact HB.out | apply below_alloc | apply pw_below_drewN | apply below_drew1 | refine below_set ?_ (IsS120.ge HI220.out) | refine below_set ?_ GE215.out | refine below_set ?_ GE216.out | refine below_set ?_ GE235.out) | exact HB.out))
  rintro e w26 ⟨rfl, hi, hb, hk⟩
  refine ⟨_, rfl, ?_⟩
  have n0_ := Aside0.mk (KeepBut.blk hk (g' := gb215) (o := .cells #[.slice none 0 0, .slice none 0 0, .slice none 0 0, .slice none 0 0] 29 (0, 0)) (kz BK215.out) NB215_220.out (by simp))
  have n1_ := Aside0.mk (KeepBut.blk hk (g' := gb216) (o := .cells #[.int .i64 0, .int .i64 0] 31 (0, 0)) (kz BK216.out) NB216_220.out (by simp))
  have n2_ := Aside0.mk (Kd.R_mono (Kd.R_keep (IsS120.apart (show IsS120 w _ g220 t217 t240 t241 from by repeat (first | (with_reducible first | exact HI220.out | apply IsS120.alloc | apply IsS120.drewN | apply IsS120.drew | apply IsS120.set_1 | apply IsS120.set_2 | apply IsS120.far (p := ⟨gb215, _, none⟩) (hne := NB220_215.out) | apply IsS120.far (p := ⟨gb216, _, none⟩) (hne := NB220_216.out) | apply IsS120.far (p := ⟨gb235, _, none⟩) (hne := NB220_235.out)) | exact HI220.out)) (rz HO223.out) (by decide)) hk (fun _ h => h.2)) (fun _ h => h.1))
  have n3_ := Aside0.mk (Kd.R_mono (Kd.R_keep (IsS120.apart (show IsS120 w _ g220 t217 t240 t241 from by repeat (first | (with_reducible first | exact HI220.out | apply IsS120.alloc | apply IsS120.drewN | apply IsS120.drew | apply IsS120.set_1 | apply IsS120.set_2 | apply IsS120.far (p := ⟨gb215, _, none⟩) (hne := NB220_215.out) | apply IsS120.far (p := ⟨gb216, _, none⟩) (hne := NB220_216.out) | apply IsS120.far (p := ⟨gb235, _, none⟩) (hne := NB220_235.out)) | exact HI220.out)) (rz HO226.out) (by decide)) hk (fun _ h => h.2)) (fun _ h => h.1))
  have n4_ := Aside0.mk (Kd.R_mono (Kd.R_keep (IsS120.apart (show IsS120 w _ g220 t217 t240 t241 from by repeat (first | (with_reducible first | exact HI220.out | apply IsS120.alloc | apply IsS120.drewN | apply IsS120.drew | apply IsS120.set_1 | apply IsS120.set_2 | apply IsS120.far (p := ⟨gb215, _, none⟩) (hne := NB220_215.out) | apply IsS120.far (p := ⟨gb216, _, none⟩) (hne := NB220_216.out) | apply IsS120.far (p := ⟨gb235, _, none⟩) (hne := NB220_235.out)) | exact HI220.out)) (rz HO229.out) (by decide)) hk (fun _ h => h.2)) (fun _ h => h.1))
  have n5_ := Aside0.mk (Kd.R_mono (Kd.R_keep (IsS120.apart (show IsS120 w _ g220 t217 t240 t241 from by repeat (first | (with_reducible first | exact HI220.out | apply IsS120.alloc | apply IsS120.drewN | apply IsS120.drew | apply IsS120.set_1 | apply IsS120.set_2 | apply IsS120.far (p := ⟨gb215, _, none⟩) (hne := NB220_215.out) | apply IsS120.far (p := ⟨gb216, _, none⟩) (hne := NB220_216.out) | apply IsS120.far (p := ⟨gb235, _, none⟩) (hne := NB220_235.out)) | exact HI220.out)) (rz HO232.out) (by decide)) hk (fun _ h => h.2)) (fun _ h => h.1))
  have n6_ := Aside0.mk (KeepBut.blk hk (g' := gb235) (o := .cells #[.slice Ao14 t221.length co14, .slice Ao19 t224.length co19, .slice Ao20 t227.length co20, .slice Ao21 t230.length co21] 29 (0, 0)) (kz BK235.out) NB235_220.out (by simp))
  have n7_ := Aside0.mk (hb)
  have n8_ := Aside0.mk (hi)
  clear BK215
  clear BK216
  clear HO223
  clear HO226
  clear HO229
  clear HO232
  clear BK235
  clear HB
  clear HI220
  have BK215 := n0_
  have BK216 := n1_
  have HO223 := n2_
  have HO226 := n3_
  have HO229 := n4_
  have HO232 := n5_
  have BK235 := n6_
  have HB := n7_
  have HI220 := n8_
  clear n0_ n1_ n2_ n3_ n4_ n5_ n6_ n7_ n8_
  (try clear hb)
  (try clear hb2)
  (try clear hk)
  (try clear hi)
  refine hK.out _ _ ⟨(blk_cell BK235.out 0).trans rfl, (blk_cell BK235.out 1).trans rfl, (blk_cell BK235.out 2).trans rfl, (blk_cell BK235.out 3).trans rfl⟩ (fun hHeld => ?_)
  clear hK K
  refine norm_ (a' := ?_) ?_ ?_
  rotate_left
  ·show Act.put _ (some 28) _ = _
   simp only [Act.put, sz1, sz2, sz3, i64_w, i32_w]
   rfl
  refine one_ (i := 5) (N := some 30) (mk_ 6 4) rfl rfl (one_of HT_.out (by kernel_rfl)) (by decide) (fun K hK => ?_)
  refine goes_ Tryd.func40 (by kernel_rfl) rfl #[.pointer (some ⟨g220, 0, none⟩), .int .i64 2] (by rfl) rfl rfl lz ?_
  with_reducible refine (spec_l1Below.calls g220 t217 t243 t244 2 t245 t246 t247 w _ ?side1 ?side2 A8.out).mono ?_
  (case side1 => repeat (first | (with_reducible first | exact HI220.out | apply IsS120.alloc | apply IsS120.drewN | apply IsS120.drew | apply IsS120.set_1 | apply IsS120.set_2 | apply IsS120.far (p := ⟨gb215, _, none⟩) (hne := NB220_215.out) | apply IsS120.far (p := ⟨gb216, _, none⟩) (hne := NB220_216.out) | apply IsS120.far (p := ⟨gb235, _, none⟩) (hne := NB220_235.out)) | exact HI220.out))
  (case side2 => repeat (first | (with_reducible first | exact HB.out | apply below_alloc | apply pw_below_drewN | apply below_drew1 | refine below_set ?_ (IsS120.ge HI220.out) | refine below_set ?_ GE215.out | refine below_set ?_ GE216.out | refine below_set ?_ GE235.out) | exact HB.out))
  rintro e w27 ⟨rfl, hi, hb, hk⟩
  refine ⟨_, rfl, ?_⟩
  have n0_ := Aside0.mk (KeepBut.blk hk (g' := gb215) (o := .cells #[.slice none 0 0, .slice none 0 0, .slice none 0 0, .slice none 0 0] 29 (0, 0)) (kz BK215.out) NB215_220.out (by simp))
  have n1_ := Aside0.mk (KeepBut.blk hk (g' := gb216) (o := .cells #[.int .i64 0, .int .i64 0] 31 (0, 0)) (kz BK216.out) NB216_220.out (by simp))
  have n2_ := Aside0.mk (Kd.R_mono (Kd.R_keep (IsS120.apart (show IsS120 w _ g220 t217 t243 t244 from by repeat (first | (with_reducible first | exact HI220.out | apply IsS120.alloc | apply IsS120.drewN | apply IsS120.drew | apply IsS120.set_1 | apply IsS120.set_2 | apply IsS120.far (p := ⟨gb215, _, none⟩) (hne := NB220_215.out) | apply IsS120.far (p := ⟨gb216, _, none⟩) (hne := NB220_216.out) | apply IsS120.far (p := ⟨gb235, _, none⟩) (hne := NB220_235.out)) | exact HI220.out)) (rz HO223.out) (by decide)) hk (fun _ h => h.2)) (fun _ h => h.1))
  have n3_ := Aside0.mk (Kd.R_mono (Kd.R_keep (IsS120.apart (show IsS120 w _ g220 t217 t243 t244 from by repeat (first | (with_reducible first | exact HI220.out | apply IsS120.alloc | apply IsS120.drewN | apply IsS120.drew | apply IsS120.set_1 | apply IsS120.set_2 | apply IsS120.far (p := ⟨gb215, _, none⟩) (hne := NB220_215.out) | apply IsS120.far (p := ⟨gb216, _, none⟩) (hne := NB220_216.out) | apply IsS120.far (p := ⟨gb235, _, none⟩) (hne := NB220_235.out)) | exact HI220.out)) (rz HO226.out) (by decide)) hk (fun _ h => h.2)) (fun _ h => h.1))
  have n4_ := Aside0.mk (Kd.R_mono (Kd.R_keep (IsS120.apart (show IsS120 w _ g220 t217 t243 t244 from by repeat (first | (with_reducible first | exact HI220.out | apply IsS120.alloc | apply IsS120.drewN | apply IsS120.drew | apply IsS120.set_1 | apply IsS120.set_2 | apply IsS120.far (p := ⟨gb215, _, none⟩) (hne := NB220_215.out) | apply IsS120.far (p := ⟨gb216, _, none⟩) (hne := NB220_216.out) | apply IsS120.far (p := ⟨gb235, _, none⟩) (hne := NB220_235.out)) | exact HI220.out)) (rz HO229.out) (by decide)) hk (fun _ h => h.2)) (fun _ h => h.1))
  have n5_ := Aside0.mk (Kd.R_mono (Kd.R_keep (IsS120.apart (show IsS120 w _ g220 t217 t243 t244 from by repeat (first | (with_reducible first | exact HI220.out | apply IsS120.alloc | apply IsS120.drewN | apply IsS120.drew | apply IsS120.set_1 | apply IsS120.set_2 | apply IsS120.far (p := ⟨gb215, _, none⟩) (hne := NB220_215.out) | apply IsS120.far (p := ⟨gb216, _, none⟩) (hne := NB220_216.out) | apply IsS120.far (p := ⟨gb235, _, none⟩) (hne := NB220_235.out)) | exact HI220.out)) (rz HO232.out) (by decide)) hk (fun _ h => h.2)) (fun _ h => h.1))
  have n6_ := Aside0.mk (KeepBut.blk hk (g' := gb235) (o := .cells #[.slice Ao14 t221.length co14, .slice Ao19 t224.length co19, .slice Ao20 t227.length co20, .slice Ao21 t230.length co21] 29 (0, 0)) (kz BK235.out) NB235_220.out (by simp))
  have n7_ := Aside0.mk (hb)
  have n8_ := Aside0.mk (hi)
  clear BK215
  clear BK216
  clear HO223
  clear HO226
  clear HO229
  clear HO232
  clear BK235
  clear HB
  clear HI220
  have BK215 := n0_
  have BK216 := n1_
  have HO223 := n2_
  have HO226 := n3_
  have HO229 := n4_
  have HO232 := n5_
  have BK235 := n6_
  have HB := n7_
  have HI220 := n8_
  clear n0_ n1_ n2_ n3_ n4_ n5_ n6_ n7_ n8_
  (try clear hb)
  (try clear hb2)
  (try clear hk)
  (try clear hi)
  refine hK.out _ _ ⟨(blk_cell BK235.out 0).trans rfl, (blk_cell BK235.out 1).trans rfl, (blk_cell BK235.out 2).trans rfl, (blk_cell BK235.out 3).trans rfl⟩ (fun hHeld => ?_)
  clear hK K
  refine norm_ (a' := ?_) ?_ ?_
  rotate_left
  ·show Act.put _ (some 30) _ = _
   simp only [Act.put, sz1, sz2, sz3, i64_w, i32_w]
   rfl
  refine pv 6 31 (mk_ 7 3) HT_ rfl rfl ?_
  refine one_ (i := 7) (N := none) (mk_ 8 2) rfl rfl (one_of HT_.out (by kernel_rfl)) (by decide) (fun K hK => ?_)
  have hs28 : w27.cell? ⟨gb215, 0, none⟩ = some (.slice none 0 0) := (blk_cell BK215.out 0).trans rfl
  have hfs28 := blk_frozen BK215.out 0
  have hns28_1 := NB216_215.out
  have hns28_2 := NB235_215.out
  have hms28_1 := NB215_216.out
  have hms28_2 := NB215_235.out
  have hs29 : w27.cell? ⟨gb215, 1, none⟩ = some (.slice none 0 0) := (blk_cell BK215.out 1).trans rfl
  have hfs29 := blk_frozen BK215.out 1
  have hns29_1 := NB216_215.out
  have hns29_2 := NB235_215.out
  have hms29_1 := NB215_216.out
  have hms29_2 := NB215_235.out
  have hs30 : w27.cell? ⟨gb215, 2, none⟩ = some (.slice none 0 0) := (blk_cell BK215.out 2).trans rfl
  have hfs30 := blk_frozen BK215.out 2
  have hns30_1 := NB216_215.out
  have hns30_2 := NB235_215.out
  have hms30_1 := NB215_216.out
  have hms30_2 := NB215_235.out
  have hs31 : w27.cell? ⟨gb215, 3, none⟩ = some (.slice none 0 0) := (blk_cell BK215.out 3).trans rfl
  have hfs31 := blk_frozen BK215.out 3
  have hns31_1 := NB216_215.out
  have hns31_2 := NB235_215.out
  have hms31_1 := NB215_216.out
  have hms31_2 := NB215_235.out
  refine skip_ (w1 := ?_) (by rfl) rfl ?_ ?_
  rotate_left
  ·go_simp
   rfl
  refine hK.out _ _ ⟨((cell_far (p := ⟨gb215, _, none⟩) NB235_215.out _).trans (((cell_far (p := ⟨gb215, _, none⟩) NB235_215.out _).trans (((cell_far (p := ⟨gb215, _, none⟩) NB235_215.out _).trans (((cell_far (p := ⟨gb215, _, none⟩) NB235_215.out _).trans (hHeld.1)))))))), ((cell_far (p := ⟨gb215, _, none⟩) NB235_215.out _).trans (((cell_far (p := ⟨gb215, _, none⟩) NB235_215.out _).trans (((cell_far (p := ⟨gb215, _, none⟩) NB235_215.out _).trans (((cell_far (p := ⟨gb215, _, none⟩) NB235_215.out _).trans (hHeld.2.1)))))))), ((cell_far (p := ⟨gb215, _, none⟩) NB235_215.out _).trans (((cell_far (p := ⟨gb215, _, none⟩) NB235_215.out _).trans (((cell_far (p := ⟨gb215, _, none⟩) NB235_215.out _).trans (((cell_far (p := ⟨gb215, _, none⟩) NB235_215.out _).trans (hHeld.2.2.1)))))))), ((cell_far (p := ⟨gb215, _, none⟩) NB235_215.out _).trans (((cell_far (p := ⟨gb215, _, none⟩) NB235_215.out _).trans (((cell_far (p := ⟨gb215, _, none⟩) NB235_215.out _).trans (((cell_far (p := ⟨gb215, _, none⟩) NB235_215.out _).trans (hHeld.2.2.2))))))))⟩ (fun hHeld => ?_)
  clear hK K
  refine pv 8 3 (mk_ 9 1) HT_ rfl rfl ?_
  refine one_ (i := 9) (N := none) (mk_ 10 0) rfl rfl (one_of HT_.out (by kernel_rfl)) (by decide) (fun K hK => ?_)
  have hs32 : w27.cell? ⟨gb216, 0, none⟩ = some (.int .i64 0) := (blk_cell BK216.out 0).trans rfl
  have hfs32 := blk_frozen BK216.out 0
  have hns32_0 := NB215_216.out
  have hns32_2 := NB235_216.out
  have hms32_0 := NB216_215.out
  have hms32_2 := NB216_235.out
  have hs33 : w27.cell? ⟨gb216, 1, none⟩ = some (.int .i64 0) := (blk_cell BK216.out 1).trans rfl
  have hfs33 := blk_frozen BK216.out 1
  have hns33_0 := NB215_216.out
  have hns33_2 := NB235_216.out
  have hms33_0 := NB216_215.out
  have hms33_2 := NB216_235.out
  refine skip_ (w1 := ?_) (by rfl) rfl ?_ ?_
  rotate_left
  ·go_simp
   rfl
  refine hK.out _ _ ⟨((cell_far (p := ⟨gb216, _, none⟩) NB235_216.out _).trans (((cell_far (p := ⟨gb216, _, none⟩) NB235_216.out _).trans (hHeld.1)))), ((cell_far (p := ⟨gb216, _, none⟩) NB235_216.out _).trans (((cell_far (p := ⟨gb216, _, none⟩) NB235_216.out _).trans (hHeld.2.1)))), ((cell_far (p := ⟨gb216, _, none⟩) NB235_216.out _).trans (((cell_far (p := ⟨gb216, _, none⟩) NB235_216.out _).trans (hHeld.2.2.1)))), ((cell_far (p := ⟨gb216, _, none⟩) NB235_216.out _).trans (((cell_far (p := ⟨gb216, _, none⟩) NB235_216.out _).trans (hHeld.2.2.2))))⟩ (fun hHeld => ?_)
  clear hK K
  refine done_ (done_of HT_.out (by kernel_rfl)) ?_
  try go_wp2
  refine bodyPost_ret (results_list (rs := [.cell 2 29, .tmp 3, .cell 4 31]) rfl (by simp) (.cell gb215 29 #[.slice Ao14 t221.length co14, .slice Ao19 t224.length co19, .slice Ao20 t227.length co20, .slice Ao21 t230.length co21] (0, 0) _ rfl (by refine kq ?_; refine blk_far ?_ NB215_216.out _; refine kq ?_; refine blk_far ?_ NB215_216.out _; refine kq ?_; refine blk_put (cs := #[.slice Ao14 t221.length co14, .slice Ao19 t224.length co19, .slice Ao20 t227.length co20, .slice none 0 0]) ?_ 3 _ rfl; refine kq ?_; refine blk_put (cs := #[.slice Ao14 t221.length co14, .slice Ao19 t224.length co19, .slice none 0 0, .slice none 0 0]) ?_ 2 _ rfl; refine kq ?_; refine blk_put (cs := #[.slice Ao14 t221.length co14, .slice none 0 0, .slice none 0 0, .slice none 0 0]) ?_ 1 _ rfl; refine kq ?_; refine blk_put (cs := #[.slice none 0 0, .slice none 0 0, .slice none 0 0, .slice none 0 0]) ?_ 0 _ rfl; refine kq ?_; exact BK215.out) Tryd.underlying29 rfl (by kernel_rfl) (.tmp (.cell gb216 31 #[.int .i64 t242, .int .i64 t245] (0, 0) _ rfl (by refine kq ?_; refine blk_put (cs := #[.int .i64 t242, .int .i64 0]) ?_ 1 _ rfl; refine kq ?_; refine blk_put (cs := #[.int .i64 0, .int .i64 0]) ?_ 0 _ rfl; refine kq ?_; refine blk_far ?_ NB216_215.out _; refine kq ?_; refine blk_far ?_ NB216_215.out _; refine kq ?_; refine blk_far ?_ NB216_215.out _; refine kq ?_; refine blk_far ?_ NB216_215.out _; refine kq ?_; exact BK216.out) Tryd.underlying31 rfl (by kernel_rfl) .nil)))) rfl ?_
  exact ⟨_, _, _, _, gz, by refine rq ?_; first | (with_reducible exact Kd.R_mono (Kd.R_far (p := ⟨gb216, 1, none⟩) (Kd.R_far (p := ⟨gb216, 0, none⟩) (Kd.R_far (p := ⟨gb215, 3, none⟩) (Kd.R_far (p := ⟨gb215, 2, none⟩) (Kd.R_far (p := ⟨gb215, 1, none⟩) (Kd.R_far (p := ⟨gb215, 0, none⟩) (Kd.R_types (Kd.R_types HO223.out BK215.out (by decide)) BK216.out (by decide)) (fun _ hk => hk.1.2) (.slice Ao14 t221.length co14)) (fun _ hk => hk.1.2) (.slice Ao19 t224.length co19)) (fun _ hk => hk.1.2) (.slice Ao20 t227.length co20)) (fun _ hk => hk.1.2) (.slice Ao21 t230.length co21)) (fun _ hk => hk.2) (.int .i64 t242)) (fun _ hk => hk.2) (.int .i64 t245)) (fun _ hk => trivial)) | (with_reducible exact Kd.R_mono (Kd.R_far (p := ⟨gb216, 1, none⟩) (Kd.R_drewN (Kd.R_far (p := ⟨gb216, 0, none⟩) (Kd.R_far (p := ⟨gb215, 3, none⟩) (Kd.R_far (p := ⟨gb215, 2, none⟩) (Kd.R_far (p := ⟨gb215, 1, none⟩) (Kd.R_far (p := ⟨gb215, 0, none⟩) (Kd.R_types (Kd.R_types HO223.out BK215.out (by decide)) BK216.out (by decide)) (fun _ hk => hk.1.2) (.slice Ao14 t221.length co14)) (fun _ hk => hk.1.2) (.slice Ao19 t224.length co19)) (fun _ hk => hk.1.2) (.slice Ao20 t227.length co20)) (fun _ hk => hk.1.2) (.slice Ao21 t230.length co21)) (fun _ hk => hk.2) (.int .i64 t242)) _) (fun _ hk => hk.2) (.int .i64 t245)) (fun _ hk => trivial)) | exact Kd.R_mono (Kd.R_far (p := ⟨gb216, 1, none⟩) (Kd.R_drewN (Kd.R_far (p := ⟨gb216, 0, none⟩) (Kd.R_far (p := ⟨gb215, 3, none⟩) (Kd.R_far (p := ⟨gb215, 2, none⟩) (Kd.R_far (p := ⟨gb215, 1, none⟩) (Kd.R_far (p := ⟨gb215, 0, none⟩) (Kd.R_types (Kd.R_types HO223.out BK215.out (by decide)) BK216.out (by decide)) (fun _ hk => hk.1.2) (.slice Ao14 t221.length co14)) (fun _ hk => hk.1.2) (.slice Ao19 t224.length co19)) (fun _ hk => hk.1.2) (.slice Ao20 t227.length co20)) (fun _ hk => hk.1.2) (.slice Ao21 t230.length co21)) (fun _ hk => hk.2) (.int .i64 t242)) _) (fun _ hk => hk.2) (.int .i64 t245)) (fun _ hk => trivial), by refine rq ?_; first | (with_reducible exact Kd.R_mono (Kd.R_far (p := ⟨gb216, 1, none⟩) (Kd.R_far (p := ⟨gb216, 0, none⟩) (Kd.R_far (p := ⟨gb215, 3, none⟩) (Kd.R_far (p := ⟨gb215, 2, none⟩) (Kd.R_far (p := ⟨gb215, 1, none⟩) (Kd.R_far (p := ⟨gb215, 0, none⟩) (Kd.R_types (Kd.R_types HO226.out BK215.out (by decide)) BK216.out (by decide)) (fun _ hk => hk.1.2) (.slice Ao14 t221.length co14)) (fun _ hk => hk.1.2) (.slice Ao19 t224.length co19)) (fun _ hk => hk.1.2) (.slice Ao20 t227.length co20)) (fun _ hk => hk.1.2) (.slice Ao21 t230.length co21)) (fun _ hk => hk.2) (.int .i64 t242)) (fun _ hk => hk.2) (.int .i64 t245)) (fun _ hk => trivial)) | (with_reducible exact Kd.R_mono (Kd.R_far (p := ⟨gb216, 1, none⟩) (Kd.R_drewN (Kd.R_far (p := ⟨gb216, 0, none⟩) (Kd.R_far (p := ⟨gb215, 3, none⟩) (Kd.R_far (p := ⟨gb215, 2, none⟩) (Kd.R_far (p := ⟨gb215, 1, none⟩) (Kd.R_far (p := ⟨gb215, 0, none⟩) (Kd.R_types (Kd.R_types HO226.out BK215.out (by decide)) BK216.out (by decide)) (fun _ hk => hk.1.2) (.slice Ao14 t221.length co14)) (fun _ hk => hk.1.2) (.slice Ao19 t224.length co19)) (fun _ hk => hk.1.2) (.slice Ao20 t227.length co20)) (fun _ hk => hk.1.2) (.slice Ao21 t230.length co21)) (fun _ hk => hk.2) (.int .i64 t242)) _) (fun _ hk => hk.2) (.int .i64 t245)) (fun _ hk => trivial)) | exact Kd.R_mono (Kd.R_far (p := ⟨gb216, 1, none⟩) (Kd.R_drewN (Kd.R_far (p := ⟨gb216, 0, none⟩) (Kd.R_far (p := ⟨gb215, 3, none⟩) (Kd.R_far (p := ⟨gb215, 2, none⟩) (Kd.R_far (p := ⟨gb215, 1, none⟩) (Kd.R_far (p := ⟨gb215, 0, none⟩) (Kd.R_types (Kd.R_types HO226.out BK215.out (by decide)) BK216.out (by decide)) (fun _ hk => hk.1.2) (.slice Ao14 t221.length co14)) (fun _ hk => hk.1.2) (.slice Ao19 t224.length co19)) (fun _ hk => hk.1.2) (.slice Ao20 t227.length co20)) (fun _ hk => hk.1.2) (.slice Ao21 t230.length co21)) (fun _ hk => hk.2) (.int .i64 t242)) _) (fun _ hk => hk.2) (.int .i64 t245)) (fun _ hk => trivial), by refine rq ?_; first | (with_reducible exact Kd.R_mono (Kd.R_far (p := ⟨gb216, 1, none⟩) (Kd.R_far (p := ⟨gb216, 0, none⟩) (Kd.R_far (p := ⟨gb215, 3, none⟩) (Kd.R_far (p := ⟨gb215, 2, none⟩) (Kd.R_far (p := ⟨gb215, 1, none⟩) (Kd.R_far (p := ⟨gb215, 0, none⟩) (Kd.R_types (Kd.R_types HO229.out BK215.out (by decide)) BK216.out (by decide)) (fun _ hk => hk.1.2) (.slice Ao14 t221.length co14)) (fun _ hk => hk.1.2) (.slice Ao19 t224.length co19)) (fun _ hk => hk.1.2) (.slice Ao20 t227.length co20)) (fun _ hk => hk.1.2) (.slice Ao21 t230.length co21)) (fun _ hk => hk.2) (.int .i64 t242)) (fun _ hk => hk.2) (.int .i64 t245)) (fun _ hk => trivial)) | (with_reducible exact Kd.R_mono (Kd.R_far (p := ⟨gb216, 1, none⟩) (Kd.R_drewN (Kd.R_far (p := ⟨gb216, 0, none⟩) (Kd.R_far (p := ⟨gb215, 3, none⟩) (Kd.R_far (p := ⟨gb215, 2, none⟩) (Kd.R_far (p := ⟨gb215, 1, none⟩) (Kd.R_far (p := ⟨gb215, 0, none⟩) (Kd.R_types (Kd.R_types HO229.out BK215.out (by decide)) BK216.out (by decide)) (fun _ hk => hk.1.2) (.slice Ao14 t221.length co14)) (fun _ hk => hk.1.2) (.slice Ao19 t224.length co19)) (fun _ hk => hk.1.2) (.slice Ao20 t227.length co20)) (fun _ hk => hk.1.2) (.slice Ao21 t230.length co21)) (fun _ hk => hk.2) (.int .i64 t242)) _) (fun _ hk => hk.2) (.int .i64 t245)) (fun _ hk => trivial)) | exact Kd.R_mono (Kd.R_far (p := ⟨gb216, 1, none⟩) (Kd.R_drewN (Kd.R_far (p := ⟨gb216, 0, none⟩) (Kd.R_far (p := ⟨gb215, 3, none⟩) (Kd.R_far (p := ⟨gb215, 2, none⟩) (Kd.R_far (p := ⟨gb215, 1, none⟩) (Kd.R_far (p := ⟨gb215, 0, none⟩) (Kd.R_types (Kd.R_types HO229.out BK215.out (by decide)) BK216.out (by decide)) (fun _ hk => hk.1.2) (.slice Ao14 t221.length co14)) (fun _ hk => hk.1.2) (.slice Ao19 t224.length co19)) (fun _ hk => hk.1.2) (.slice Ao20 t227.length co20)) (fun _ hk => hk.1.2) (.slice Ao21 t230.length co21)) (fun _ hk => hk.2) (.int .i64 t242)) _) (fun _ hk => hk.2) (.int .i64 t245)) (fun _ hk => trivial), by refine rq ?_; first | (with_reducible exact Kd.R_mono (Kd.R_far (p := ⟨gb216, 1, none⟩) (Kd.R_far (p := ⟨gb216, 0, none⟩) (Kd.R_far (p := ⟨gb215, 3, none⟩) (Kd.R_far (p := ⟨gb215, 2, none⟩) (Kd.R_far (p := ⟨gb215, 1, none⟩) (Kd.R_far (p := ⟨gb215, 0, none⟩) (Kd.R_types (Kd.R_types HO232.out BK215.out (by decide)) BK216.out (by decide)) (fun _ hk => hk.1.2) (.slice Ao14 t221.length co14)) (fun _ hk => hk.1.2) (.slice Ao19 t224.length co19)) (fun _ hk => hk.1.2) (.slice Ao20 t227.length co20)) (fun _ hk => hk.1.2) (.slice Ao21 t230.length co21)) (fun _ hk => hk.2) (.int .i64 t242)) (fun _ hk => hk.2) (.int .i64 t245)) (fun _ hk => trivial)) | (with_reducible exact Kd.R_mono (Kd.R_far (p := ⟨gb216, 1, none⟩) (Kd.R_drewN (Kd.R_far (p := ⟨gb216, 0, none⟩) (Kd.R_far (p := ⟨gb215, 3, none⟩) (Kd.R_far (p := ⟨gb215, 2, none⟩) (Kd.R_far (p := ⟨gb215, 1, none⟩) (Kd.R_far (p := ⟨gb215, 0, none⟩) (Kd.R_types (Kd.R_types HO232.out BK215.out (by decide)) BK216.out (by decide)) (fun _ hk => hk.1.2) (.slice Ao14 t221.length co14)) (fun _ hk => hk.1.2) (.slice Ao19 t224.length co19)) (fun _ hk => hk.1.2) (.slice Ao20 t227.length co20)) (fun _ hk => hk.1.2) (.slice Ao21 t230.length co21)) (fun _ hk => hk.2) (.int .i64 t242)) _) (fun _ hk => hk.2) (.int .i64 t245)) (fun _ hk => trivial)) | exact Kd.R_mono (Kd.R_far (p := ⟨gb216, 1, none⟩) (Kd.R_drewN (Kd.R_far (p := ⟨gb216, 0, none⟩) (Kd.R_far (p := ⟨gb215, 3, none⟩) (Kd.R_far (p := ⟨gb215, 2, none⟩) (Kd.R_far (p := ⟨gb215, 1, none⟩) (Kd.R_far (p := ⟨gb215, 0, none⟩) (Kd.R_types (Kd.R_types HO232.out BK215.out (by decide)) BK216.out (by decide)) (fun _ hk => hk.1.2) (.slice Ao14 t221.length co14)) (fun _ hk => hk.1.2) (.slice Ao19 t224.length co19)) (fun _ hk => hk.1.2) (.slice Ao20 t227.length co20)) (fun _ hk => hk.1.2) (.slice Ao21 t230.length co21)) (fun _ hk => hk.2) (.int .i64 t242)) _) (fun _ hk => hk.2) (.int .i64 t245)) (fun _ hk => trivial), by repeat (first | (with_reducible first | exact HB.out | apply below_alloc | apply pw_below_drewN | apply below_drew1 | refine below_set ?_ (IsS120.ge HI220.out) | refine below_set ?_ GE215.out | refine below_set ?_ GE216.out | refine below_set ?_ GE235.out) | exact HB.out)⟩
 ·replace c5 := Bool.eq_false_iff.mpr c5
  subst c5
  have H1 := hq H
  clear H
  have H := H1
  clear H1
  replace H := bi H
  obtain ⟨⟨t248, t249, t250⟩, A340, H⟩ := H
  try dsimp only at H
  have A34 := Aside0.mk A340
  clear A340
  replace H := bi H
  obtain ⟨⟨t251, t252, t253⟩, A350, H⟩ := H
  try dsimp only at H
  have A35 := Aside0.mk A350
  clear A350
  simp only [Option.some.injEq, Prod.mk.injEq] at H
  obtain ⟨rfl, rfl, rfl, rfl, rfl, rfl, rfl⟩ := H
  go_enter Tryd.func10, Tryd.ntmps10
  try go_wp2_with (first | ((with_reducible refine gate_dst (N := 2) rfl ?_); refine box_event ?hg (N := 2) ?hd (cs := #[.slice none 0 0, .slice none 0 0, .slice none 0 0, .slice none 0 0]) (t := 29) ?hr ?_; (case hd => rfl); (case hg => rfl); (case hr => exact vz); intro gb215 hg w36 hbox hb; have BK215 := Aside0.mk (hbox); have GW215 := Aside0.mk ((by rw [hg]; exact (below_size (bz0 HB.out)) : w.heap.size <= gb215)); have GE215 := GW215; replace HB := Aside0.mk (below_step (bz0 HB.out) hb); clear hb hbox hg) | ((with_reducible refine gate_dst (N := 4) rfl ?_); refine box_event ?hg (N := 4) ?hd (cs := #[.int .i64 0, .int .i64 0]) (t := 31) ?hr ?_; (case hd => rfl); (case hg => rfl); (case hr => exact vz); intro gb216 hg w37 hbox hb; have BK216 := Aside0.mk (hbox); have GW216 := Aside0.mk ((by rw [hg]; exact (below_size (bz1 HB.out GE215.out)) : w.heap.size <= gb216)); have GE216 := GW216; replace HB := Aside0.mk (below_step (bz1 HB.out GE215.out) hb); have NB215_216 := Aside0.mk ((by rw [hg]; exact Nat.ne_of_lt (blk_lt (kz BK215.out)) : gb215 ≠ gb216)); have NB216_215 := Aside0.mk ((by rw [hg]; exact Nat.ne_of_gt (blk_lt (kz BK215.out)) : gb216 ≠ gb215)); replace BK215 := Aside0.mk (blk_below (kz BK215.out) hb); clear hb hbox hg) | ((with_reducible refine gate_callee (f := 37) rfl ?_); refine goesL_ (some 9) rfl rfl Tryd.func37 (by kernel_rfl) rfl #[.slice A0 l0.length c0] rfl lz ?_; (with_reducible refine (spec_l1New.calls k _ _ l0 t217 t218 t219 w _ ?side1 ?side2 ?side3 A2.out).mono ?_); (case side1 => repeat (first | (with_reducible first | exact HB.out | apply below_alloc | apply pw_below_drewN | apply below_drew1 | refine below_set ?_ GE215.out | refine below_set ?_ GE216.out) | exact HB.out)); (case side2 => exact HR0.out); (case side3 => exact HC0.out); rintro e w38 ⟨g220, rfl, hi, hb, hb2⟩; refine ⟨_, rfl, ?_⟩; replace HB := Aside0.mk (hb); have HI220 := Aside0.mk (hi); have NB220_215 := Aside0.mk (IsS120.ne_blk hi (blk_below (g := gb215) (o := .cells #[.slice none 0 0, .slice none 0 0, .slice none 0 0, .slice none 0 0] 29 (0, 0)) (kz BK215.out) hb2) (by decide)); have NB215_220 := Aside0.mk (Ne.symm (IsS120.ne_blk hi (blk_below (g := gb215) (o := .cells #[.slice none 0 0, .slice none 0 0, .slice none 0 0, .slice none 0 0] 29 (0, 0)) (kz BK215.out) hb2) (by decide))); replace BK215 := Aside0.mk (blk_below (g := gb215) (o := .cells #[.slice none 0 0, .slice none 0 0, .slice none 0 0, .slice none 0 0] 29 (0, 0)) (kz BK215.out) hb2); have NB220_216 := Aside0.mk (IsS120.ne_blk hi (blk_below (g := gb216) (o := .cells #[.int .i64 0, .int .i64 0] 31 (0, 0)) (kz BK216.out) hb2) (by decide)); have NB216_220 := Aside0.mk (Ne.symm (IsS120.ne_blk hi (blk_below (g := gb216) (o := .cells #[.int .i64 0, .int .i64 0] 31 (0, 0)) (kz BK216.out) hb2) (by decide))); replace BK216 := Aside0.mk (blk_below (g := gb216) (o := .cells #[.int .i64 0, .int .i64 0] 31 (0, 0)) (kz BK216.out) hb2); (try clear hb); (try clear hb2); (try clear hk); (try clear hi)) | ((with_reducible refine gate_callee (f := 38) rfl ?_); refine goesL_ (some 11) rfl rfl Tryd.func38 (by kernel_rfl) rfl #[.pointer (some ⟨g220, 0, none⟩)] rfl lz ?_; (with_reducible refine (spec_l10Heap.calls k g220 t217 t218 t219 t221 t224 t227 t230 t233 t234 w _ ?side1 ?side2 A3.out).mono ?_); (case side1 => repeat (first | (with_reducible first | exact HI220.out | apply IsS120.alloc | apply IsS120.drewN | apply IsS120.drew | apply IsS120.set_1 | apply IsS120.set_2 | apply IsS120.far (p := ⟨gb215, _, none⟩) (hne := NB220_215.out) | apply IsS120.far (p := ⟨gb216, _, none⟩) (hne := NB220_216.out)) | exact HI220.out)); (case side2 => repeat (first | (with_reducible first | exact HB.out | apply below_alloc | apply pw_below_drewN | apply below_drew1 | refine below_set ?_ (IsS120.ge HI220.out) | refine below_set ?_ GE215.out | refine below_set ?_ GE216.out) | exact HB.out)); rintro e w39 ⟨v222, v225, v228, v231, rfl, ho0, ho1, ho2, ho3, hi, hb, hk⟩; refine ⟨_, rfl, ?_⟩; replace BK215 := Aside0.mk (KeepBut.blk hk (g' := gb215) (o := .cells #[.slice none 0 0, .slice none 0 0, .slice none 0 0, .slice none 0 0] 29 (0, 0)) (kz BK215.out) NB215_220.out (by simp)); replace BK216 := Aside0.mk (KeepBut.blk hk (g' := gb216) (o := .cells #[.int .i64 0, .int .i64 0] 31 (0, 0)) (kz BK216.out) NB216_220.out (by simp)); have HO223 := Aside0.mk (Kd.R_lower ho0 (below_size (by repeat (first | (with_reducible first | exact HB.out | apply below_alloc | apply pw_below_drewN | apply below_drew1 | refine below_set ?_ (IsS120.ge HI220.out) | refine below_set ?_ GE215.out | refine below_set ?_ GE216.out) | exact HB.out)))); have HO226 := Aside0.mk (Kd.R_lower ho1 (below_size (by repeat (first | (with_reducible first | exact HB.out | apply below_alloc | apply pw_below_drewN | apply below_drew1 | refine below_set ?_ (IsS120.ge HI220.out) | refine below_set ?_ GE215.out | refine below_set ?_ GE216.out) | exact HB.out)))); have HO229 := Aside0.mk (Kd.R_lower ho2 (below_size (by repeat (first | (with_reducible first | exact HB.out | apply below_alloc | apply pw_below_drewN | apply below_drew1 | refine below_set ?_ (IsS120.ge HI220.out) | refine below_set ?_ GE215.out | refine below_set ?_ GE216.out) | exact HB.out)))); have HO232 := Aside0.mk (Kd.R_lower ho3 (below_size (by repeat (first | (with_reducible first | exact HB.out | apply below_alloc | apply pw_below_drewN | apply below_drew1 | refine below_set ?_ (IsS120.ge HI220.out) | refine below_set ?_ GE215.out | refine below_set ?_ GE216.out) | exact HB.out)))); replace HB := Aside0.mk (hb); replace HI220 := Aside0.mk (hi); (try clear hb); (try clear hb2); (try clear hk); (try clear hi); (try clear ho0); (try clear ho1); (try clear ho2); (try clear ho3)) | ((with_reducible refine gate_dst (N := 6) rfl ?_); refine box_event ?hg (N := 6) ?hd (cs := #[.slice none 0 0, .slice none 0 0, .slice none 0 0, .slice none 0 0]) (t := 29) ?hr ?_; (case hd => rfl); (case hg => rfl); (case hr => exact vz); intro gb235 hg w40 hbox hb; replace HO223 := qz HO223 hb; replace HO226 := qz HO226 hb; replace HO229 := qz HO229 hb; replace HO232 := qz HO232 hb; have BK235 := Aside0.mk (hbox); have GW235 := Aside0.mk ((by rw [hg]; exact (below_size (by repeat (first | (with_reducible first | exact HB.out | apply below_alloc | apply pw_below_drewN | apply below_drew1 | refine below_set ?_ (IsS120.ge HI220.out) | refine below_set ?_ GE215.out | refine below_set ?_ GE216.out) | exact HB.out))) : w.heap.size <= gb235)); have GE235 := Aside0.mk ((by rw [hg]; exact (below_size (by repeat (first | (with_reducible first | exact HB.out | apply below_alloc | apply pw_below_drewN | apply below_drew1 | refine below_set ?_ (IsS120.ge HI220.out) | refine below_set ?_ GE215.out | refine below_set ?_ GE216.out) | exact HB.out))) : w.heap.size <= gb235)); replace HB := Aside0.mk (below_step (by repeat (first | (with_reducible first | exact HB.out | apply below_alloc | apply pw_below_drewN | apply below_drew1 | refine below_set ?_ (IsS120.ge HI220.out) | refine below_set ?_ GE215.out | refine below_set ?_ GE216.out) | exact HB.out)) hb); have NB215_235 := Aside0.mk ((by rw [hg]; exact Nat.ne_of_lt (blk_lt (kz BK215.out)) : gb215 ≠ gb235)); have NB235_215 := Aside0.mk ((by rw [hg]; exact Nat.ne_of_gt (blk_lt (kz BK215.out)) : gb235 ≠ gb215)); replace BK215 := Aside0.mk (blk_below (kz BK215.out) hb); have NB216_235 := Aside0.mk ((by rw [hg]; exact Nat.ne_of_lt (blk_lt (kz BK216.out)) : gb216 ≠ gb235)); have NB235_216 := Aside0.mk ((by rw [hg]; exact Nat.ne_of_gt (blk_lt (kz BK216.out)) : gb235 ≠ gb216)); replace BK216 := Aside0.mk (blk_below (kz BK216.out) hb); have NB220_235 := Aside0.mk ((by rw [hg]; exact Nat.ne_of_lt (IsS120.lt (show IsS120 w _ g220 t217 t233 t234 from by repeat (first | (with_reducible first | exact HI220.out | apply IsS120.alloc | apply IsS120.drewN | apply IsS120.drew | apply IsS120.set_1 | apply IsS120.set_2 | apply IsS120.far (p := ⟨gb215, _, none⟩) (hne := NB220_215.out) | apply IsS120.far (p := ⟨gb216, _, none⟩) (hne := NB220_216.out)) | exact HI220.out))) : g220 ≠ gb235)); have NB235_220 := Aside0.mk ((by rw [hg]; exact Nat.ne_of_gt (IsS120.lt (show IsS120 w _ g220 t217 t233 t234 from by repeat (first | (with_reducible first | exact HI220.out | apply IsS120.alloc | apply IsS120.drewN | apply IsS120.drew | apply IsS120.set_1 | apply IsS120.set_2 | apply IsS120.far (p := ⟨gb215, _, none⟩) (hne := NB220_215.out) | apply IsS120.far (p := ⟨gb216, _, none⟩) (hne := NB220_216.out)) | exact HI220.out))) : gb235 ≠ g220)); replace HI220 := Aside0.mk (IsS120.below (by repeat (first | (with_reducible first | exact HI220.out | apply IsS120.alloc | apply IsS120.drewN | apply IsS120.drew | apply IsS120.set_1 | apply IsS120.set_2 | apply IsS120.far (p := ⟨gb215, _, none⟩) (hne := NB220_215.out) | apply IsS120.far (p := ⟨gb216, _, none⟩) (hne := NB220_216.out)) | exact HI220.out)) hb); clear hb hbox hg; obtain ⟨Ao41, co41, eo41⟩ := Kd.R_slice HO223.out; subst eo41; have hnb42 := NB235_215.out; have hnc42 := NB215_235.out; have hnb43 := NB235_216.out; have hnc43 := NB216_235.out; have hnb44 := NB235_220.out; have hnc44 := NB220_235.out; obtain ⟨hcz45_0, hcz45_1, hcz45_2, hcz45_3⟩ := cz4 BK235.out; obtain ⟨hfz45_0, hfz45_1, hfz45_2, hfz45_3⟩ := fz4 BK235.out; obtain ⟨Ao46, co46, eo46⟩ := Kd.R_slice HO226.out; subst eo46; obtain ⟨Ao47, co47, eo47⟩ := Kd.R_slice HO229.out; subst eo47; obtain ⟨Ao48, co48, eo48⟩ := Kd.R_slice HO232.out; subst eo48) | ((with_reducible refine gate_callee (f := 39) rfl ?_); refine goesL_ (some 17) rfl rfl Tryd.func39 (by kernel_rfl) rfl #[.pointer (some ⟨g220, 0, none⟩), .int .i64 6] rfl lz ?_; (with_reducible refine (spec_l1Once.calls g220 t217 t233 t234 6 false t237 t238 w _ ?side1 ?side2 A4.out).mono ?_); (case side1 => repeat (first | (with_reducible first | exact HI220.out | apply IsS120.alloc | apply IsS120.drewN | apply IsS120.drew | apply IsS120.set_1 | apply IsS120.set_2 | apply IsS120.far (p := ⟨gb215, _, none⟩) (hne := NB220_215.out) | apply IsS120.far (p := ⟨gb216, _, none⟩) (hne := NB220_216.out) | apply IsS120.far (p := ⟨gb235, _, none⟩) (hne := NB220_235.out)) | exact HI220.out)); (case side2 => repeat (first | (with_reducible first | exact HB.out | apply below_alloc | apply pw_below_drewN | apply below_drew1 | refine below_set ?_ (IsS120.ge HI220.out) | refine below_set ?_ GE215.out | refine below_set ?_ GE216.out | refine below_set ?_ GE235.out) | exact HB.out)); rintro e w49 ⟨rfl, hi, hb, hk⟩; refine ⟨_, rfl, ?_⟩; replace BK215 := Aside0.mk (KeepBut.blk hk (g' := gb215) (o := .cells #[.slice none 0 0, .slice none 0 0, .slice none 0 0, .slice none 0 0] 29 (0, 0)) (by refine kq ?_; refine blk_far ?_ NB215_235.out _; refine kq ?_; refine blk_far ?_ NB215_235.out _; refine kq ?_; refine blk_far ?_ NB215_235.out _; refine kq ?_; refine blk_far ?_ NB215_235.out _; refine kq ?_; exact BK215.out) NB215_220.out (by simp)); replace BK216 := Aside0.mk (KeepBut.blk hk (g' := gb216) (o := .cells #[.int .i64 0, .int .i64 0] 31 (0, 0)) (by refine kq ?_; refine blk_far ?_ NB216_235.out _; refine kq ?_; refine blk_far ?_ NB216_235.out _; refine kq ?_; refine blk_far ?_ NB216_235.out _; refine kq ?_; refine blk_far ?_ NB216_235.out _; refine kq ?_; exact BK216.out) NB216_220.out (by simp)); replace HO223 := Aside0.mk (Kd.R_mono (Kd.R_keep (IsS120.apart (show IsS120 w _ g220 t217 t233 t234 from by repeat (first | (with_reducible first | exact HI220.out | apply IsS120.alloc | apply IsS120.drewN | apply IsS120.drew | apply IsS120.set_1 | apply IsS120.set_2 | apply IsS120.far (p := ⟨gb215, _, none⟩) (hne := NB220_215.out) | apply IsS120.far (p := ⟨gb216, _, none⟩) (hne := NB220_216.out) | apply IsS120.far (p := ⟨gb235, _, none⟩) (hne := NB220_235.out)) | exact HI220.out)) (by refine rq ?_; exact (Kd.R_mono (Kd.R_far (p := ⟨gb235, 3, none⟩) (Kd.R_far (p := ⟨gb235, 2, none⟩) (Kd.R_far (p := ⟨gb235, 1, none⟩) (Kd.R_far (p := ⟨gb235, 0, none⟩) (Kd.R_types HO223.out BK235.out (by decide)) (fun _ hk => hk.2) (.slice Ao41 t221.length co41)) (fun _ hk => hk.2) (.slice Ao46 t224.length co46)) (fun _ hk => hk.2) (.slice Ao47 t227.length co47)) (fun _ hk => hk.2) (.slice Ao48 t230.length co48)) (fun _ h_ => h_.1))) (by decide)) hk (fun _ h => h.2)) (fun _ h => h.1)); replace HO226 := Aside0.mk (Kd.R_mono (Kd.R_keep (IsS120.apart (show IsS120 w _ g220 t217 t233 t234 from by repeat (first | (with_reducible first | exact HI220.out | apply IsS120.alloc | apply IsS120.drewN | apply IsS120.drew | apply IsS120.set_1 | apply IsS120.set_2 | apply IsS120.far (p := ⟨gb215, _, none⟩) (hne := NB220_215.out) | apply IsS120.far (p := ⟨gb216, _, none⟩) (hne := NB220_216.out) | apply IsS120.far (p := ⟨gb235, _, none⟩) (hne := NB220_235.out)) | exact HI220.out)) (by refine rq ?_; exact (Kd.R_mono (Kd.R_far (p := ⟨gb235, 3, none⟩) (Kd.R_far (p := ⟨gb235, 2, none⟩) (Kd.R_far (p := ⟨gb235, 1, none⟩) (Kd.R_far (p := ⟨gb235, 0, none⟩) (Kd.R_types HO226.out BK235.out (by decide)) (fun _ hk => hk.2) (.slice Ao41 t221.length co41)) (fun _ hk => hk.2) (.slice Ao46 t224.length co46)) (fun _ hk => hk.2) (.slice Ao47 t227.length co47)) (fun _ hk => hk.2) (.slice Ao48 t230.length co48)) (fun _ h_ => h_.1))) (by decide)) hk (fun _ h => h.2)) (fun _ h => h.1)); replace HO229 := Aside0.mk (Kd.R_mono (Kd.R_keep (IsS120.apart (show IsS120 w _ g220 t217 t233 t234 from by repeat (first | (with_reducible first | exact HI220.out | apply IsS120.alloc | apply IsS120.drewN | apply IsS120.drew | apply IsS120.set_1 | apply IsS120.set_2 | apply IsS120.far (p := ⟨gb215, _, none⟩) (hne := NB220_215.out) | apply IsS120.far (p := ⟨gb216, _, none⟩) (hne := NB220_216.out) | apply IsS120.far (p := ⟨gb235, _, none⟩) (hne := NB220_235.out)) | exact HI220.out)) (by refine rq ?_; exact (Kd.R_mono (Kd.R_far (p := ⟨gb235, 3, none⟩) (Kd.R_far (p := ⟨gb235, 2, none⟩) (Kd.R_far (p := ⟨gb235, 1, none⟩) (Kd.R_far (p := ⟨gb235, 0, none⟩) (Kd.R_types HO229.out BK235.out (by decide)) (fun _ hk => hk.2) (.slice Ao41 t221.length co41)) (fun _ hk => hk.2) (.slice Ao46 t224.length co46)) (fun _ hk => hk.2) (.slice Ao47 t227.length co47)) (fun _ hk => hk.2) (.slice Ao48 t230.length co48)) (fun _ h_ => h_.1))) (by decide)) hk (fun _ h => h.2)) (fun _ h => h.1)); replace HO232 := Aside0.mk (Kd.R_mono (Kd.R_keep (IsS120.apart (show IsS120 w _ g220 t217 t233 t234 from by repeat (first | (with_reducible first | exact HI220.out | apply IsS120.alloc | apply IsS120.drewN | apply IsS120.drew | apply IsS120.set_1 | apply IsS120.set_2 | apply IsS120.far (p := ⟨gb215, _, none⟩) (hne := NB220_215.out) | apply IsS120.far (p := ⟨gb216, _, none⟩) (hne := NB220_216.out) | apply IsS120.far (p := ⟨gb235, _, none⟩) (hne := NB220_235.out)) | exact HI220.out)) (by refine rq ?_; exact (Kd.R_mono (Kd.R_far (p := ⟨gb235, 3, none⟩) (Kd.R_far (p := ⟨gb235, 2, none⟩) (Kd.R_far (p := ⟨gb235, 1, none⟩) (Kd.R_far (p := ⟨gb235, 0, none⟩) (Kd.R_types HO232.out BK235.out (by decide)) (fun _ hk => hk.2) (.slice Ao41 t221.length co41)) (fun _ hk => hk.2) (.slice Ao46 t224.length co46)) (fun _ hk => hk.2) (.slice Ao47 t227.length co47)) (fun _ hk => hk.2) (.slice Ao48 t230.length co48)) (fun _ h_ => h_.1))) (by decide)) hk (fun _ h => h.2)) (fun _ h => h.1)); replace BK235 := Aside0.mk (KeepBut.blk hk (g' := gb235) (o := .cells #[.slice Ao41 t221.length co41, .slice Ao46 t224.length co46, .slice Ao47 t227.length co47, .slice Ao48 t230.length co48] 29 (0, 0)) (by refine kq ?_; refine blk_put (cs := #[.slice Ao41 t221.length co41, .slice Ao46 t224.length co46, .slice Ao47 t227.length co47, .slice none 0 0]) ?_ 3 _ rfl; refine kq ?_; refine blk_put (cs := #[.slice Ao41 t221.length co41, .slice Ao46 t224.length co46, .slice none 0 0, .slice none 0 0]) ?_ 2 _ rfl; refine kq ?_; refine blk_put (cs := #[.slice Ao41 t221.length co41, .slice none 0 0, .slice none 0 0, .slice none 0 0]) ?_ 1 _ rfl; refine kq ?_; refine blk_put (cs := #[.slice none 0 0, .slice none 0 0, .slice none 0 0, .slice none 0 0]) ?_ 0 _ rfl; refine kq ?_; exact BK235.out) NB235_220.out (by simp)); replace HB := Aside0.mk (hb); replace HI220 := Aside0.mk (hi); (try clear hb); (try clear hb2); (try clear hk); (try clear hi)))
  have n0_ := Aside0.mk (Kd.R_drew HO223.out)
  have n1_ := Aside0.mk (Kd.R_drew HO226.out)
  have n2_ := Aside0.mk (Kd.R_drew HO229.out)
  have n3_ := Aside0.mk (Kd.R_drew HO232.out)
  have n4_ := Aside0.mk (blk_drew BK215.out)
  have n5_ := Aside0.mk (blk_drew BK216.out)
  have n6_ := Aside0.mk (blk_drew BK235.out)
  have n7_ := Aside0.mk (IsS120.drew HI220.out)
  have n8_ := Aside0.mk (below_drew1 HB.out)
  clear HO223
  clear HO226
  clear HO229
  clear HO232
  clear BK215
  clear BK216
  clear BK235
  clear HI220
  clear HB
  have HO223 := n0_
  have HO226 := n1_
  have HO229 := n2_
  have HO232 := n3_
  have BK215 := n4_
  have BK216 := n5_
  have BK235 := n6_
  have HI220 := n7_
  have HB := n8_
  clear n0_ n1_ n2_ n3_ n4_ n5_ n6_ n7_ n8_
  refine start_ (n := 10) (S := fun w' => w'.cell? ⟨gb235, 0, none⟩ = some (.slice Ao41 t221.length co41) /\ w'.cell? ⟨gb235, 1, none⟩ = some (.slice Ao46 t224.length co46) /\ w'.cell? ⟨gb235, 2, none⟩ = some (.slice Ao47 t227.length co47) /\ w'.cell? ⟨gb235, 3, none⟩ = some (.slice Ao48 t230.length co48)) (ds := []) (mk_ 0 10) (by kernel_rfl) rfl rfl ⟨(blk_cell BK235.out 0).trans rfl, (blk_cell BK235.out 1).trans rfl, (blk_cell BK235.out 2).trans rfl, (blk_cell BK235.out 3).trans rfl⟩ (fun hHeld => ?_); refine with_tabW spec_DrawLookUp.tab6 spec_DrawLookUp.bits6 (fun HT_ HW_ => ?_)
  generalize w49.drew = w50 at HO223 HO226 HO229 HO232 BK215 BK216 BK235 HI220 HB hHeld ⊢
  refine pv 1 26 (bm_ 10 2) HT_ rfl rfl ?_
  refine pv 2 27 (bm_ 10 6) HT_ rfl rfl ?_
  refine pv 4 29 (bm_ 10 22) HT_ rfl rfl ?_
  refine tv4 0 25 (bm_ 10 23) HT_ HW_ rfl rfl hHeld ?_
  refine one_ (i := 3) (N := some 28) (mk_ 5 5) rfl rfl (one_of HT_.out (by kernel_rfl)) (by decide) (fun K hK => ?_)
  refine goes_ Tryd.func40 (by kernel_rfl) rfl #[.pointer (some ⟨g220, 0, none⟩), .int .i64 4] (by rfl) rfl rfl lz ?_
  with_reducible refine (spec_l1Below.calls g220 t217 t237 t238 4 t248 t249 t250 w _ ?side1 ?side2 A34.out).mono ?_
  (case side1 => repeat (first | (with_reducible first | exact HI220.out | apply IsS120.alloc | apply IsS120.drewN | apply IsS120.drew | apply IsS120.set_1 | apply IsS120.set_2 | apply IsS120.far (p := ⟨gb215, _, none⟩) (hne := NB220_215.out) | apply IsS120.far (p := ⟨gb216, _, none⟩) (hne := NB220_216.out) | apply IsS120.far (p := ⟨gb235, _, none⟩) (hne := NB220_235.out)) | exact HI220.out))
  (case side2 => repeat (first | (with_reducible first | exact HB.out | apply below_alloc | apply pw_below_drewN | apply below_drew1 | refine below_set ?_ (IsS120.ge HI220.out) | refine below_set ?_ GE215.out | refine below_set ?_ GE216.out | refine below_set ?_ GE235.out) | exact HB.out))
  rintro e w51 ⟨rfl, hi, hb, hk⟩
  refine ⟨_, rfl, ?_⟩
  have n0_ := Aside0.mk (KeepBut.blk hk (g' := gb215) (o := .cells #[.slice none 0 0, .slice none 0 0, .slice none 0 0, .slice none 0 0] 29 (0, 0)) (kz BK215.out) NB215_220.out (by simp))
  have n1_ := Aside0.mk (KeepBut.blk hk (g' := gb216) (o := .cells #[.int .i64 0, .int .i64 0] 31 (0, 0)) (kz BK216.out) NB216_220.out (by simp))
  have n2_ := Aside0.mk (Kd.R_mono (Kd.R_keep (IsS120.apart (show IsS120 w _ g220 t217 t237 t238 from by repeat (first | (with_reducible first | exact HI220.out | apply IsS120.alloc | apply IsS120.drewN | apply IsS120.drew | apply IsS120.set_1 | apply IsS120.set_2 | apply IsS120.far (p := ⟨gb215, _, none⟩) (hne := NB220_215.out) | apply IsS120.far (p := ⟨gb216, _, none⟩) (hne := NB220_216.out) | apply IsS120.far (p := ⟨gb235, _, none⟩) (hne := NB220_235.out)) | exact HI220.out)) (rz HO223.out) (by decide)) hk (fun _ h => h.2)) (fun _ h => h.1))
  have n3_ := Aside0.mk (Kd.R_mono (Kd.R_keep (IsS120.apart (show IsS120 w _ g220 t217 t237 t238 from by repeat (first | (with_reducible first | exact HI220.out | apply IsS120.alloc | apply IsS120.drewN | apply IsS120.drew | apply IsS120.set_1 | apply IsS120.set_2 | apply IsS120.far (p := ⟨gb215, _, none⟩) (hne := NB220_215.out) | apply IsS120.far (p := ⟨gb216, _, none⟩) (hne := NB220_216.out) | apply IsS120.far (p := ⟨gb235, _, none⟩) (hne := NB220_235.out)) | exact HI220.out)) (rz HO226.out) (by decide)) hk (fun _ h => h.2)) (fun _ h => h.1))
  have n4_ := Aside0.mk (Kd.R_mono (Kd.R_keep (IsS120.apart (show IsS120 w _ g220 t217 t237 t238 from by repeat (first | (with_reducible first | exact HI220.out | apply IsS120.alloc | apply IsS120.drewN | apply IsS120.drew | apply IsS120.set_1 | apply IsS120.set_2 | apply IsS120.far (p := ⟨gb215, _, none⟩) (hne := NB220_215.out) | apply IsS120.far (p := ⟨gb216, _, none⟩) (hne := NB220_216.out) | apply IsS120.far (p := ⟨gb235, _, none⟩) (hne := NB220_235.out)) | exact HI220.out)) (rz HO229.out) (by decide)) hk (fun _ h => h.2)) (fun _ h => h.1))
  have n5_ := Aside0.mk (Kd.R_mono (Kd.R_keep (IsS120.apart (show IsS120 w _ g220 t217 t237 t238 from by repeat (first | (with_reducible first | exact HI220.out | apply IsS120.alloc | apply IsS120.drewN | apply IsS120.drew | apply IsS120.set_1 | apply IsS120.set_2 | apply IsS120.far (p := ⟨gb215, _, none⟩) (hne := NB220_215.out) | apply IsS120.far (p := ⟨gb216, _, none⟩) (hne := NB220_216.out) | apply IsS120.far (p := ⟨gb235, _, none⟩) (hne := NB220_235.out)) | exact HI220.out)) (rz HO232.out) (by decide)) hk (fun _ h => h.2)) (fun _ h => h.1))
  have n6_ := Aside0.mk (KeepBut.blk hk (g' := gb235) (o := .cells #[.slice Ao41 t221.length co41, .slice Ao46 t224.length co46, .slice Ao47 t227.length co47, .slice Ao48 t230.length co48] 29 (0, 0)) (kz BK235.out) NB235_220.out (by simp))
  have n7_ := Aside0.mk (hb)
  have n8_ := Aside0.mk (hi)
  clear BK215
  clear BK216
  clear HO223
  clear HO226
  clear HO229
  clear HO232
  clear BK235
  clear HB
  clear HI220
  have BK215 := n0_
  have BK216 := n1_
  have HO223 := n2_
  have HO226 := n3_
  have HO229 := n4_
  have HO232 := n5_
  have BK235 := n6_
  have HB := n7_
  have HI220 := n8_
  clear n0_ n1_ n2_ n3_ n4_ n5_ n6_ n7_ n8_
  (try clear hb)
  (try clear hb2)
  (try clear hk)
  (try clear hi)
  refine hK.out _ _ ⟨(blk_cell BK235.out 0).trans rfl, (blk_cell BK235.out 1).trans rfl, (blk_cell BK235.out 2).trans rfl, (blk_cell BK235.out 3).trans rfl⟩ (fun hHeld => ?_)
  clear hK K
  refine norm_ (a' := ?_) ?_ ?_
  rotate_left
  ·show Act.put _ (some 28) _ = _
   simp only [Act.put, sz1, sz2, sz3, i64_w, i32_w]
   rfl
  refine one_ (i := 5) (N := some 30) (mk_ 6 4) rfl rfl (one_of HT_.out (by kernel_rfl)) (by decide) (fun K hK => ?_)
  refine goes_ Tryd.func40 (by kernel_rfl) rfl #[.pointer (some ⟨g220, 0, none⟩), .int .i64 2] (by rfl) rfl rfl lz ?_
  with_reducible refine (spec_l1Below.calls g220 t217 t249 t250 2 t251 t252 t253 w _ ?side1 ?side2 A35.out).mono ?_
  (case side1 => repeat (first | (with_reducible first | exact HI220.out | apply IsS120.alloc | apply IsS120.drewN | apply IsS120.drew | apply IsS120.set_1 | apply IsS120.set_2 | apply IsS120.far (p := ⟨gb215, _, none⟩) (hne := NB220_215.out) | apply IsS120.far (p := ⟨gb216, _, none⟩) (hne := NB220_216.out) | apply IsS120.far (p := ⟨gb235, _, none⟩) (hne := NB220_235.out)) | exact HI220.out))
  (case side2 => repeat (first | (with_reducible first | exact HB.out | apply below_alloc | apply pw_below_drewN | apply below_drew1 | refine below_set ?_ (IsS120.ge HI220.out) | refine below_set ?_ GE215.out | refine below_set ?_ GE216.out | refine below_set ?_ GE235.out) | exact HB.out))
  rintro e w52 ⟨rfl, hi, hb, hk⟩
  refine ⟨_, rfl, ?_⟩
  have n0_ := Aside0.mk (KeepBut.blk hk (g' := gb215) (o := .cells #[.slice none 0 0, .slice none 0 0, .slice none 0 0, .slice none 0 0] 29 (0, 0)) (kz BK215.out) NB215_220.out (by simp))
  have n1_ := Aside0.mk (KeepBut.blk hk (g' := gb216) (o := .cells #[.int .i64 0, .int .i64 0] 31 (0, 0)) (kz BK216.out) NB216_220.out (by simp))
  have n2_ := Aside0.mk (Kd.R_mono (Kd.R_keep (IsS120.apart (show IsS120 w _ g220 t217 t249 t250 from by repeat (first | (with_reducible first | exact HI220.out | apply IsS120.alloc | apply IsS120.drewN | apply IsS120.drew | apply IsS120.set_1 | apply IsS120.set_2 | apply IsS120.far (p := ⟨gb215, _, none⟩) (hne := NB220_215.out) | apply IsS120.far (p := ⟨gb216, _, none⟩) (hne := NB220_216.out) | apply IsS120.far (p := ⟨gb235, _, none⟩) (hne := NB220_235.out)) | exact HI220.out)) (rz HO223.out) (by decide)) hk (fun _ h => h.2)) (fun _ h => h.1))
  have n3_ := Aside0.mk (Kd.R_mono (Kd.R_keep (IsS120.apart (show IsS120 w _ g220 t217 t249 t250 from by repeat (first | (with_reducible first | exact HI220.out | apply IsS120.alloc | apply IsS120.drewN | apply IsS120.drew | apply IsS120.set_1 | apply IsS120.set_2 | apply IsS120.far (p := ⟨gb215, _, none⟩) (hne := NB220_215.out) | apply IsS120.far (p := ⟨gb216, _, none⟩) (hne := NB220_216.out) | apply IsS120.far (p := ⟨gb235, _, none⟩) (hne := NB220_235.out)) | exact HI220.out)) (rz HO226.out) (by decide)) hk (fun _ h => h.2)) (fun _ h => h.1))
  have n4_ := Aside0.mk (Kd.R_mono (Kd.R_keep (IsS120.apart (show IsS120 w _ g220 t217 t249 t250 from by repeat (first | (with_reducible first | exact HI220.out | apply IsS120.alloc | apply IsS120.drewN | apply IsS120.drew | apply IsS120.set_1 | apply IsS120.set_2 | apply IsS120.far (p := ⟨gb215, _, none⟩) (hne := NB220_215.out) | apply IsS120.far (p := ⟨gb216, _, none⟩) (hne := NB220_216.out) | apply IsS120.far (p := ⟨gb235, _, none⟩) (hne := NB220_235.out)) | exact HI220.out)) (rz HO229.out) (by decide)) hk (fun _ h => h.2)) (fun _ h => h.1))
  have n5_ := Aside0.mk (Kd.R_mono (Kd.R_keep (IsS120.apart (show IsS120 w _ g220 t217 t249 t250 from by repeat (first | (with_reducible first | exact HI220.out | apply IsS120.alloc | apply IsS120.drewN | apply IsS120.drew | apply IsS120.set_1 | apply IsS120.set_2 | apply IsS120.far (p := ⟨gb215, _, none⟩) (hne := NB220_215.out) | apply IsS120.far (p := ⟨gb216, _, none⟩) (hne := NB220_216.out) | apply IsS120.far (p := ⟨gb235, _, none⟩) (hne := NB220_235.out)) | exact HI220.out)) (rz HO232.out) (by decide)) hk (fun _ h => h.2)) (fun _ h => h.1))
  have n6_ := Aside0.mk (KeepBut.blk hk (g' := gb235) (o := .cells #[.slice Ao41 t221.length co41, .slice Ao46 t224.length co46, .slice Ao47 t227.length co47, .slice Ao48 t230.length co48] 29 (0, 0)) (kz BK235.out) NB235_220.out (by simp))
  have n7_ := Aside0.mk (hb)
  have n8_ := Aside0.mk (hi)
  clear BK215
  clear BK216
  clear HO223
  clear HO226
  clear HO229
  clear HO232
  clear BK235
  clear HB
  clear HI220
  have BK215 := n0_
  have BK216 := n1_
  have HO223 := n2_
  have HO226 := n3_
  have HO229 := n4_
  have HO232 := n5_
  have BK235 := n6_
  have HB := n7_
  have HI220 := n8_
  clear n0_ n1_ n2_ n3_ n4_ n5_ n6_ n7_ n8_
  (try clear hb)
  (try clear hb2)
  (try clear hk)
  (try clear hi)
  refine hK.out _ _ ⟨(blk_cell BK235.out 0).trans rfl, (blk_cell BK235.out 1).trans rfl, (blk_cell BK235.out 2).trans rfl, (blk_cell BK235.out 3).trans rfl⟩ (fun hHeld => ?_)
  clear hK K
  refine norm_ (a' := ?_) ?_ ?_
  rotate_left
  ·show Act.put _ (some 30) _ = _
   simp only [Act.put, sz1, sz2, sz3, i64_w, i32_w]
   rfl
  refine pv 6 31 (mk_ 7 3) HT_ rfl rfl ?_
  refine one_ (i := 7) (N := none) (mk_ 8 2) rfl rfl (one_of HT_.out (by kernel_rfl)) (by decide) (fun K hK => ?_)
  have hs53 : w52.cell? ⟨gb215, 0, none⟩ = some (.slice none 0 0) := (blk_cell BK215.out 0).trans rfl
  have hfs53 := blk_frozen BK215.out 0
  have hns53_1 := NB216_215.out
  have hns53_2 := NB235_215.out
  have hms53_1 := NB215_216.out
  have hms53_2 := NB215_235.out
  have hs54 : w52.cell? ⟨gb215, 1, none⟩ = some (.slice none 0 0) := (blk_cell BK215.out 1).trans rfl
  have hfs54 := blk_frozen BK215.out 1
  have hns54_1 := NB216_215.out
  have hns54_2 := NB235_215.out
  have hms54_1 := NB215_216.out
  have hms54_2 := NB215_235.out
  have hs55 : w52.cell? ⟨gb215, 2, none⟩ = some (.slice none 0 0) := (blk_cell BK215.out 2).trans rfl
  have hfs55 := blk_frozen BK215.out 2
  have hns55_1 := NB216_215.out
  have hns55_2 := NB235_215.out
  have hms55_1 := NB215_216.out
  have hms55_2 := NB215_235.out
  have hs56 : w52.cell? ⟨gb215, 3, none⟩ = some (.slice none 0 0) := (blk_cell BK215.out 3).trans rfl
  have hfs56 := blk_frozen BK215.out 3
  have hns56_1 := NB216_215.out
  have hns56_2 := NB235_215.out
  have hms56_1 := NB215_216.out
  have hms56_2 := NB215_235.out
  refine skip_ (w1 := ?_) (by rfl) rfl ?_ ?_
  rotate_left
  ·go_simp
   rfl
  refine hK.out _ _ ⟨((cell_far (p := ⟨gb215, _, none⟩) NB235_215.out _).trans (((cell_far (p := ⟨gb215, _, none⟩) NB235_215.out _).trans (((cell_far (p := ⟨gb215, _, none⟩) NB235_215.out _).trans (((cell_far (p := ⟨gb215, _, none⟩) NB235_215.out _).trans (hHeld.1)))))))), ((cell_far (p := ⟨gb215, _, none⟩) NB235_215.out _).trans (((cell_far (p := ⟨gb215, _, none⟩) NB235_215.out _).trans (((cell_far (p := ⟨gb215, _, none⟩) NB235_215.out _).trans (((cell_far (p := ⟨gb215, _, none⟩) NB235_215.out _).trans (hHeld.2.1)))))))), ((cell_far (p := ⟨gb215, _, none⟩) NB235_215.out _).trans (((cell_far (p := ⟨gb215, _, none⟩) NB235_215.out _).trans (((cell_far (p := ⟨gb215, _, none⟩) NB235_215.out _).trans (((cell_far (p := ⟨gb215, _, none⟩) NB235_215.out _).trans (hHeld.2.2.1)))))))), ((cell_far (p := ⟨gb215, _, none⟩) NB235_215.out _).trans (((cell_far (p := ⟨gb215, _, none⟩) NB235_215.out _).trans (((cell_far (p := ⟨gb215, _, none⟩) NB235_215.out _).trans (((cell_far (p := ⟨gb215, _, none⟩) NB235_215.out _).trans (hHeld.2.2.2))))))))⟩ (fun hHeld => ?_)
  clear hK K
  refine pv 8 3 (mk_ 9 1) HT_ rfl rfl ?_
  refine one_ (i := 9) (N := none) (mk_ 10 0) rfl rfl (one_of HT_.out (by kernel_rfl)) (by decide) (fun K hK => ?_)
  have hs57 : w52.cell? ⟨gb216, 0, none⟩ = some (.int .i64 0) := (blk_cell BK216.out 0).trans rfl
  have hfs57 := blk_frozen BK216.out 0
  have hns57_0 := NB215_216.out
  have hns57_2 := NB235_216.out
  have hms57_0 := NB216_215.out
  have hms57_2 := NB216_235.out
  have hs58 : w52.cell? ⟨gb216, 1, none⟩ = some (.int .i64 0) := (blk_cell BK216.out 1).trans rfl
  have hfs58 := blk_frozen BK216.out 1
  have hns58_0 := NB215_216.out
  have hns58_2 := NB235_216.out
  have hms58_0 := NB216_215.out
  have hms58_2 := NB216_235.out
  refine skip_ (w1 := ?_) (by rfl) rfl ?_ ?_
  rotate_left
  ·go_simp
   rfl
  refine hK.out _ _ ⟨((cell_far (p := ⟨gb216, _, none⟩) NB235_216.out _).trans (((cell_far (p := ⟨gb216, _, none⟩) NB235_216.out _).trans (hHeld.1)))), ((cell_far (p := ⟨gb216, _, none⟩) NB235_216.out _).trans (((cell_far (p := ⟨gb216, _, none⟩) NB235_216.out _).trans (hHeld.2.1)))), ((cell_far (p := ⟨gb216, _, none⟩) NB235_216.out _).trans (((cell_far (p := ⟨gb216, _, none⟩) NB235_216.out _).trans (hHeld.2.2.1)))), ((cell_far (p := ⟨gb216, _, none⟩) NB235_216.out _).trans (((cell_far (p := ⟨gb216, _, none⟩) NB235_216.out _).trans (hHeld.2.2.2))))⟩ (fun hHeld => ?_)
  clear hK K
  refine done_ (done_of HT_.out (by kernel_rfl)) ?_
  try go_wp2
  refine bodyPost_ret (results_list (rs := [.cell 2 29, .tmp 3, .cell 4 31]) rfl (by simp) (.cell gb215 29 #[.slice Ao41 t221.length co41, .slice Ao46 t224.length co46, .slice Ao47 t227.length co47, .slice Ao48 t230.length co48] (0, 0) _ rfl (by refine kq ?_; refine blk_far ?_ NB215_216.out _; refine kq ?_; refine blk_far ?_ NB215_216.out _; refine kq ?_; refine blk_put (cs := #[.slice Ao41 t221.length co41, .slice Ao46 t224.length co46, .slice Ao47 t227.length co47, .slice none 0 0]) ?_ 3 _ rfl; refine kq ?_; refine blk_put (cs := #[.slice Ao41 t221.length co41, .slice Ao46 t224.length co46, .slice none 0 0, .slice none 0 0]) ?_ 2 _ rfl; refine kq ?_; refine blk_put (cs := #[.slice Ao41 t221.length co41, .slice none 0 0, .slice none 0 0, .slice none 0 0]) ?_ 1 _ rfl; refine kq ?_; refine blk_put (cs := #[.slice none 0 0, .slice none 0 0, .slice none 0 0, .slice none 0 0]) ?_ 0 _ rfl; refine kq ?_; exact BK215.out) Tryd.underlying29 rfl (by kernel_rfl) (.tmp (.cell gb216 31 #[.int .i64 t248, .int .i64 t251] (0, 0) _ rfl (by refine kq ?_; refine blk_put (cs := #[.int .i64 t248, .int .i64 0]) ?_ 1 _ rfl; refine kq ?_; refine blk_put (cs := #[.int .i64 0, .int .i64 0]) ?_ 0 _ rfl; refine kq ?_; refine blk_far ?_ NB216_215.out _; refine kq ?_; refine blk_far ?_ NB216_215.out _; refine kq ?_; refine blk_far ?_ NB216_215.out _; refine kq ?_; refine blk_far ?_ NB216_215.out _; refine kq ?_; exact BK216.out) Tryd.underlying31 rfl (by kernel_rfl) .nil)))) rfl ?_
  exact ⟨_, _, _, _, gz, by refine rq ?_; first | (with_reducible exact Kd.R_mono (Kd.R_far (p := ⟨gb216, 1, none⟩) (Kd.R_far (p := ⟨gb216, 0, none⟩) (Kd.R_far (p := ⟨gb215, 3, none⟩) (Kd.R_far (p := ⟨gb215, 2, none⟩) (Kd.R_far (p := ⟨gb215, 1, none⟩) (Kd.R_far (p := ⟨gb215, 0, none⟩) (Kd.R_types (Kd.R_types HO223.out BK215.out (by decide)) BK216.out (by decide)) (fun _ hk => hk.1.2) (.slice Ao41 t221.length co41)) (fun _ hk => hk.1.2) (.slice Ao46 t224.length co46)) (fun _ hk => hk.1.2) (.slice Ao47 t227.length co47)) (fun _ hk => hk.1.2) (.slice Ao48 t230.length co48)) (fun _ hk => hk.2) (.int .i64 t248)) (fun _ hk => hk.2) (.int .i64 t251)) (fun _ hk => trivial)) | (with_reducible exact Kd.R_mono (Kd.R_far (p := ⟨gb216, 1, none⟩) (Kd.R_drewN (Kd.R_far (p := ⟨gb216, 0, none⟩) (Kd.R_far (p := ⟨gb215, 3, none⟩) (Kd.R_far (p := ⟨gb215, 2, none⟩) (Kd.R_far (p := ⟨gb215, 1, none⟩) (Kd.R_far (p := ⟨gb215, 0, none⟩) (Kd.R_types (Kd.R_types HO223.out BK215.out (by decide)) BK216.out (by decide)) (fun _ hk => hk.1.2) (.slice Ao41 t221.length co41)) (fun _ hk => hk.1.2) (.slice Ao46 t224.length co46)) (fun _ hk => hk.1.2) (.slice Ao47 t227.length co47)) (fun _ hk => hk.1.2) (.slice Ao48 t230.length co48)) (fun _ hk => hk.2) (.int .i64 t248)) _) (fun _ hk => hk.2) (.int .i64 t251)) (fun _ hk => trivial)) | exact Kd.R_mono (Kd.R_far (p := ⟨gb216, 1, none⟩) (Kd.R_drewN (Kd.R_far (p := ⟨gb216, 0, none⟩) (Kd.R_far (p := ⟨gb215, 3, none⟩) (Kd.R_far (p := ⟨gb215, 2, none⟩) (Kd.R_far (p := ⟨gb215, 1, none⟩) (Kd.R_far (p := ⟨gb215, 0, none⟩) (Kd.R_types (Kd.R_types HO223.out BK215.out (by decide)) BK216.out (by decide)) (fun _ hk => hk.1.2) (.slice Ao41 t221.length co41)) (fun _ hk => hk.1.2) (.slice Ao46 t224.length co46)) (fun _ hk => hk.1.2) (.slice Ao47 t227.length co47)) (fun _ hk => hk.1.2) (.slice Ao48 t230.length co48)) (fun _ hk => hk.2) (.int .i64 t248)) _) (fun _ hk => hk.2) (.int .i64 t251)) (fun _ hk => trivial), by refine rq ?_; first | (with_reducible exact Kd.R_mono (Kd.R_far (p := ⟨gb216, 1, none⟩) (Kd.R_far (p := ⟨gb216, 0, none⟩) (Kd.R_far (p := ⟨gb215, 3, none⟩) (Kd.R_far (p := ⟨gb215, 2, none⟩) (Kd.R_far (p := ⟨gb215, 1, none⟩) (Kd.R_far (p := ⟨gb215, 0, none⟩) (Kd.R_types (Kd.R_types HO226.out BK215.out (by decide)) BK216.out (by decide)) (fun _ hk => hk.1.2) (.slice Ao41 t221.length co41)) (fun _ hk => hk.1.2) (.slice Ao46 t224.length co46)) (fun _ hk => hk.1.2) (.slice Ao47 t227.length co47)) (fun _ hk => hk.1.2) (.slice Ao48 t230.length co48)) (fun _ hk => hk.2) (.int .i64 t248)) (fun _ hk => hk.2) (.int .i64 t251)) (fun _ hk => trivial)) | (with_reducible exact Kd.R_mono (Kd.R_far (p := ⟨gb216, 1, none⟩) (Kd.R_drewN (Kd.R_far (p := ⟨gb216, 0, none⟩) (Kd.R_far (p := ⟨gb215, 3, none⟩) (Kd.R_far (p := ⟨gb215, 2, none⟩) (Kd.R_far (p := ⟨gb215, 1, none⟩) (Kd.R_far (p := ⟨gb215, 0, none⟩) (Kd.R_types (Kd.R_types HO226.out BK215.out (by decide)) BK216.out (by decide)) (fun _ hk => hk.1.2) (.slice Ao41 t221.length co41)) (fun _ hk => hk.1.2) (.slice Ao46 t224.length co46)) (fun _ hk => hk.1.2) (.slice Ao47 t227.length co47)) (fun _ hk => hk.1.2) (.slice Ao48 t230.length co48)) (fun _ hk => hk.2) (.int .i64 t248)) _) (fun _ hk => hk.2) (.int .i64 t251)) (fun _ hk => trivial)) | exact Kd.R_mono (Kd.R_far (p := ⟨gb216, 1, none⟩) (Kd.R_drewN (Kd.R_far (p := ⟨gb216, 0, none⟩) (Kd.R_far (p := ⟨gb215, 3, none⟩) (Kd.R_far (p := ⟨gb215, 2, none⟩) (Kd.R_far (p := ⟨gb215, 1, none⟩) (Kd.R_far (p := ⟨gb215, 0, none⟩) (Kd.R_types (Kd.R_types HO226.out BK215.out (by decide)) BK216.out (by decide)) (fun _ hk => hk.1.2) (.slice Ao41 t221.length co41)) (fun _ hk => hk.1.2) (.slice Ao46 t224.length co46)) (fun _ hk => hk.1.2) (.slice Ao47 t227.length co47)) (fun _ hk => hk.1.2) (.slice Ao48 t230.length co48)) (fun _ hk => hk.2) (.int .i64 t248)) _) (fun _ hk => hk.2) (.int .i64 t251)) (fun _ hk => trivial), by refine rq ?_; first | (with_reducible exact Kd.R_mono (Kd.R_far (p := ⟨gb216, 1, none⟩) (Kd.R_far (p := ⟨gb216, 0, none⟩) (Kd.R_far (p := ⟨gb215, 3, none⟩) (Kd.R_far (p := ⟨gb215, 2, none⟩) (Kd.R_far (p := ⟨gb215, 1, none⟩) (Kd.R_far (p := ⟨gb215, 0, none⟩) (Kd.R_types (Kd.R_types HO229.out BK215.out (by decide)) BK216.out (by decide)) (fun _ hk => hk.1.2) (.slice Ao41 t221.length co41)) (fun _ hk => hk.1.2) (.slice Ao46 t224.length co46)) (fun _ hk => hk.1.2) (.slice Ao47 t227.length co47)) (fun _ hk => hk.1.2) (.slice Ao48 t230.length co48)) (fun _ hk => hk.2) (.int .i64 t248)) (fun _ hk => hk.2) (.int .i64 t251)) (fun _ hk => trivial)) | (with_reducible exact Kd.R_mono (Kd.R_far (p := ⟨gb216, 1, none⟩) (Kd.R_drewN (Kd.R_far (p := ⟨gb216, 0, none⟩) (Kd.R_far (p := ⟨gb215, 3, none⟩) (Kd.R_far (p := ⟨gb215, 2, none⟩) (Kd.R_far (p := ⟨gb215, 1, none⟩) (Kd.R_far (p := ⟨gb215, 0, none⟩) (Kd.R_types (Kd.R_types HO229.out BK215.out (by decide)) BK216.out (by decide)) (fun _ hk => hk.1.2) (.slice Ao41 t221.length co41)) (fun _ hk => hk.1.2) (.slice Ao46 t224.length co46)) (fun _ hk => hk.1.2) (.slice Ao47 t227.length co47)) (fun _ hk => hk.1.2) (.slice Ao48 t230.length co48)) (fun _ hk => hk.2) (.int .i64 t248)) _) (fun _ hk => hk.2) (.int .i64 t251)) (fun _ hk => trivial)) | exact Kd.R_mono (Kd.R_far (p := ⟨gb216, 1, none⟩) (Kd.R_drewN (Kd.R_far (p := ⟨gb216, 0, none⟩) (Kd.R_far (p := ⟨gb215, 3, none⟩) (Kd.R_far (p := ⟨gb215, 2, none⟩) (Kd.R_far (p := ⟨gb215, 1, none⟩) (Kd.R_far (p := ⟨gb215, 0, none⟩) (Kd.R_types (Kd.R_types HO229.out BK215.out (by decide)) BK216.out (by decide)) (fun _ hk => hk.1.2) (.slice Ao41 t221.length co41)) (fun _ hk => hk.1.2) (.slice Ao46 t224.length co46)) (fun _ hk => hk.1.2) (.slice Ao47 t227.length co47)) (fun _ hk => hk.1.2) (.slice Ao48 t230.length co48)) (fun _ hk => hk.2) (.int .i64 t248)) _) (fun _ hk => hk.2) (.int .i64 t251)) (fun _ hk => trivial), by refine rq ?_; first | (with_reducible exact Kd.R_mono (Kd.R_far (p := ⟨gb216, 1, none⟩) (Kd.R_far (p := ⟨gb216, 0, none⟩) (Kd.R_far (p := ⟨gb215, 3, none⟩) (Kd.R_far (p := ⟨gb215, 2, none⟩) (Kd.R_far (p := ⟨gb215, 1, none⟩) (Kd.R_far (p := ⟨gb215, 0, none⟩) (Kd.R_types (Kd.R_types HO232.out BK215.out (by decide)) BK216.out (by decide)) (fun _ hk => hk.1.2) (.slice Ao41 t221.length co41)) (fun _ hk => hk.1.2) (.slice Ao46 t224.length co46)) (fun _ hk => hk.1.2) (.slice Ao47 t227.length co47)) (fun _ hk => hk.1.2) (.slice Ao48 t230.length co48)) (fun _ hk => hk.2) (.int .i64 t248)) (fun _ hk => hk.2) (.int .i64 t251)) (fun _ hk => trivial)) | (with_reducible exact Kd.R_mono (Kd.R_far (p := ⟨gb216, 1, none⟩) (Kd.R_drewN (Kd.R_far (p := ⟨gb216, 0, none⟩) (Kd.R_far (p := ⟨gb215, 3, none⟩) (Kd.R_far (p := ⟨gb215, 2, none⟩) (Kd.R_far (p := ⟨gb215, 1, none⟩) (Kd.R_far (p := ⟨gb215, 0, none⟩) (Kd.R_types (Kd.R_types HO232.out BK215.out (by decide)) BK216.out (by decide)) (fun _ hk => hk.1.2) (.slice Ao41 t221.length co41)) (fun _ hk => hk.1.2) (.slice Ao46 t224.length co46)) (fun _ hk => hk.1.2) (.slice Ao47 t227.length co47)) (fun _ hk => hk.1.2) (.slice Ao48 t230.length co48)) (fun _ hk => hk.2) (.int .i64 t248)) _) (fun _ hk => hk.2) (.int .i64 t251)) (fun _ hk => trivial)) | exact Kd.R_mono (Kd.R_far (p := ⟨gb216, 1, none⟩) (Kd.R_drewN (Kd.R_far (p := ⟨gb216, 0, none⟩) (Kd.R_far (p := ⟨gb215, 3, none⟩) (Kd.R_far (p := ⟨gb215, 2, none⟩) (Kd.R_far (p := ⟨gb215, 1, none⟩) (Kd.R_far (p := ⟨gb215, 0, none⟩) (Kd.R_types (Kd.R_types HO232.out BK215.out (by decide)) BK216.out (by decide)) (fun _ hk => hk.1.2) (.slice Ao41 t221.length co41)) (fun _ hk => hk.1.2) (.slice Ao46 t224.length co46)) (fun _ hk => hk.1.2) (.slice Ao47 t227.length co47)) (fun _ hk => hk.1.2) (.slice Ao48 t230.length co48)) (fun _ hk => hk.2) (.int .i64 t248)) _) (fun _ hk => hk.2) (.int .i64 t251)) (fun _ hk => trivial), by repeat (first | (with_reducible first | exact HB.out | apply below_alloc | apply pw_below_drewN | apply below_drew1 | refine below_set ?_ (IsS120.ge HI220.out) | refine below_set ?_ GE215.out | refine below_set ?_ GE216.out | refine below_set ?_ GE235.out) | exact HB.out)⟩
def impl_in.f (a0 : Int) (a1 : Int) (a2 : Int) : Option (Bool) := if a0 ≥ a1 then (some (decide (a0 <= a2))) else (some false)
set_option maxHeartbeats 80000000 in
set_option maxRecDepth 100000 in
theorem impl_in.calls (a0 : Int) (a1 : Int) (a2 : Int) (r : Bool) (w : World) (h : impl_in.f a0 a1 a2 = some r) :
  Calls Tryd.prog 42 #[.int .i64 a0, .int .i64 a1, .int .i64 a2] w fun e w' => e = .returned (.bool r) /\ Drawn0 w w' := by
 have H : (if a0 ≥ a1 then (some (decide (a0 <= a2))) else (some false)) = some r := h
 clear h
 by_cases c4 : a0 ≥ a1
 ·rw [if_pos c4] at H
  have c4b0 : decide (a1 <= a0) = true := decide_eq_true c4
  clear c4
  obtain rfl := Option.some.inj H
  go_enter Tryd.func42, Tryd.ntmps42
  go_wp2
  go_ret
  exact ⟨e2z, dz⟩
 ·rw [if_neg c4] at H
  have c4b0 : decide (a1 <= a0) = false := decide_eq_false c4
  clear c4
  obtain rfl := Option.some.inj H
  go_enter Tryd.func42, Tryd.ntmps42
  go_wp2
  go_ret
  exact ⟨e2z, dz⟩
def impl_ValOk.j0 : Nat -> Int -> Bool -> List (S41) -> List (S86) -> List (S47) -> List (S35) -> Int -> Int -> Option (Bool)
 | 0, _, _, _, _, _, _, _, _ => none
 | k + 1, x6, x26, x255000, x255001, x255002, x255003, x256000, x256001 => if x26 = true then ((impl_in.f x256001 0 (wrap64 ((x255002.length : Int) - 1))).bind fun t258 => (some t258)) else (if x6 = 5 then ((impl_in.f x256001 0 (wrap64 ((x255003.length : Int) - 1))).bind fun t259 => (some t259)) else (some false))
def impl_ValOk.f (k : Nat) (l0_0 : List (S41)) (l0_1 : List (S86)) (l0_2 : List (S47)) (l0_3 : List (S35)) (a1_0 : Int) (a1_1 : Int) : Option (Bool) := if a1_0 = 0 then ((impl_in.f a1_1 0 65535).bind fun t256 => (some t256)) else (if a1_0 = 2 then (some (a1_1 == 0)) else (if a1_0 = 1 then ((impl_in.f a1_1 0 (wrap64 ((l0_1.length : Int) - 1))).bind fun t257 => (some t257)) else (if a1_0 = 3 then (impl_ValOk.j0 k a1_0 (a1_0 == 3) l0_0 l0_1 l0_2 l0_3 a1_0 a1_1) else (impl_ValOk.j0 k a1_0 (a1_0 == 4) l0_0 l0_1 l0_2 l0_3 a1_0 a1_1))))
theorem impl_ValOk.mono_l : ∀ k, (∀ y0 y1 y2 y3 y4 y5 y6 y7, LeO (impl_ValOk.j0 k y0 y1 y2 y3 y4 y5 y6 y7) (impl_ValOk.j0 (k + 1) y0 y1 y2 y3 y4 y5 y6 y7))
 | 0 => fun _ _ _ _ _ _ _ _ r h => by simp [impl_ValOk.j0] at h
 | k + 1 => by
  have ih0 := impl_ValOk.mono_l k
  ·intro y0 y1 y2 y3 y4 y5 y6 y7
   unfold impl_ValOk.j0
   with_reducible repeat' first | exact ih0 _ _ _ _ _ _ _ _ | exact lrz _ | exact lnz _ | refine liz ?_ ?_ | refine lbz ?_ fun _ => ?_
theorem impl_ValOk.mono : ∀ a0 a1 a2 a3 a4 a5 k, LeO (impl_ValOk.f k a0 a1 a2 a3 a4 a5) (impl_ValOk.f (k + 1) a0 a1 a2 a3 a4 a5) := by
 intro a0 a1 a2 a3 a4 a5 k
 have ih0 := impl_ValOk.mono_l k
 unfold impl_ValOk.f
 with_reducible repeat' first | exact ih0 _ _ _ _ _ _ _ _ | exact lrz _ | exact lnz _ | refine liz ?_ ?_ | refine lbz ?_ fun _ => ?_
set_option maxHeartbeats 80000000 in
set_option maxRecDepth 100000 in
theorem impl_ValOk.calls (k : Nat) (A0_0 : Option Addr) (c0_0 : Nat) (l0_0 : List (S41)) (A0_1 : Option Addr) (c0_1 : Nat) (l0_1 : List (S86)) (A0_2 : Option Addr) (c0_2 : Nat) (l0_2 : List (S47)) (A0_3 : Option Addr) (c0_3 : Nat) (l0_3 : List (S35)) (a1_0 : Int) (a1_1 : Int) (r : Bool) (w : World) (hr0_0 : Kd.C k41 w A0_0 l0_0.length l0_0) (hc0_0 : l0_0.length <= c0_0) (hr0_1 : Kd.C k86 w A0_1 l0_1.length l0_1) (hc0_1 : l0_1.length <= c0_1) (hr0_2 : Kd.C k47 w A0_2 l0_2.length l0_2) (hc0_2 : l0_2.length <= c0_2) (hr0_3 : Kd.C k35 w A0_3 l0_3.length l0_3) (hc0_3 : l0_3.length <= c0_3) (h : impl_ValOk.f k l0_0 l0_1 l0_2 l0_3 a1_0 a1_1 = some r) :
  Calls Tryd.prog 13 #[.agg #[.slice A0_0 l0_0.length c0_0, .slice A0_1 l0_1.length c0_1, .slice A0_2 l0_2.length c0_2, .slice A0_3 l0_3.length c0_3], .agg #[.int .i64 a1_0, .int .i64 a1_1]] w fun e w' => e = .returned (.bool r) /\ Below w.heap.size w w' := by
 have hu29 := Tryd.underlying29
 have hu35 := Tryd.underlying35
 have HR0_0 := Aside0.mk hr0_0
 have HC0_0 := Aside0.mk hc0_0
 clear hr0_0 hc0_0
 have HR0_1 := Aside0.mk hr0_1
 have HC0_1 := Aside0.mk hc0_1
 clear hr0_1 hc0_1
 have HR0_2 := Aside0.mk hr0_2
 have HC0_2 := Aside0.mk hc0_2
 clear hr0_2 hc0_2
 have HR0_3 := Aside0.mk hr0_3
 have HC0_3 := Aside0.mk hc0_3
 clear hr0_3 hc0_3
 have HB := Aside0.mk (Below.refl w.heap.size w)
 have H : (if a1_0 = 0 then ((impl_in.f a1_1 0 65535).bind fun t256 => (some t256)) else (if a1_0 = 2 then (some (a1_1 == 0)) else (if a1_0 = 1 then ((impl_in.f a1_1 0 (wrap64 ((l0_1.length : Int) - 1))).bind fun t257 => (some t257)) else (if a1_0 = 3 then (impl_ValOk.j0 k a1_0 (a1_0 == 3) l0_0 l0_1 l0_2 l0_3 a1_0 a1_1) else (impl_ValOk.j0 k a1_0 (a1_0 == 4) l0_0 l0_1 l0_2 l0_3 a1_0 a1_1))))) = some r := h
 clear h
 by_cases c3 : a1_0 = 0
 ·rw [if_pos c3] at H
  have c3b0 : (a1_0 == 0) = true := beq_iff_eq.mpr c3
  have c3b1 : (a1_0 != 0) = false := bne_eq_false_iff_eq.mpr c3
  clear c3
  replace H := bi H
  obtain ⟨t256, A40, H⟩ := H
  try dsimp only at H
  have A4 := Aside0.mk A40
  clear A40
  obtain rfl := Option.some.inj H
  go_enter Tryd.func13, Tryd.ntmps13
  go_wp2_with (first | ((with_reducible refine gate_dst (N := 2) rfl ?_); refine box_event ?hg (N := 2) ?hd (cs := #[.slice A0_0 l0_0.length c0_0, .slice A0_1 l0_1.length c0_1, .slice A0_2 l0_2.length c0_2, .slice A0_3 l0_3.length c0_3]) (t := 29) ?hr ?_; (case hd => rfl); (case hg => rfl); (case hr => exact vz); intro gb254 hg w5 hbox hb; have BK254 := Aside0.mk (hbox); have GW254 := Aside0.mk ((by rw [hg]; exact (below_size (bz0 HB.out)) : w.heap.size <= gb254)); have GE254 := GW254; replace HB := Aside0.mk (below_step (bz0 HB.out) hb); clear hb hbox hg) | ((with_reducible refine gate_dst (N := 3) rfl ?_); refine box_event ?hg (N := 3) ?hd (cs := #[.int .i64 a1_0, .int .i64 a1_1]) (t := 35) ?hr ?_; (case hd => rfl); (case hg => rfl); (case hr => exact vz); intro gb255 hg w6 hbox hb; have BK255 := Aside0.mk (hbox); have GW255 := Aside0.mk ((by rw [hg]; exact (below_size (bz1 HB.out GE254.out)) : w.heap.size <= gb255)); have GE255 := GW255; replace HB := Aside0.mk (below_step (bz1 HB.out GE254.out) hb); have NB254_255 := Aside0.mk ((by rw [hg]; exact Nat.ne_of_lt (blk_lt (kz BK254.out)) : gb254 ≠ gb255)); have NB255_254 := Aside0.mk ((by rw [hg]; exact Nat.ne_of_gt (blk_lt (kz BK254.out)) : gb255 ≠ gb254)); replace BK254 := Aside0.mk (blk_below (kz BK254.out) hb); clear hb hbox hg; have hnb7 := NB255_254.out; have hnc7 := NB254_255.out; obtain ⟨hcz8_0, hcz8_1⟩ := cz2 BK255.out; obtain ⟨hfz8_0, hfz8_1⟩ := fz2 BK255.out) | ((with_reducible refine gate_callee (f := 42) rfl ?_); refine goesL_ (some 11) rfl rfl Tryd.func42 (by kernel_rfl) rfl #[.int .i64 a1_1, .int .i64 0, .int .i64 65535] rfl lz ?_; (with_reducible refine (impl_in.calls a1_1 0 65535 t256 _ A4.out).mono ?_); rintro e w' ⟨rfl, ⟨nd, rfl⟩⟩; refine ⟨_, rfl, ?_⟩))
  go_ret
  exact ⟨gz, (bz2 HB.out GE254.out GE255.out)⟩
 ·rw [if_neg c3] at H
  have c3b0 : (a1_0 == 0) = false := beq_eq_false_iff_ne.mpr c3
  have c3b1 : (a1_0 != 0) = true := bne_iff_ne.mpr c3
  by_cases c9 : a1_0 = 2
  ·rw [if_pos c9] at H
   have c9b0 : (a1_0 == 2) = true := beq_iff_eq.mpr c9
   have c9b1 : (a1_0 != 2) = false := bne_eq_false_iff_eq.mpr c9
   clear c9
   obtain rfl := Option.some.inj H
   go_enter Tryd.func13, Tryd.ntmps13
   go_wp2_with (first | ((with_reducible refine gate_dst (N := 2) rfl ?_); refine box_event ?hg (N := 2) ?hd (cs := #[.slice A0_0 l0_0.length c0_0, .slice A0_1 l0_1.length c0_1, .slice A0_2 l0_2.length c0_2, .slice A0_3 l0_3.length c0_3]) (t := 29) ?hr ?_; (case hd => rfl); (case hg => rfl); (case hr => exact vz); intro gb254 hg w10 hbox hb; have BK254 := Aside0.mk (hbox); have GW254 := Aside0.mk ((by rw [hg]; exact (below_size (bz0 HB.out)) : w.heap.size <= gb254)); have GE254 := GW254; replace HB := Aside0.mk (below_step (bz0 HB.out) hb); clear hb hbox hg) | ((with_reducible refine gate_dst (N := 3) rfl ?_); refine box_event ?hg (N := 3) ?hd (cs := #[.int .i64 a1_0, .int .i64 a1_1]) (t := 35) ?hr ?_; (case hd => rfl); (case hg => rfl); (case hr => exact vz); intro gb255 hg w11 hbox hb; have BK255 := Aside0.mk (hbox); have GW255 := Aside0.mk ((by rw [hg]; exact (below_size (bz1 HB.out GE254.out)) : w.heap.size <= gb255)); have GE255 := GW255; replace HB := Aside0.mk (below_step (bz1 HB.out GE254.out) hb); have NB254_255 := Aside0.mk ((by rw [hg]; exact Nat.ne_of_lt (blk_lt (kz BK254.out)) : gb254 ≠ gb255)); have NB255_254 := Aside0.mk ((by rw [hg]; exact Nat.ne_of_gt (blk_lt (kz BK254.out)) : gb255 ≠ gb254)); replace BK254 := Aside0.mk (blk_below (kz BK254.out) hb); clear hb hbox hg; have hnb12 := NB255_254.out; have hnc12 := NB254_255.out; obtain ⟨hcz13_0, hcz13_1⟩ := cz2 BK255.out; obtain ⟨hfz13_0, hfz13_1⟩ := fz2 BK255.out))
   go_ret
   exact ⟨gz, (bz2 HB.out GE254.out GE255.out)⟩
  ·rw [if_neg c9] at H
   have c9b0 : (a1_0 == 2) = false := beq_eq_false_iff_ne.mpr c9
   have c9b1 : (a1_0 != 2) = true := bne_iff_ne.mpr c9
   by_cases c14 : a1_0 = 1
   ·rw [if_pos c14] at H
    have c14b0 : (a1_0 == 1) = true := beq_iff_eq.mpr c14
    have c14b1 : (a1_0 != 1) = false := bne_eq_false_iff_eq.mpr c14
    clear c14
    replace H := bi H
    obtain ⟨t257, A150, H⟩ := H
    try dsimp only at H
    have A15 := Aside0.mk A150
    clear A150
    obtain rfl := Option.some.inj H
    go_enter Tryd.func13, Tryd.ntmps13
    go_wp2_with (first | ((with_reducible refine gate_dst (N := 2) rfl ?_); refine box_event ?hg (N := 2) ?hd (cs := #[.slice A0_0 l0_0.length c0_0, .slice A0_1 l0_1.length c0_1, .slice A0_2 l0_2.length c0_2, .slice A0_3 l0_3.length c0_3]) (t := 29) ?hr ?_; (case hd => rfl); (case hg => rfl); (case hr => exact vz); intro gb254 hg w16 hbox hb; have BK254 := Aside0.mk (hbox); have GW254 := Aside0.mk ((by rw [hg]; exact (below_size (bz0 HB.out)) : w.heap.size <= gb254)); have GE254 := GW254; replace HB := Aside0.mk (below_step (bz0 HB.out) hb); clear hb hbox hg) | ((with_reducible refine gate_dst (N := 3) rfl ?_); refine box_event ?hg (N := 3) ?hd (cs := #[.int .i64 a1_0, .int .i64 a1_1]) (t := 35) ?hr ?_; (case hd => rfl); (case hg => rfl); (case hr => exact vz); intro gb255 hg w17 hbox hb; have BK255 := Aside0.mk (hbox); have GW255 := Aside0.mk ((by rw [hg]; exact (below_size (bz1 HB.out GE254.out)) : w.heap.size <= gb255)); have GE255 := GW255; replace HB := Aside0.mk (below_step (bz1 HB.out GE254.out) hb); have NB254_255 := Aside0.mk ((by rw [hg]; exact Nat.ne_of_lt (blk_lt (kz BK254.out)) : gb254 ≠ gb255)); have NB255_254 := Aside0.mk ((by rw [hg]; exact Nat.ne_of_gt (blk_lt (kz BK254.out)) : gb255 ≠ gb254)); replace BK254 := Aside0.mk (blk_below (kz BK254.out) hb); clear hb hbox hg; have hnb18 := NB255_254.out; have hnc18 := NB254_255.out; obtain ⟨hcz19_0, hcz19_1⟩ := cz2 BK255.out; obtain ⟨hfz19_0, hfz19_1⟩ := fz2 BK255.out; obtain ⟨hcz20_0, hcz20_1, hcz20_2, hcz20_3⟩ := cz4 BK254.out; obtain ⟨hfz20_0, hfz20_1, hfz20_2, hfz20_3⟩ := fz4 BK254.out) | ((with_reducible refine gate_callee (f := 42) rfl ?_); refine goesL_ (some 25) rfl rfl Tryd.func42 (by kernel_rfl) rfl #[.int .i64 a1_1, .int .i64 0, .int .i64 (wrap64 ((l0_1.length : Int) - 1))] rfl lz ?_; (with_reducible refine (impl_in.calls a1_1 0 (wrap64 ((l0_1.length : Int) - 1)) t257 _ A15.out).mono ?_); rintro e w' ⟨rfl, ⟨nd, rfl⟩⟩; refine ⟨_, rfl, ?_⟩))
    go_ret
    exact ⟨gz, (bz2 HB.out GE254.out GE255.out)⟩
   ·rw [if_neg c14] at H
    have c14b0 : (a1_0 == 1) = false := beq_eq_false_iff_ne.mpr c14
    have c14b1 : (a1_0 != 1) = true := bne_iff_ne.mpr c14
    have HC21 := Aside0.mk H
    clear H
    go_enter Tryd.func13, Tryd.ntmps13
    go_upto_if 26 with (first | ((with_reducible refine gate_dst (N := 2) rfl ?_); refine box_event ?hg (N := 2) ?hd (cs := #[.slice A0_0 l0_0.length c0_0, .slice A0_1 l0_1.length c0_1, .slice A0_2 l0_2.length c0_2, .slice A0_3 l0_3.length c0_3]) (t := 29) ?hr ?_; (case hd => rfl); (case hg => rfl); (case hr => exact vz); intro gb254 hg w22 hbox hb; have BK254 := Aside0.mk (hbox); have GW254 := Aside0.mk ((by rw [hg]; exact (below_size (bz0 HB.out)) : w.heap.size <= gb254)); have GE254 := GW254; replace HB := Aside0.mk (below_step (bz0 HB.out) hb); clear hb hbox hg) | ((with_reducible refine gate_dst (N := 3) rfl ?_); refine box_event ?hg (N := 3) ?hd (cs := #[.int .i64 a1_0, .int .i64 a1_1]) (t := 35) ?hr ?_; (case hd => rfl); (case hg => rfl); (case hr => exact vz); intro gb255 hg w23 hbox hb; have BK255 := Aside0.mk (hbox); have GW255 := Aside0.mk ((by rw [hg]; exact (below_size (bz1 HB.out GE254.out)) : w.heap.size <= gb255)); have GE255 := GW255; replace HB := Aside0.mk (below_step (bz1 HB.out GE254.out) hb); have NB254_255 := Aside0.mk ((by rw [hg]; exact Nat.ne_of_lt (blk_lt (kz BK254.out)) : gb254 ≠ gb255)); have NB255_254 := Aside0.mk ((by rw [hg]; exact Nat.ne_of_gt (blk_lt (kz BK254.out)) : gb255 ≠ gb254)); replace BK254 := Aside0.mk (blk_below (kz BK254.out) hb); clear hb hbox hg; have hnb24 := NB255_254.out; have hnc24 := NB254_255.out; obtain ⟨hcz25_0, hcz25_1⟩ := cz2 BK255.out; obtain ⟨hfz25_0, hfz25_1⟩ := fz2 BK255.out))
    (try simp only [Act.put, sz1, sz2, sz3])
    go_cut [26] (fun v26 wc => ∃ (kq : Nat) (x26_20 : Bool), v26 = .bool x26_20 /\ Aside0 (impl_ValOk.j0 kq a1_0 x26_20 l0_0 l0_1 l0_2 l0_3 a1_0 a1_1 = some r) /\ Aside0 (kq <= k) /\ Aside0 (wc.heap[gb254]? = some (.cells #[(.slice A0_0 l0_0.length c0_0), (.slice A0_1 l0_1.length c0_1), (.slice A0_2 l0_2.length c0_2), (.slice A0_3 l0_3.length c0_3)] 29 (0, 0))) /\ Aside0 (wc.heap[gb255]? = some (.cells #[.int .i64 a1_0, .int .i64 a1_1] 35 (0, 0))) /\ Aside0 (Below w.heap.size w wc))
    case first =>
     have H := HC21.out
     clear HC21
     by_cases c26 : a1_0 = 3
     ·rw [if_pos c26] at H
      have c26b0 : (a1_0 == 3) = true := beq_iff_eq.mpr c26
      have c26b1 : (a1_0 != 3) = false := bne_eq_false_iff_eq.mpr c26
      clear c26
      (first | rw [c26b0] | (simp only [i64_w, i32_w]; rw [c26b0]) | skip)
      have H' := Aside0.mk H
      clear H
      go_wp2
      go_meet
      case rel => exact ⟨_, ((a1_0 == 3)), ez, H', ⟨by first | omega | exact Nat.le_refl _⟩, ⟨by refine kq ?_; exact BK254.out⟩, ⟨by refine kq ?_; exact BK255.out⟩, ⟨(bz2 HB.out GE254.out GE255.out)⟩⟩
     ·rw [if_neg c26] at H
      have c26b0 : (a1_0 == 3) = false := beq_eq_false_iff_ne.mpr c26
      have c26b1 : (a1_0 != 3) = true := bne_iff_ne.mpr c26
      (first | rw [c26b0] | (simp only [i64_w, i32_w]; rw [c26b0]) | skip)
      have H' := Aside0.mk H
      clear H
      go_wp2
      go_meet
      case rel => exact ⟨_, ((a1_0 == 4)), ez, H', ⟨by first | omega | exact Nat.le_refl _⟩, ⟨by refine kq ?_; exact BK254.out⟩, ⟨by refine kq ?_; exact BK255.out⟩, ⟨(bz2 HB.out GE254.out GE255.out)⟩⟩
    case rest =>
     clear HC21
     try clear c1
     try clear c2
     try clear p2
     try clear c3
     try clear c3b0
     try clear c3b1
     try clear c4
     try clear p6
     try clear c7
     try clear c9
     try clear c9b0
     try clear c9b1
     try clear c12
     try clear c13
     try clear c14
     try clear c14b0
     try clear c14b1
     try clear c18
     try clear c24
     try clear c26
     try clear c26b0
     try clear c26b1
     try clear hcz13_0 hcz13_1
     try clear hcz19_0 hcz19_1
     try clear hcz20_0 hcz20_1 hcz20_2 hcz20_3
     try clear hcz25_0 hcz25_1
     try clear hcz8_0 hcz8_1
     try clear hfz13_0 hfz13_1
     try clear hfz19_0 hfz19_1
     try clear hfz20_0 hfz20_1 hfz20_2 hfz20_3
     try clear hfz25_0 hfz25_1
     try clear hfz8_0 hfz8_1
     obtain ⟨kq, x26_20, rfl, HA, HJ20, BK254, BK255, HB⟩ := hcut
     cases kq with
     | zero => exact absurd HA.out (by simp [impl_ValOk.j0])
     | succ kj20 =>
      have H := HA.out
      clear HA
      simp only [impl_ValOk.j0] at H
      by_cases c27 : x26_20 = true
      ·subst c27
       have H1 := hp H
       clear H
       have H := H1
       clear H1
       replace H := bi H
       obtain ⟨t258, A280, H⟩ := H
       try dsimp only at H
       have A28 := Aside0.mk A280
       clear A280
       obtain rfl := Option.some.inj H
       have hnb29 := NB255_254.out
       have hnc29 := NB254_255.out
       obtain ⟨hcz30_0, hcz30_1⟩ := cz2 BK255.out
       obtain ⟨hfz30_0, hfz30_1⟩ := fz2 BK255.out
       obtain ⟨hcz31_0, hcz31_1, hcz31_2, hcz31_3⟩ := cz4 BK254.out
       obtain ⟨hfz31_0, hfz31_1, hfz31_2, hfz31_3⟩ := fz4 BK254.out
       go_wp2_with (first | ((with_reducible refine gate_callee (f := 42) rfl ?_); refine goesL_ (some 35) rfl rfl Tryd.func42 (by kernel_rfl) rfl #[.int .i64 a1_1, .int .i64 0, .int .i64 (wrap64 ((l0_2.length : Int) - 1))] rfl lz ?_; (with_reducible refine (impl_in.calls a1_1 0 (wrap64 ((l0_2.length : Int) - 1)) t258 _ A28.out).mono ?_); rintro e w' ⟨rfl, ⟨nd, rfl⟩⟩; refine ⟨_, rfl, ?_⟩))
       go_ret
       exact ⟨gz, (bz2 HB.out GE254.out GE255.out)⟩
      ·replace c27 := Bool.eq_false_iff.mpr c27
       subst c27
       have H1 := hq H
       clear H
       have H := H1
       clear H1
       by_cases c32 : a1_0 = 5
       ·rw [if_pos c32] at H
        have c32b0 : (a1_0 == 5) = true := beq_iff_eq.mpr c32
        have c32b1 : (a1_0 != 5) = false := bne_eq_false_iff_eq.mpr c32
        clear c32
        replace H := bi H
        obtain ⟨t259, A330, H⟩ := H
        try dsimp only at H
        have A33 := Aside0.mk A330
        clear A330
        obtain rfl := Option.some.inj H
        have hnb34 := NB255_254.out
        have hnc34 := NB254_255.out
        obtain ⟨hcz35_0, hcz35_1⟩ := cz2 BK255.out
        obtain ⟨hfz35_0, hfz35_1⟩ := fz2 BK255.out
        obtain ⟨hcz36_0, hcz36_1, hcz36_2, hcz36_3⟩ := cz4 BK254.out
        obtain ⟨hfz36_0, hfz36_1, hfz36_2, hfz36_3⟩ := fz4 BK254.out
        go_wp2_with (first | ((with_reducible refine gate_callee (f := 42) rfl ?_); refine goesL_ (some 44) rfl rfl Tryd.func42 (by kernel_rfl) rfl #[.int .i64 a1_1, .int .i64 0, .int .i64 (wrap64 ((l0_3.length : Int) - 1))] rfl lz ?_; (with_reducible refine (impl_in.calls a1_1 0 (wrap64 ((l0_3.length : Int) - 1)) t259 _ A33.out).mono ?_); rintro e w' ⟨rfl, ⟨nd, rfl⟩⟩; refine ⟨_, rfl, ?_⟩))
        go_ret
        exact ⟨gz, (bz2 HB.out GE254.out GE255.out)⟩
       ·rw [if_neg c32] at H
        have c32b0 : (a1_0 == 5) = false := beq_eq_false_iff_ne.mpr c32
        have c32b1 : (a1_0 != 5) = true := bne_iff_ne.mpr c32
        obtain rfl := Option.some.inj H
        go_wp2
        go_ret
        exact ⟨gz, (bz2 HB.out GE254.out GE255.out)⟩
end Go.Proofs.YtlhofeikcaejpaaDoor.PFnValues
