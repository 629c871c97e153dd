/- PFnExactPrintx5, of the words and walks that the law FnExactPrint needs; made by this session's program out of printed texts. -/

import Derived.Test.YtmilegjmiiccdaaDoorVEPrintPx0
import Derived.Test.YtmilegjmiiccdaaDoorVEPrintPx1
import Derived.Test.YtmilegjmiiccdaaDoorVEPrintPx4
namespace Go.Proofs.YtmilegjmiiccdaaDoor.PFnExactPrint
open Go.RowKit Go.Proofs.YtmilegjmiiccdaaDoorW.PrintWords Go.Proofs.YtmilegjmiiccdaaDoorW.PrintLast Go.Proofs.YtmilegjmiiccdaaDoorW.PrintMore
attribute [local go_sem] max2_int min2_int max_two min_two max_three min_three max_four min_four
set_option linter.unusedVariables false
set_option linter.unusedSimpArgs false
def spec_KeyOf.f (a0_0 : Int) (a0_1 : Int) (a0_2 : Int) (a0_3 : Int) (a0_4 : Int) (a0_5 : ByteArray) (a0_6 : ByteArray) : Option (ByteArray) := if a0_0 = 8 then ((spec_l1In.f a0_4 0 3).bind fun t170 => (if t170 = true then ((some (([(⟨#[97, 100, 100]⟩ : ByteArray), (⟨#[115, 117, 98]⟩ : ByteArray), (⟨#[108, 101, 115, 115]⟩ : ByteArray), (⟨#[115, 97, 109, 101]⟩ : ByteArray)] : List ByteArray) : List ByteArray)).bind fun y171 => (if 0 <= a0_4 then (if a0_4 < (y171.length : Int) then (some (rdOf ByteArray.empty y171 a0_4)) else (none)) else (none))) else (some (⟨#[]⟩ : ByteArray)))) else ((spec_l1In.f a0_0 3 19).bind fun t175 => (if t175 = true then ((some (([(⟨#[102, 117, 110]⟩ : ByteArray), (⟨#[97, 112, 112]⟩ : ByteArray), (⟨#[108, 101, 116]⟩ : ByteArray), (⟨#[114, 101, 99]⟩ : ByteArray), (⟨#[105, 102]⟩ : ByteArray), (⟨#[]⟩ : ByteArray), (⟨#[112, 97, 105, 114]⟩ : ByteArray), (⟨#[102, 115, 116]⟩ : ByteArray), (⟨#[115, 110, 100]⟩ : ByteArray), (⟨#[110, 105, 108]⟩ : ByteArray), (⟨#[99, 111, 110, 115]⟩ : ByteArray), (⟨#[109, 97, 116, 99, 104]⟩ : ByteArray), (⟨#[114, 101, 102]⟩ : ByteArray), (⟨#[103, 101, 116]⟩ : ByteArray), (⟨#[115, 101, 116]⟩ : ByteArray), (⟨#[114, 97, 105, 115, 101]⟩ : ByteArray), (⟨#[116, 114, 121]⟩ : ByteArray)] : List ByteArray) : List ByteArray)).bind fun y176 => (if 0 <= (wrap64 (a0_0 - 3)) then (if (wrap64 (a0_0 - 3)) < (y176.length : Int) then (some (rdOf ByteArray.empty y176 (wrap64 (a0_0 - 3)))) else (none)) else (none))) else (some (⟨#[]⟩ : ByteArray))))
set_option maxHeartbeats 8000000 in
set_option maxRecDepth 100000 in
theorem spec_KeyOf.calls (a0_0 : Int) (a0_1 : Int) (a0_2 : Int) (a0_3 : Int) (a0_4 : Int) (a0_5 : ByteArray) (a0_6 : ByteArray) (r : ByteArray) (w : World) (h : spec_KeyOf.f a0_0 a0_1 a0_2 a0_3 a0_4 a0_5 a0_6 = some r) :
  Calls Tryd.prog 66 #[.agg #[.int .i64 a0_0, .int .i64 a0_1, .int .i64 a0_2, .int .i64 a0_3, .int .i64 a0_4, .string a0_5, .string a0_6]] w fun e w' => e = .returned (.string r) /\ Below w.heap.size w w' := by
 have hu43 := Tryd.underlying43
 have HB := Aside0.mk (Below.refl w.heap.size w)
 have H : (if a0_0 = 8 then ((spec_l1In.f a0_4 0 3).bind fun t170 => (if t170 = true then ((some (([(⟨#[97, 100, 100]⟩ : ByteArray), (⟨#[115, 117, 98]⟩ : ByteArray), (⟨#[108, 101, 115, 115]⟩ : ByteArray), (⟨#[115, 97, 109, 101]⟩ : ByteArray)] : List ByteArray) : List ByteArray)).bind fun y171 => (if 0 <= a0_4 then (if a0_4 < (y171.length : Int) then (some (rdOf ByteArray.empty y171 a0_4)) else (none)) else (none))) else (some (⟨#[]⟩ : ByteArray)))) else ((spec_l1In.f a0_0 3 19).bind fun t175 => (if t175 = true then ((some (([(⟨#[102, 117, 110]⟩ : ByteArray), (⟨#[97, 112, 112]⟩ : ByteArray), (⟨#[108, 101, 116]⟩ : ByteArray), (⟨#[114, 101, 99]⟩ : ByteArray), (⟨#[105, 102]⟩ : ByteArray), (⟨#[]⟩ : ByteArray), (⟨#[112, 97, 105, 114]⟩ : ByteArray), (⟨#[102, 115, 116]⟩ : ByteArray), (⟨#[115, 110, 100]⟩ : ByteArray), (⟨#[110, 105, 108]⟩ : ByteArray), (⟨#[99, 111, 110, 115]⟩ : ByteArray), (⟨#[109, 97, 116, 99, 104]⟩ : ByteArray), (⟨#[114, 101, 102]⟩ : ByteArray), (⟨#[103, 101, 116]⟩ : ByteArray), (⟨#[115, 101, 116]⟩ : ByteArray), (⟨#[114, 97, 105, 115, 101]⟩ : ByteArray), (⟨#[116, 114, 121]⟩ : ByteArray)] : List ByteArray) : List ByteArray)).bind fun y176 => (if 0 <= (wrap64 (a0_0 - 3)) then (if (wrap64 (a0_0 - 3)) < (y176.length : Int) then (some (rdOf ByteArray.empty y176 (wrap64 (a0_0 - 3)))) else (none)) else (none))) else (some (⟨#[]⟩ : ByteArray))))) = some r := h
 clear h
 by_cases c2 : a0_0 = 8
 ·rw [if_pos c2] at H
  have c2b0 : (a0_0 == 8) = true := beq_iff_eq.mpr c2
  have c2b1 : (a0_0 != 8) = false := bne_eq_false_iff_eq.mpr c2
  clear c2
  replace H := bi H
  obtain ⟨t170, A30, H⟩ := H
  try dsimp only at H
  have A3 := Aside0.mk A30
  clear A30
  by_cases c4 : t170 = true
  ·subst c4
   have H1 := hp H
   clear H
   have H := H1
   clear H1
   obtain ⟨y171, hy171⟩ : ∃ y_ : List ByteArray, y_ = (([(⟨#[97, 100, 100]⟩ : ByteArray), (⟨#[115, 117, 98]⟩ : ByteArray), (⟨#[108, 101, 115, 115]⟩ : ByteArray), (⟨#[115, 97, 109, 101]⟩ : ByteArray)] : List ByteArray)) := ⟨_, rfl⟩
   replace H : (if 0 <= a0_4 then (if a0_4 < (y171.length : Int) then (some (rdOf ByteArray.empty y171 a0_4)) else (none)) else (none)) = some r := yz hy171 H
   have Ny171 := Aside0.mk hy171
   clear hy171
   replace H := iz H
   obtain ⟨c5, H⟩ := H
   have c5b0 := decide_eq_true c5
   clear c5
   replace H := iz H
   obtain ⟨c6, H⟩ := H
   have c6b0 := decide_eq_true c6
   clear c6
   obtain rfl := Option.some.inj H
   go_enter Tryd.func66, Tryd.ntmps66
   go_wp2_with (first | ((with_reducible refine gate_dst (N := 1) rfl ?_); refine box_event ?hg (N := 1) ?hd (cs := #[.int .i64 a0_0, .int .i64 a0_1, .int .i64 a0_2, .int .i64 a0_3, .int .i64 a0_4, .string a0_5, .string a0_6]) (t := 43) ?hr ?_; (case hd => rfl); (case hg => rfl); (case hr => exact vz); intro gb169 hg w7 hbox hb; have BK169 := Aside0.mk (hbox); have GW169 := Aside0.mk ((by rw [hg]; exact (below_size (bz0 HB.out)) : w.heap.size <= gb169)); have GE169 := Aside0.mk ((by rw [hg]; exact (below_size (bz0 HB.out)) : w.heap.size <= gb169)); replace HB := Aside0.mk (below_step (bz0 HB.out) hb); clear hb hbox hg; obtain ⟨hcz8_0, hcz8_1, hcz8_2, hcz8_3, hcz8_4, hcz8_5, hcz8_6⟩ := cz7 BK169.out; obtain ⟨hfz8_0, hfz8_1, hfz8_2, hfz8_3, hfz8_4, hfz8_5, hfz8_6⟩ := fz7 BK169.out) | ((with_reducible refine gate_callee (f := 39) rfl ?_); refine goesL_ (some 8) rfl rfl Tryd.func39 (by kernel_rfl) rfl #[.int .i64 a0_4, .int .i64 0, .int .i64 3] rfl lz ?_; (with_reducible refine (spec_l1In.calls a0_4 0 3 true _ A3.out).mono ?_); rintro e w' ⟨rfl, ⟨nd, rfl⟩⟩; refine ⟨_, rfl, ?_⟩) | ((with_reducible refine gate_dst (N := 10) rfl ?_); refine Kd.R_lit Kd.string _ 9 ?hg (N := 10) ?hd (xs := ([(⟨#[97, 100, 100]⟩ : ByteArray), (⟨#[115, 117, 98]⟩ : ByteArray), (⟨#[108, 101, 115, 115]⟩ : ByteArray), (⟨#[115, 97, 109, 101]⟩ : ByteArray)] : List ByteArray)) (inner := [.string (⟨#[97, 100, 100]⟩ : ByteArray), .string (⟨#[115, 117, 98]⟩ : ByteArray), .string (⟨#[108, 101, 115, 115]⟩ : ByteArray), .string (⟨#[115, 97, 109, 101]⟩ : ByteArray)]) (ok := fun _ => True) (okp := fun _ => True) ?hr ?hp (fun _ hk => hk) trivial (Below.refl _ _) (Nat.le_refl _) (by simp) ?_; (case hd => rfl); (case hg => rfl); (case hr => exact vz); (case hp => exact (Reps.one (show Kd.M Kd.string _ _ _ (⟨#[97, 100, 100]⟩ : ByteArray) [.string (⟨#[97, 100, 100]⟩ : ByteArray)] from rfl) (Reps.one (show Kd.M Kd.string _ _ _ (⟨#[115, 117, 98]⟩ : ByteArray) [.string (⟨#[115, 117, 98]⟩ : ByteArray)] from rfl) (Reps.one (show Kd.M Kd.string _ _ _ (⟨#[108, 101, 115, 115]⟩ : ByteArray) [.string (⟨#[108, 101, 115, 115]⟩ : ByteArray)] from rfl) (Reps.one (show Kd.M Kd.string _ _ _ (⟨#[115, 97, 109, 101]⟩ : ByteArray) [.string (⟨#[115, 97, 109, 101]⟩ : ByteArray)] from rfl) (Reps.none _ _)))))); intro v172 w9 ho10 hb hg_ hnew_; clear hg_ hnew_; (first | rw [<- Ny171.out] at ho10 | (simp only [Int.reduceToNat] at ho10; rw [<- Ny171.out] at ho10)); have HO173 := Aside0.mk (Kd.R_lower ho10 (below_size (bz1 HB.out GE169.out))); replace BK169 := Aside0.mk (blk_below (kz BK169.out) hb); replace HB := Aside0.mk (below_step (bz1 HB.out GE169.out) hb); clear hb ho10; obtain ⟨hcz11_0, hcz11_1, hcz11_2, hcz11_3, hcz11_4, hcz11_5, hcz11_6⟩ := cz7 BK169.out; obtain ⟨hfz11_0, hfz11_1, hfz11_2, hfz11_3, hfz11_4, hfz11_5, hfz11_6⟩ := fz7 BK169.out; obtain ⟨Ao12, co12, eo12⟩ := Kd.R_slice HO173.out; subst eo12; have p174 : 0 <= (a0_4 : Int) := oz; have q174 : a0_4 < (y171.length : Int) := oz; obtain ⟨ad174, e174, hx174_0⟩ := Kd.at_string (Kd.R_reads' HO173.out).2.2 a0_4 p174 q174; cases e174; replace p174 := eq_true p174; replace q174 := eq_true q174))
   go_ret
   exact ⟨gz, (bz1 HB.out GE169.out)⟩
  ·replace c4 := Bool.eq_false_iff.mpr c4
   subst c4
   have H1 := hq H
   clear H
   have H := H1
   clear H1
   obtain rfl := Option.some.inj H
   go_enter Tryd.func66, Tryd.ntmps66
   go_wp2_with (first | ((with_reducible refine gate_dst (N := 1) rfl ?_); refine box_event ?hg (N := 1) ?hd (cs := #[.int .i64 a0_0, .int .i64 a0_1, .int .i64 a0_2, .int .i64 a0_3, .int .i64 a0_4, .string a0_5, .string a0_6]) (t := 43) ?hr ?_; (case hd => rfl); (case hg => rfl); (case hr => exact vz); intro gb169 hg w13 hbox hb; have BK169 := Aside0.mk (hbox); have GW169 := Aside0.mk ((by rw [hg]; exact (below_size (bz0 HB.out)) : w.heap.size <= gb169)); have GE169 := Aside0.mk ((by rw [hg]; exact (below_size (bz0 HB.out)) : w.heap.size <= gb169)); replace HB := Aside0.mk (below_step (bz0 HB.out) hb); clear hb hbox hg; obtain ⟨hcz14_0, hcz14_1, hcz14_2, hcz14_3, hcz14_4, hcz14_5, hcz14_6⟩ := cz7 BK169.out; obtain ⟨hfz14_0, hfz14_1, hfz14_2, hfz14_3, hfz14_4, hfz14_5, hfz14_6⟩ := fz7 BK169.out) | ((with_reducible refine gate_callee (f := 39) rfl ?_); refine goesL_ (some 8) rfl rfl Tryd.func39 (by kernel_rfl) rfl #[.int .i64 a0_4, .int .i64 0, .int .i64 3] rfl lz ?_; (with_reducible refine (spec_l1In.calls a0_4 0 3 false _ A3.out).mono ?_); rintro e w' ⟨rfl, ⟨nd, rfl⟩⟩; refine ⟨_, rfl, ?_⟩))
   go_ret
   exact ⟨gz, (bz1 HB.out GE169.out)⟩
 ·rw [if_neg c2] at H
  have c2b0 : (a0_0 == 8) = false := beq_eq_false_iff_ne.mpr c2
  have c2b1 : (a0_0 != 8) = true := bne_iff_ne.mpr c2
  replace H := bi H
  obtain ⟨t175, A150, H⟩ := H
  try dsimp only at H
  have A15 := Aside0.mk A150
  clear A150
  by_cases c16 : t175 = true
  ·subst c16
   have H1 := hp H
   clear H
   have H := H1
   clear H1
   obtain ⟨y176, hy176⟩ : ∃ y_ : List ByteArray, y_ = (([(⟨#[102, 117, 110]⟩ : ByteArray), (⟨#[97, 112, 112]⟩ : ByteArray), (⟨#[108, 101, 116]⟩ : ByteArray), (⟨#[114, 101, 99]⟩ : ByteArray), (⟨#[105, 102]⟩ : ByteArray), (⟨#[]⟩ : ByteArray), (⟨#[112, 97, 105, 114]⟩ : ByteArray), (⟨#[102, 115, 116]⟩ : ByteArray), (⟨#[115, 110, 100]⟩ : ByteArray), (⟨#[110, 105, 108]⟩ : ByteArray), (⟨#[99, 111, 110, 115]⟩ : ByteArray), (⟨#[109, 97, 116, 99, 104]⟩ : ByteArray), (⟨#[114, 101, 102]⟩ : ByteArray), (⟨#[103, 101, 116]⟩ : ByteArray), (⟨#[115, 101, 116]⟩ : ByteArray), (⟨#[114, 97, 105, 115, 101]⟩ : ByteArray), (⟨#[116, 114, 121]⟩ : ByteArray)] : List ByteArray)) := ⟨_, rfl⟩
   replace H : (if 0 <= (wrap64 (a0_0 - 3)) then (if (wrap64 (a0_0 - 3)) < (y176.length : Int) then (some (rdOf ByteArray.empty y176 (wrap64 (a0_0 - 3)))) else (none)) else (none)) = some r := yz hy176 H
   have Ny176 := Aside0.mk hy176
   clear hy176
   obtain ⟨ji17, hji17⟩ : ∃ j_ : Int, (wrap64 (a0_0 - 3)) = j_ := ⟨_, rfl⟩
   replace H : (if 0 <= (ji17) then (if (ji17) < (y176.length : Int) then (some (rdOf ByteArray.empty y176 (ji17))) else (none)) else (none)) = some r := by first | (rw [hji17] at H; exact H) | (simp only [hji17] at H ⊢; exact H)
   (try rw [hji17] at A15)
   have hji17w : (IntKind.i64.wrap (a0_0 - 3)) = ji17 := (i64_w _).trans hji17
   replace H := iz H
   obtain ⟨c18, H⟩ := H
   have c18b0 := decide_eq_true c18
   clear c18
   replace H := iz H
   obtain ⟨c19, H⟩ := H
   have c19b0 := decide_eq_true c19
   clear c19
   obtain rfl := Option.some.inj H
   go_enter Tryd.func66, Tryd.ntmps66
   go_wp2_with (first | ((with_reducible refine gate_dst (N := 1) rfl ?_); refine box_event ?hg (N := 1) ?hd (cs := #[.int .i64 a0_0, .int .i64 a0_1, .int .i64 a0_2, .int .i64 a0_3, .int .i64 a0_4, .string a0_5, .string a0_6]) (t := 43) ?hr ?_; (case hd => rfl); (case hg => rfl); (case hr => exact vz); intro gb169 hg w20 hbox hb; have BK169 := Aside0.mk (hbox); have GW169 := Aside0.mk ((by rw [hg]; exact (below_size (bz0 HB.out)) : w.heap.size <= gb169)); have GE169 := Aside0.mk ((by rw [hg]; exact (below_size (bz0 HB.out)) : w.heap.size <= gb169)); replace HB := Aside0.mk (below_step (bz0 HB.out) hb); clear hb hbox hg; obtain ⟨hcz21_0, hcz21_1, hcz21_2, hcz21_3, hcz21_4, hcz21_5, hcz21_6⟩ := cz7 BK169.out; obtain ⟨hfz21_0, hfz21_1, hfz21_2, hfz21_3, hfz21_4, hfz21_5, hfz21_6⟩ := fz7 BK169.out) | ((with_reducible refine gate_callee (f := 39) rfl ?_); refine goesL_ (some 17) rfl rfl Tryd.func39 (by kernel_rfl) rfl #[.int .i64 a0_0, .int .i64 3, .int .i64 19] rfl lz ?_; (with_reducible refine (spec_l1In.calls a0_0 3 19 true _ A15.out).mono ?_); rintro e w' ⟨rfl, ⟨nd, rfl⟩⟩; refine ⟨_, rfl, ?_⟩) | ((with_reducible refine gate_dst (N := 19) rfl ?_); refine Kd.R_lit Kd.string _ 9 ?hg (N := 19) ?hd (xs := ([(⟨#[102, 117, 110]⟩ : ByteArray), (⟨#[97, 112, 112]⟩ : ByteArray), (⟨#[108, 101, 116]⟩ : ByteArray), (⟨#[114, 101, 99]⟩ : ByteArray), (⟨#[105, 102]⟩ : ByteArray), (⟨#[]⟩ : ByteArray), (⟨#[112, 97, 105, 114]⟩ : ByteArray), (⟨#[102, 115, 116]⟩ : ByteArray), (⟨#[115, 110, 100]⟩ : ByteArray), (⟨#[110, 105, 108]⟩ : ByteArray), (⟨#[99, 111, 110, 115]⟩ : ByteArray), (⟨#[109, 97, 116, 99, 104]⟩ : ByteArray), (⟨#[114, 101, 102]⟩ : ByteArray), (⟨#[103, 101, 116]⟩ : ByteArray), (⟨#[115, 101, 116]⟩ : ByteArray), (⟨#[114, 97, 105, 115, 101]⟩ : ByteArray), (⟨#[116, 114, 121]⟩ : ByteArray)] : List ByteArray)) (inner := [.string (⟨#[102, 117, 110]⟩ : ByteArray), .string (⟨#[97, 112, 112]⟩ : ByteArray), .string (⟨#[108, 101, 116]⟩ : ByteArray), .string (⟨#[114, 101, 99]⟩ : ByteArray), .string (⟨#[105, 102]⟩ : ByteArray), .string (⟨#[]⟩ : ByteArray), .string (⟨#[112, 97, 105, 114]⟩ : ByteArray), .string (⟨#[102, 115, 116]⟩ : ByteArray), .string (⟨#[115, 110, 100]⟩ : ByteArray), .string (⟨#[110, 105, 108]⟩ : ByteArray), .string (⟨#[99, 111, 110, 115]⟩ : ByteArray), .string (⟨#[109, 97, 116, 99, 104]⟩ : ByteArray), .string (⟨#[114, 101, 102]⟩ : ByteArray), .string (⟨#[103, 101, 116]⟩ : ByteArray), .string (⟨#[115, 101, 116]⟩ : ByteArray), .string (⟨#[114, 97, 105, 115, 101]⟩ : ByteArray), .string (⟨#[116, 114, 121]⟩ : ByteArray)]) (ok := fun _ => True) (okp := fun _ => True) ?hr ?hp (fun _ hk => hk) trivial (Below.refl _ _) (Nat.le_refl _) (by simp) ?_; (case hd => rfl); (case hg => rfl); (case hr => exact vz); (case hp => exact (Reps.one (show Kd.M Kd.string _ _ _ (⟨#[102, 117, 110]⟩ : ByteArray) [.string (⟨#[102, 117, 110]⟩ : ByteArray)] from rfl) (Reps.one (show Kd.M Kd.string _ _ _ (⟨#[97, 112, 112]⟩ : ByteArray) [.string (⟨#[97, 112, 112]⟩ : ByteArray)] from rfl) (Reps.one (show Kd.M Kd.string _ _ _ (⟨#[108, 101, 116]⟩ : ByteArray) [.string (⟨#[108, 101, 116]⟩ : ByteArray)] from rfl) (Reps.one (show Kd.M Kd.string _ _ _ (⟨#[114, 101, 99]⟩ : ByteArray) [.string (⟨#[114, 101, 99]⟩ : ByteArray)] from rfl) (Reps.one (show Kd.M Kd.string _ _ _ (⟨#[105, 102]⟩ : ByteArray) [.string (⟨#[105, 102]⟩ : ByteArray)] from rfl) (Reps.one (show Kd.M Kd.string _ _ _ (⟨#[]⟩ : ByteArray) [.string (⟨#[]⟩ : ByteArray)] from rfl) (Reps.one (show Kd.M Kd.string _ _ _ (⟨#[112, 97, 105, 114]⟩ : ByteArray) [.string (⟨#[112, 97, 105, 114]⟩ : ByteArray)] from rfl) (Reps.one (show Kd.M Kd.string _ _ _ (⟨#[102, 115, 116]⟩ : ByteArray) [.string (⟨#[102, 115, 116]⟩ : ByteArray)] from rfl) (Reps.one (show Kd.M Kd.string _ _ _ (⟨#[115, 110, 100]⟩ : ByteArray) [.string (⟨#[115, 110, 100]⟩ : ByteArray)] from rfl) (Reps.one (show Kd.M Kd.string _ _ _ (⟨#[110, 105, 108]⟩ : ByteArray) [.string (⟨#[110, 105, 108]⟩ : ByteArray)] from rfl) (Reps.one (show Kd.M Kd.string _ _ _ (⟨#[99, 111, 110, 115]⟩ : ByteArray) [.string (⟨#[99, 111, 110, 115]⟩ : ByteArray)] from rfl) (Reps.one (show Kd.M Kd.string _ _ _ (⟨#[109, 97, 116, 99, 104]⟩ : ByteArray) [.string (⟨#[109, 97, 116, 99, 104]⟩ : ByteArray)] from rfl) (Reps.one (show Kd.M Kd.string _ _ _ (⟨#[114, 101, 102]⟩ : ByteArray) [.string (⟨#[114, 101, 102]⟩ : ByteArray)] from rfl) (Reps.one (show Kd.M Kd.string _ _ _ (⟨#[103, 101, 116]⟩ : ByteArray) [.string (⟨#[103, 101, 116]⟩ : ByteArray)] from rfl) (Reps.one (show Kd.M Kd.string _ _ _ (⟨#[115, 101, 116]⟩ : ByteArray) [.string (⟨#[115, 101, 116]⟩ : ByteArray)] from rfl) (Reps.one (show Kd.M Kd.string _ _ _ (⟨#[114, 97, 105, 115, 101]⟩ : ByteArray) [.string (⟨#[114, 97, 105, 115, 101]⟩ : ByteArray)] from rfl) (Reps.one (show Kd.M Kd.string _ _ _ (⟨#[116, 114, 121]⟩ : ByteArray) [.string (⟨#[116, 114, 121]⟩ : ByteArray)] from rfl) (Reps.none _ _))))))))))))))))))); intro v177 w22 ho23 hb hg_ hnew_; clear hg_ hnew_; (first | rw [<- Ny176.out] at ho23 | (simp only [Int.reduceToNat] at ho23; rw [<- Ny176.out] at ho23)); have HO178 := Aside0.mk (Kd.R_lower ho23 (below_size (bz1 HB.out GE169.out))); replace BK169 := Aside0.mk (blk_below (kz BK169.out) hb); replace HB := Aside0.mk (below_step (bz1 HB.out GE169.out) hb); clear hb ho23; obtain ⟨hcz24_0, hcz24_1, hcz24_2, hcz24_3, hcz24_4, hcz24_5, hcz24_6⟩ := cz7 BK169.out; obtain ⟨hfz24_0, hfz24_1, hfz24_2, hfz24_3, hfz24_4, hfz24_5, hfz24_6⟩ := fz7 BK169.out; obtain ⟨Ao25, co25, eo25⟩ := Kd.R_slice HO178.out; subst eo25; have p179 : 0 <= ((ji17) : Int) := oz; have q179 : (ji17) < (y176.length : Int) := oz; obtain ⟨ad179, e179, hx179_0⟩ := Kd.at_string (Kd.R_reads' HO178.out).2.2 (ji17) p179 q179; cases e179; replace p179 := eq_true p179; replace q179 := eq_true q179))
   go_ret
   exact ⟨by first | rfl | (simp [errW_none, errW_some] <;> rfl) | (simp only [<- hji17]; first | rfl | (simp [errW_none, errW_some] <;> rfl)) | (simp [*, errW_none, errW_some] <;> rfl), (bz1 HB.out GE169.out)⟩
  ·replace c16 := Bool.eq_false_iff.mpr c16
   subst c16
   have H1 := hq H
   clear H
   have H := H1
   clear H1
   obtain rfl := Option.some.inj H
   go_enter Tryd.func66, Tryd.ntmps66
   go_wp2_with (first | ((with_reducible refine gate_dst (N := 1) rfl ?_); refine box_event ?hg (N := 1) ?hd (cs := #[.int .i64 a0_0, .int .i64 a0_1, .int .i64 a0_2, .int .i64 a0_3, .int .i64 a0_4, .string a0_5, .string a0_6]) (t := 43) ?hr ?_; (case hd => rfl); (case hg => rfl); (case hr => exact vz); intro gb169 hg w26 hbox hb; have BK169 := Aside0.mk (hbox); have GW169 := Aside0.mk ((by rw [hg]; exact (below_size (bz0 HB.out)) : w.heap.size <= gb169)); have GE169 := Aside0.mk ((by rw [hg]; exact (below_size (bz0 HB.out)) : w.heap.size <= gb169)); replace HB := Aside0.mk (below_step (bz0 HB.out) hb); clear hb hbox hg; obtain ⟨hcz27_0, hcz27_1, hcz27_2, hcz27_3, hcz27_4, hcz27_5, hcz27_6⟩ := cz7 BK169.out; obtain ⟨hfz27_0, hfz27_1, hfz27_2, hfz27_3, hfz27_4, hfz27_5, hfz27_6⟩ := fz7 BK169.out) | ((with_reducible refine gate_callee (f := 39) rfl ?_); refine goesL_ (some 17) rfl rfl Tryd.func39 (by kernel_rfl) rfl #[.int .i64 a0_0, .int .i64 3, .int .i64 19] rfl lz ?_; (with_reducible refine (spec_l1In.calls a0_0 3 19 false _ A15.out).mono ?_); rintro e w' ⟨rfl, ⟨nd, rfl⟩⟩; refine ⟨_, rfl, ?_⟩))
   go_ret
   exact ⟨gz, (bz1 HB.out GE169.out)⟩
mutual
def spec_l5Show.l0 : Nat -> List (S43) -> ByteArray -> ByteArray -> List ByteArray -> List Int -> Int -> Option (ByteArray)
 | 0, _, _, _, _, _, _ => none
 | k + 1, x0, x8, x9, x10, x11, x12 => if x12 < (x8.size : Int) then (if 0 <= x12 then (if (bt x8 x12) = 110 then (if x9.size + 1 <= 9223372036854775807 then (if 0 < (x10.length : Int) then (if (x9 ++ (⟨#[32]⟩ : ByteArray)).size + (rdOf ByteArray.empty x10 0).size <= 9223372036854775807 then (if 1 <= (x10.length : Int) then (spec_l5Show.l0 k x0 x8 ((x9 ++ (⟨#[32]⟩ : ByteArray)) ++ (rdOf ByteArray.empty x10 0)) (x10.drop (1 : Int).toNat) x11 (wrap64 (x12 + 1))) else (none)) else (none)) else (none)) else (none)) else (if x9.size + 1 <= 9223372036854775807 then (if 0 < (x11.length : Int) then ((spec_l5Show.f k x0 (rd x11 0)).bind fun t199 => (if (x9 ++ (⟨#[32]⟩ : ByteArray)).size + t199.size <= 9223372036854775807 then (if 1 <= (x11.length : Int) then (spec_l5Show.l0 k x0 x8 ((x9 ++ (⟨#[32]⟩ : ByteArray)) ++ t199) x10 (x11.drop (1 : Int).toNat) (wrap64 (x12 + 1))) else (none)) else (none))) else (none)) else (none))) else (none)) else (if x9.size + 1 <= 9223372036854775807 then (some (x9 ++ (⟨#[41]⟩ : ByteArray))) else (none))
def spec_l5Show.f : Nat -> List (S43) -> Int -> Option (ByteArray)
 | 0, _, _ => none
 | k + 1, l0, a1 => if 0 <= a1 then (if a1 < (l0.length : Int) then (if ((rd_T43 l0 a1).f0) = 1 then (some ((rd_T43 l0 a1).f5)) else (if ((rd_T43 l0 a1).f0) = 2 then ((spec_Dec.f k ((rd_T43 l0 a1).f4)).bind fun t182 => (some t182)) else (if ((rd_T43 l0 a1).f0) = 12 then (some (⟨#[110, 105, 108]⟩ : ByteArray)) else ((spec_KeyOf.f ((rd_T43 l0 a1).f0) ((rd_T43 l0 a1).f1) ((rd_T43 l0 a1).f2) ((rd_T43 l0 a1).f3) ((rd_T43 l0 a1).f4) ((rd_T43 l0 a1).f5) ((rd_T43 l0 a1).f6)).bind fun t183 => ((spec_l4Form.f t183).bind fun bt184 => ((spec_KeyOf.f ((rd_T43 l0 a1).f0) ((rd_T43 l0 a1).f1) ((rd_T43 l0 a1).f2) ((rd_T43 l0 a1).f3) ((rd_T43 l0 a1).f4) ((rd_T43 l0 a1).f5) ((rd_T43 l0 a1).f6)).bind fun t187 => (if 1 + t187.size <= 9223372036854775807 then ((spec_Kids.f k ((rd_T43 l0 a1).f0) ((rd_T43 l0 a1).f1) ((rd_T43 l0 a1).f2) ((rd_T43 l0 a1).f3) ((rd_T43 l0 a1).f4) ((rd_T43 l0 a1).f5) ((rd_T43 l0 a1).f6)).bind fun t191 => (spec_l5Show.l0 k l0 bt184.2.2 ((⟨#[40]⟩ : ByteArray) ++ t187) (([(rd_T43 l0 a1).f5, (rd_T43 l0 a1).f6] : List ByteArray)) t191 0)) else (none)))))))) else (none)) else (none)
end
theorem spec_l5Show.mono_l : ∀ k, (∀ y0 y1, LeO (spec_l5Show.f k y0 y1) (spec_l5Show.f (k + 1) y0 y1)) /\ (∀ y0 y1 y2 y3 y4 y5, LeO (spec_l5Show.l0 k y0 y1 y2 y3 y4 y5) (spec_l5Show.l0 (k + 1) y0 y1 y2 y3 y4 y5))
 | 0 => ⟨fun _ _ r h => by simp [spec_l5Show.f] at h, fun _ _ _ _ _ _ r h => by simp [spec_l5Show.l0] at h⟩
 | k + 1 => by
  obtain ⟨ih0, ih1⟩ := spec_l5Show.mono_l k
  refine ⟨?_, ?_⟩
  ·intro y0 y1
   unfold spec_l5Show.f
   with_reducible repeat' first | exact ih0 _ _ | exact ih1 _ _ _ _ _ _ | exact spec_Dec.mono _ _ | exact spec_Kids.mono _ _ _ _ _ _ _ _ | exact lrz _ | exact lnz _ | refine liz ?_ ?_ | refine lbz ?_ fun _ => ?_
  ·intro y0 y1 y2 y3 y4 y5
   unfold spec_l5Show.l0
   with_reducible repeat' first | exact ih0 _ _ | exact ih1 _ _ _ _ _ _ | exact spec_Dec.mono _ _ | exact spec_Kids.mono _ _ _ _ _ _ _ _ | exact lrz _ | exact lnz _ | refine liz ?_ ?_ | refine lbz ?_ fun _ => ?_
theorem spec_l5Show.mono : ∀ a0 a1 k, LeO (spec_l5Show.f k a0 a1) (spec_l5Show.f (k + 1) a0 a1) := by
 intro a0 a1 k
 obtain ⟨ih0, ih1⟩ := spec_l5Show.mono_l k
 exact ih0 a0 a1
set_option maxHeartbeats 8000000 in
set_option maxRecDepth 100000 in
theorem spec_l5Show.calls (k : Nat) : ∀ (A0 : Option Addr) (c0 : Nat) (l0 : List (S43)) (a1 : Int) (r : ByteArray) (w : World) (hr0 : Kd.C k43 w A0 l0.length l0) (hc0 : l0.length <= c0) (h : spec_l5Show.f k l0 a1 = some r),
  Calls Tryd.prog 34 #[.slice A0 l0.length c0, .int .i64 a1] w fun e w' => e = .returned (.string r) /\ Below w.heap.size w w' := by
 induction k using Nat.strongRecOn with
 | _ k ih =>
 intro A0 c0 l0 a1 r w hr0 hc0 h
 cases k with
 | zero => exact absurd h (by simp [spec_l5Show.f])
 | succ k =>
 simp only [spec_l5Show.f] at h
 have hu43 := Tryd.underlying43
 have HR0 := Aside0.mk hr0
 have HC0 := Aside0.mk hc0
 clear hr0 hc0
 have HB := Aside0.mk (Below.refl w.heap.size w)
 have H : (if 0 <= a1 then (if a1 < (l0.length : Int) then (if ((rd_T43 l0 a1).f0) = 1 then (some ((rd_T43 l0 a1).f5)) else (if ((rd_T43 l0 a1).f0) = 2 then ((spec_Dec.f k ((rd_T43 l0 a1).f4)).bind fun t182 => (some t182)) else (if ((rd_T43 l0 a1).f0) = 12 then (some (⟨#[110, 105, 108]⟩ : ByteArray)) else ((spec_KeyOf.f ((rd_T43 l0 a1).f0) ((rd_T43 l0 a1).f1) ((rd_T43 l0 a1).f2) ((rd_T43 l0 a1).f3) ((rd_T43 l0 a1).f4) ((rd_T43 l0 a1).f5) ((rd_T43 l0 a1).f6)).bind fun t183 => ((spec_l4Form.f t183).bind fun bt184 => ((spec_KeyOf.f ((rd_T43 l0 a1).f0) ((rd_T43 l0 a1).f1) ((rd_T43 l0 a1).f2) ((rd_T43 l0 a1).f3) ((rd_T43 l0 a1).f4) ((rd_T43 l0 a1).f5) ((rd_T43 l0 a1).f6)).bind fun t187 => (if 1 + t187.size <= 9223372036854775807 then ((spec_Kids.f k ((rd_T43 l0 a1).f0) ((rd_T43 l0 a1).f1) ((rd_T43 l0 a1).f2) ((rd_T43 l0 a1).f3) ((rd_T43 l0 a1).f4) ((rd_T43 l0 a1).f5) ((rd_T43 l0 a1).f6)).bind fun t191 => (spec_l5Show.l0 k l0 bt184.2.2 ((⟨#[40]⟩ : ByteArray) ++ t187) (([(rd_T43 l0 a1).f5, (rd_T43 l0 a1).f6] : List ByteArray)) t191 0)) else (none)))))))) else (none)) else (none)) = some r := h
 clear h
 replace H := iz H
 obtain ⟨c3, H⟩ := H
 have c3b0 := decide_eq_true c3
 clear c3
 replace H := iz H
 obtain ⟨c4, H⟩ := H
 have c4b0 := decide_eq_true c4
 clear c4
 by_cases c5 : ((rd_T43 l0 a1).f0) = 1
 ·rw [if_pos c5] at H
  have c5b0 : (((rd_T43 l0 a1).f0) == 1) = true := beq_iff_eq.mpr c5
  have c5b1 : (((rd_T43 l0 a1).f0) != 1) = false := bne_eq_false_iff_eq.mpr c5
  clear c5
  obtain rfl := Option.some.inj H
  have p180 : 0 <= (a1 : Int) := oz
  have q180 : a1 < (l0.length : Int) := oz
  obtain ⟨ad180, e180, hx180_0, hx180_1, hx180_2, hx180_3, hx180_4, hx180_5, hx180_6⟩ := at_T43 HR0.out a1 p180 q180
  cases e180
  replace p180 := eq_true p180
  replace q180 := eq_true q180
  go_enter Tryd.func34, Tryd.ntmps34
  go_wp2_with (first | ((with_reducible refine gate_dst (N := 5) rfl ?_); refine box_event ?hg (N := 5) ?hd (cs := #[.int .i64 0, .int .i64 0, .int .i64 0, .int .i64 0, .int .i64 0, .string (⟨#[]⟩ : ByteArray), .string (⟨#[]⟩ : ByteArray)]) (t := 43) ?hr ?_; (case hd => rfl); (case hg => rfl); (case hr => exact vz); intro gb181 hg w6 hbox hb; have BK181 := Aside0.mk (hbox); have GW181 := Aside0.mk ((by rw [hg]; exact (below_size (bz0 HB.out)) : w.heap.size <= gb181)); have GE181 := Aside0.mk ((by rw [hg]; exact (below_size (bz0 HB.out)) : w.heap.size <= gb181)); replace HB := Aside0.mk (below_step (bz0 HB.out) hb); clear hb hbox hg; obtain ⟨hcz7_0, hcz7_1, hcz7_2, hcz7_3, hcz7_4, hcz7_5, hcz7_6⟩ := cz7 BK181.out; obtain ⟨hfz7_0, hfz7_1, hfz7_2, hfz7_3, hfz7_4, hfz7_5, hfz7_6⟩ := fz7 BK181.out))
  go_ret
  exact ⟨gz, (bz1 HB.out GE181.out)⟩
 ·rw [if_neg c5] at H
  have c5b0 : (((rd_T43 l0 a1).f0) == 1) = false := beq_eq_false_iff_ne.mpr c5
  have c5b1 : (((rd_T43 l0 a1).f0) != 1) = true := bne_iff_ne.mpr c5
  by_cases c8 : ((rd_T43 l0 a1).f0) = 2
  ·rw [if_pos c8] at H
   have c8b0 : (((rd_T43 l0 a1).f0) == 2) = true := beq_iff_eq.mpr c8
   have c8b1 : (((rd_T43 l0 a1).f0) != 2) = false := bne_eq_false_iff_eq.mpr c8
   clear c8
   replace H := bi H
   obtain ⟨t182, A90, H⟩ := H
   try dsimp only at H
   have A9 := Aside0.mk A90
   clear A90
   obtain rfl := Option.some.inj H
   have p180 : 0 <= (a1 : Int) := oz
   have q180 : a1 < (l0.length : Int) := oz
   obtain ⟨ad180, e180, hx180_0, hx180_1, hx180_2, hx180_3, hx180_4, hx180_5, hx180_6⟩ := at_T43 HR0.out a1 p180 q180
   cases e180
   replace p180 := eq_true p180
   replace q180 := eq_true q180
   go_enter Tryd.func34, Tryd.ntmps34
   go_wp2_with (first | ((with_reducible refine gate_dst (N := 5) rfl ?_); refine box_event ?hg (N := 5) ?hd (cs := #[.int .i64 0, .int .i64 0, .int .i64 0, .int .i64 0, .int .i64 0, .string (⟨#[]⟩ : ByteArray), .string (⟨#[]⟩ : ByteArray)]) (t := 43) ?hr ?_; (case hd => rfl); (case hg => rfl); (case hr => exact vz); intro gb181 hg w10 hbox hb; have BK181 := Aside0.mk (hbox); have GW181 := Aside0.mk ((by rw [hg]; exact (below_size (bz0 HB.out)) : w.heap.size <= gb181)); have GE181 := Aside0.mk ((by rw [hg]; exact (below_size (bz0 HB.out)) : w.heap.size <= gb181)); replace HB := Aside0.mk (below_step (bz0 HB.out) hb); clear hb hbox hg; obtain ⟨hcz11_0, hcz11_1, hcz11_2, hcz11_3, hcz11_4, hcz11_5, hcz11_6⟩ := cz7 BK181.out; obtain ⟨hfz11_0, hfz11_1, hfz11_2, hfz11_3, hfz11_4, hfz11_5, hfz11_6⟩ := fz7 BK181.out) | ((with_reducible refine gate_callee (f := 64) rfl ?_); refine goesL_ (some 27) rfl rfl Tryd.func64 (by kernel_rfl) rfl #[.int .i64 ((rd_T43 l0 a1).f4)] rfl lz ?_; (with_reducible refine (spec_Dec.calls k ((rd_T43 l0 a1).f4) t182 _ A9.out).mono ?_); rintro e w12 ⟨rfl, hb⟩; refine ⟨_, rfl, ?_⟩; replace BK181 := Aside0.mk (blk_below (g := gb181) (o := .cells #[.int .i64 ((rd_T43 l0 a1).f0), .int .i64 ((rd_T43 l0 a1).f1), .int .i64 ((rd_T43 l0 a1).f2), .int .i64 ((rd_T43 l0 a1).f3), .int .i64 ((rd_T43 l0 a1).f4), .string ((rd_T43 l0 a1).f5), .string ((rd_T43 l0 a1).f6)] 43 (0, 0)) (by refine kq ?_; refine blk_put (cs := #[.int .i64 ((rd_T43 l0 a1).f0), .int .i64 ((rd_T43 l0 a1).f1), .int .i64 ((rd_T43 l0 a1).f2), .int .i64 ((rd_T43 l0 a1).f3), .int .i64 ((rd_T43 l0 a1).f4), .string ((rd_T43 l0 a1).f5), .string (⟨#[]⟩ : ByteArray)]) ?_ 6 _ rfl; refine kq ?_; refine blk_put (cs := #[.int .i64 ((rd_T43 l0 a1).f0), .int .i64 ((rd_T43 l0 a1).f1), .int .i64 ((rd_T43 l0 a1).f2), .int .i64 ((rd_T43 l0 a1).f3), .int .i64 ((rd_T43 l0 a1).f4), .string (⟨#[]⟩ : ByteArray), .string (⟨#[]⟩ : ByteArray)]) ?_ 5 _ rfl; refine kq ?_; refine blk_put (cs := #[.int .i64 ((rd_T43 l0 a1).f0), .int .i64 ((rd_T43 l0 a1).f1), .int .i64 ((rd_T43 l0 a1).f2), .int .i64 ((rd_T43 l0 a1).f3), .int .i64 0, .string (⟨#[]⟩ : ByteArray), .string (⟨#[]⟩ : ByteArray)]) ?_ 4 _ rfl; refine kq ?_; refine blk_put (cs := #[.int .i64 ((rd_T43 l0 a1).f0), .int .i64 ((rd_T43 l0 a1).f1), .int .i64 ((rd_T43 l0 a1).f2), .int .i64 0, .int .i64 0, .string (⟨#[]⟩ : ByteArray), .string (⟨#[]⟩ : ByteArray)]) ?_ 3 _ rfl; refine kq ?_; refine blk_put (cs := #[.int .i64 ((rd_T43 l0 a1).f0), .int .i64 ((rd_T43 l0 a1).f1), .int .i64 0, .int .i64 0, .int .i64 0, .string (⟨#[]⟩ : ByteArray), .string (⟨#[]⟩ : ByteArray)]) ?_ 2 _ rfl; refine kq ?_; refine blk_put (cs := #[.int .i64 ((rd_T43 l0 a1).f0), .int .i64 0, .int .i64 0, .int .i64 0, .int .i64 0, .string (⟨#[]⟩ : ByteArray), .string (⟨#[]⟩ : ByteArray)]) ?_ 1 _ rfl; refine kq ?_; refine blk_put (cs := #[.int .i64 0, .int .i64 0, .int .i64 0, .int .i64 0, .int .i64 0, .string (⟨#[]⟩ : ByteArray), .string (⟨#[]⟩ : ByteArray)]) ?_ 0 _ rfl; refine kq ?_; exact BK181.out) hb); replace HB := Aside0.mk (below_step (bz1 HB.out GE181.out) hb); (try clear hb); (try clear hi)))
   go_ret
   exact ⟨gz, (bz1 HB.out GE181.out)⟩
  ·rw [if_neg c8] at H
   have c8b0 : (((rd_T43 l0 a1).f0) == 2) = false := beq_eq_false_iff_ne.mpr c8
   have c8b1 : (((rd_T43 l0 a1).f0) != 2) = true := bne_iff_ne.mpr c8
   by_cases c13 : ((rd_T43 l0 a1).f0) = 12
   ·rw [if_pos c13] at H
    have c13b0 : (((rd_T43 l0 a1).f0) == 12) = true := beq_iff_eq.mpr c13
    have c13b1 : (((rd_T43 l0 a1).f0) != 12) = false := bne_eq_false_iff_eq.mpr c13
    clear c13
    obtain rfl := Option.some.inj H
    have p180 : 0 <= (a1 : Int) := oz
    have q180 : a1 < (l0.length : Int) := oz
    obtain ⟨ad180, e180, hx180_0, hx180_1, hx180_2, hx180_3, hx180_4, hx180_5, hx180_6⟩ := at_T43 HR0.out a1 p180 q180
    cases e180
    replace p180 := eq_true p180
    replace q180 := eq_true q180
    go_enter Tryd.func34, Tryd.ntmps34
    go_wp2_with (first | ((with_reducible refine gate_dst (N := 5) rfl ?_); refine box_event ?hg (N := 5) ?hd (cs := #[.int .i64 0, .int .i64 0, .int .i64 0, .int .i64 0, .int .i64 0, .string (⟨#[]⟩ : ByteArray), .string (⟨#[]⟩ : ByteArray)]) (t := 43) ?hr ?_; (case hd => rfl); (case hg => rfl); (case hr => exact vz); intro gb181 hg w14 hbox hb; have BK181 := Aside0.mk (hbox); have GW181 := Aside0.mk ((by rw [hg]; exact (below_size (bz0 HB.out)) : w.heap.size <= gb181)); have GE181 := Aside0.mk ((by rw [hg]; exact (below_size (bz0 HB.out)) : w.heap.size <= gb181)); replace HB := Aside0.mk (below_step (bz0 HB.out) hb); clear hb hbox hg; obtain ⟨hcz15_0, hcz15_1, hcz15_2, hcz15_3, hcz15_4, hcz15_5, hcz15_6⟩ := cz7 BK181.out; obtain ⟨hfz15_0, hfz15_1, hfz15_2, hfz15_3, hfz15_4, hfz15_5, hfz15_6⟩ := fz7 BK181.out))
    go_ret
    exact ⟨gz, (bz1 HB.out GE181.out)⟩
   ·rw [if_neg c13] at H
    have c13b0 : (((rd_T43 l0 a1).f0) == 12) = false := beq_eq_false_iff_ne.mpr c13
    have c13b1 : (((rd_T43 l0 a1).f0) != 12) = true := bne_iff_ne.mpr c13
    replace H := bi H
    obtain ⟨t183, A160, H⟩ := H
    try dsimp only at H
    have A16 := Aside0.mk A160
    clear A160
    replace H := bi H
    obtain ⟨⟨t184, t185, t186⟩, A170, H⟩ := H
    try dsimp only at H
    have A17 := Aside0.mk A170
    clear A170
    replace H := bi H
    obtain ⟨t187, A180, H⟩ := H
    try dsimp only at H
    have A18 := Aside0.mk A180
    clear A180
    replace H := iz H
    obtain ⟨c19, H⟩ := H
    have c19b0 := eq_true c19
    have c19b1 : decide (1 + t187.size <= 9223372036854775807) = true := decide_eq_true c19
    try have c19b2 : (9223372036854775807 < 1 + t187.size) = False := eq_false (Nat.not_lt.2 c19)
    obtain ⟨y188, hy188⟩ : ∃ y_ : List ByteArray, y_ = (([(rd_T43 l0 a1).f5, (rd_T43 l0 a1).f6] : List ByteArray)) := ⟨_, rfl⟩
    replace H : ((spec_Kids.f k ((rd_T43 l0 a1).f0) ((rd_T43 l0 a1).f1) ((rd_T43 l0 a1).f2) ((rd_T43 l0 a1).f3) ((rd_T43 l0 a1).f4) ((rd_T43 l0 a1).f5) ((rd_T43 l0 a1).f6)).bind fun t191 => (spec_l5Show.l0 k l0 t186 ((⟨#[40]⟩ : ByteArray) ++ t187) y188 t191 0)) = some r := yz hy188 H
    have Ny188 := Aside0.mk hy188
    clear hy188
    replace H := bi H
    obtain ⟨t191, A200, H⟩ := H
    try dsimp only at H
    have A20 := Aside0.mk A200
    clear A200
    have H' := Aside0.mk H
    clear H
    have p180 : 0 <= (a1 : Int) := oz
    have q180 : a1 < (l0.length : Int) := oz
    obtain ⟨ad180, e180, hx180_0, hx180_1, hx180_2, hx180_3, hx180_4, hx180_5, hx180_6⟩ := at_T43 HR0.out a1 p180 q180
    cases e180
    replace p180 := eq_true p180
    replace q180 := eq_true q180
    go_enter Tryd.func34, Tryd.ntmps34
    go_wp2_with (first | ((with_reducible refine gate_dst (N := 5) rfl ?_); refine box_event ?hg (N := 5) ?hd (cs := #[.int .i64 0, .int .i64 0, .int .i64 0, .int .i64 0, .int .i64 0, .string (⟨#[]⟩ : ByteArray), .string (⟨#[]⟩ : ByteArray)]) (t := 43) ?hr ?_; (case hd => rfl); (case hg => rfl); (case hr => exact vz); intro gb181 hg w21 hbox hb; have BK181 := Aside0.mk (hbox); have GW181 := Aside0.mk ((by rw [hg]; exact (below_size (bz0 HB.out)) : w.heap.size <= gb181)); have GE181 := Aside0.mk ((by rw [hg]; exact (below_size (bz0 HB.out)) : w.heap.size <= gb181)); replace HB := Aside0.mk (below_step (bz0 HB.out) hb); clear hb hbox hg; obtain ⟨hcz22_0, hcz22_1, hcz22_2, hcz22_3, hcz22_4, hcz22_5, hcz22_6⟩ := cz7 BK181.out; obtain ⟨hfz22_0, hfz22_1, hfz22_2, hfz22_3, hfz22_4, hfz22_5, hfz22_6⟩ := fz7 BK181.out) | ((with_reducible refine gate_callee (f := 66) rfl ?_); refine goesL_ (some 32) rfl rfl Tryd.func66 (by kernel_rfl) rfl #[.agg #[.int .i64 ((rd_T43 l0 a1).f0), .int .i64 ((rd_T43 l0 a1).f1), .int .i64 ((rd_T43 l0 a1).f2), .int .i64 ((rd_T43 l0 a1).f3), .int .i64 ((rd_T43 l0 a1).f4), .string ((rd_T43 l0 a1).f5), .string ((rd_T43 l0 a1).f6)]] rfl lz ?_; (with_reducible refine (spec_KeyOf.calls ((rd_T43 l0 a1).f0) ((rd_T43 l0 a1).f1) ((rd_T43 l0 a1).f2) ((rd_T43 l0 a1).f3) ((rd_T43 l0 a1).f4) ((rd_T43 l0 a1).f5) ((rd_T43 l0 a1).f6) t183 _ A16.out).mono ?_); rintro e w23 ⟨rfl, hb⟩; refine ⟨_, rfl, ?_⟩; replace BK181 := Aside0.mk (blk_below (g := gb181) (o := .cells #[.int .i64 ((rd_T43 l0 a1).f0), .int .i64 ((rd_T43 l0 a1).f1), .int .i64 ((rd_T43 l0 a1).f2), .int .i64 ((rd_T43 l0 a1).f3), .int .i64 ((rd_T43 l0 a1).f4), .string ((rd_T43 l0 a1).f5), .string ((rd_T43 l0 a1).f6)] 43 (0, 0)) (by refine kq ?_; refine blk_put (cs := #[.int .i64 ((rd_T43 l0 a1).f0), .int .i64 ((rd_T43 l0 a1).f1), .int .i64 ((rd_T43 l0 a1).f2), .int .i64 ((rd_T43 l0 a1).f3), .int .i64 ((rd_T43 l0 a1).f4), .string ((rd_T43 l0 a1).f5), .string (⟨#[]⟩ : ByteArray)]) ?_ 6 _ rfl; refine kq ?_; refine blk_put (cs := #[.int .i64 ((rd_T43 l0 a1).f0), .int .i64 ((rd_T43 l0 a1).f1), .int .i64 ((rd_T43 l0 a1).f2), .int .i64 ((rd_T43 l0 a1).f3), .int .i64 ((rd_T43 l0 a1).f4), .string (⟨#[]⟩ : ByteArray), .string (⟨#[]⟩ : ByteArray)]) ?_ 5 _ rfl; refine kq ?_; refine blk_put (cs := #[.int .i64 ((rd_T43 l0 a1).f0), .int .i64 ((rd_T43 l0 a1).f1), .int .i64 ((rd_T43 l0 a1).f2), .int .i64 ((rd_T43 l0 a1).f3), .int .i64 0, .string (⟨#[]⟩ : ByteArray), .string (⟨#[]⟩ : ByteArray)]) ?_ 4 _ rfl; refine kq ?_; refine blk_put (cs := #[.int .i64 ((rd_T43 l0 a1).f0), .int .i64 ((rd_T43 l0 a1).f1), .int .i64 ((rd_T43 l0 a1).f2), .int .i64 0, .int .i64 0, .string (⟨#[]⟩ : ByteArray), .string (⟨#[]⟩ : ByteArray)]) ?_ 3 _ rfl; refine kq ?_; refine blk_put (cs := #[.int .i64 ((rd_T43 l0 a1).f0), .int .i64 ((rd_T43 l0 a1).f1), .int .i64 0, .int .i64 0, .int .i64 0, .string (⟨#[]⟩ : ByteArray), .string (⟨#[]⟩ : ByteArray)]) ?_ 2 _ rfl; refine kq ?_; refine blk_put (cs := #[.int .i64 ((rd_T43 l0 a1).f0), .int .i64 0, .int .i64 0, .int .i64 0, .int .i64 0, .string (⟨#[]⟩ : ByteArray), .string (⟨#[]⟩ : ByteArray)]) ?_ 1 _ rfl; refine kq ?_; refine blk_put (cs := #[.int .i64 0, .int .i64 0, .int .i64 0, .int .i64 0, .int .i64 0, .string (⟨#[]⟩ : ByteArray), .string (⟨#[]⟩ : ByteArray)]) ?_ 0 _ rfl; refine kq ?_; exact BK181.out) hb); replace HB := Aside0.mk (below_step (bz1 HB.out GE181.out) hb); (try clear hb); (try clear hk); (try clear hi)) | ((with_reducible refine gate_callee (f := 65) rfl ?_); refine goesL_ (some 33) rfl rfl Tryd.func65 (by kernel_rfl) rfl #[.string t183] rfl lz ?_; (with_reducible refine (spec_l4Form.calls t183 t184 t185 t186 _ A17.out).mono ?_); rintro e w' ⟨rfl, ⟨nd, rfl⟩⟩; refine ⟨_, rfl, ?_⟩; obtain ⟨hcz24_0, hcz24_1, hcz24_2, hcz24_3, hcz24_4, hcz24_5, hcz24_6⟩ := cz7 BK181.out; obtain ⟨hfz24_0, hfz24_1, hfz24_2, hfz24_3, hfz24_4, hfz24_5, hfz24_6⟩ := fz7 BK181.out) | ((with_reducible refine gate_callee (f := 66) rfl ?_); refine goesL_ (some 38) rfl rfl Tryd.func66 (by kernel_rfl) rfl #[.agg #[.int .i64 ((rd_T43 l0 a1).f0), .int .i64 ((rd_T43 l0 a1).f1), .int .i64 ((rd_T43 l0 a1).f2), .int .i64 ((rd_T43 l0 a1).f3), .int .i64 ((rd_T43 l0 a1).f4), .string ((rd_T43 l0 a1).f5), .string ((rd_T43 l0 a1).f6)]] rfl lz ?_; (with_reducible refine (spec_KeyOf.calls ((rd_T43 l0 a1).f0) ((rd_T43 l0 a1).f1) ((rd_T43 l0 a1).f2) ((rd_T43 l0 a1).f3) ((rd_T43 l0 a1).f4) ((rd_T43 l0 a1).f5) ((rd_T43 l0 a1).f6) t187 _ A18.out).mono ?_); rintro e w25 ⟨rfl, hb⟩; refine ⟨_, rfl, ?_⟩; replace BK181 := Aside0.mk (blk_below (kz BK181.out) hb); replace HB := Aside0.mk (below_step (bz1 HB.out GE181.out) hb); (try clear hb); (try clear hk); obtain ⟨hcz26_0, hcz26_1, hcz26_2, hcz26_3, hcz26_4, hcz26_5, hcz26_6⟩ := cz7 BK181.out; obtain ⟨hfz26_0, hfz26_1, hfz26_2, hfz26_3, hfz26_4, hfz26_5, hfz26_6⟩ := fz7 BK181.out) | ((with_reducible refine gate_dst (N := 44) rfl ?_); refine Kd.R_lit Kd.string _ 9 ?hg (N := 44) ?hd (xs := ([(rd_T43 l0 a1).f5, (rd_T43 l0 a1).f6] : List ByteArray)) (inner := [.string ((rd_T43 l0 a1).f5), .string ((rd_T43 l0 a1).f6)]) (ok := fun _ => True) (okp := fun _ => True) ?hr ?hp (fun _ hk => hk) trivial (Below.refl _ _) (Nat.le_refl _) (by simp) ?_; (case hd => rfl); (case hg => rfl); (case hr => exact vz); (case hp => exact (Reps.one (show Kd.M Kd.string _ _ _ ((rd_T43 l0 a1).f5) [.string ((rd_T43 l0 a1).f5)] from rfl) (Reps.one (show Kd.M Kd.string _ _ _ ((rd_T43 l0 a1).f6) [.string ((rd_T43 l0 a1).f6)] from rfl) (Reps.none _ _)))); intro v189 w27 ho28 hb hg_ hnew_; clear hg_ hnew_; (first | rw [<- Ny188.out] at ho28 | (simp only [Int.reduceToNat] at ho28; rw [<- Ny188.out] at ho28)); have HO190 := Aside0.mk (Kd.R_lower ho28 (below_size (bz1 HB.out GE181.out))); replace BK181 := Aside0.mk (blk_below (kz BK181.out) hb); replace HB := Aside0.mk (below_step (bz1 HB.out GE181.out) hb); clear hb ho28; obtain ⟨hcz29_0, hcz29_1, hcz29_2, hcz29_3, hcz29_4, hcz29_5, hcz29_6⟩ := cz7 BK181.out; obtain ⟨hfz29_0, hfz29_1, hfz29_2, hfz29_3, hfz29_4, hfz29_5, hfz29_6⟩ := fz7 BK181.out) | ((with_reducible refine gate_callee (f := 67) rfl ?_); refine goesL_ (some 46) rfl rfl Tryd.func67 (by kernel_rfl) rfl #[.agg #[.int .i64 ((rd_T43 l0 a1).f0), .int .i64 ((rd_T43 l0 a1).f1), .int .i64 ((rd_T43 l0 a1).f2), .int .i64 ((rd_T43 l0 a1).f3), .int .i64 ((rd_T43 l0 a1).f4), .string ((rd_T43 l0 a1).f5), .string ((rd_T43 l0 a1).f6)]] rfl lz ?_; (with_reducible refine (spec_Kids.calls k ((rd_T43 l0 a1).f0) ((rd_T43 l0 a1).f1) ((rd_T43 l0 a1).f2) ((rd_T43 l0 a1).f3) ((rd_T43 l0 a1).f4) ((rd_T43 l0 a1).f5) ((rd_T43 l0 a1).f6) t191 _ A20.out).mono ?_); rintro e w30 ⟨v192, rfl, ho0, hb⟩; refine ⟨_, rfl, ?_⟩; replace HO190 := qz HO190 hb; have HO193 := Aside0.mk (Kd.R_lower ho0 (below_size (bz1 HB.out GE181.out))); replace BK181 := Aside0.mk (blk_below (kz BK181.out) hb); replace HB := Aside0.mk (below_step (bz1 HB.out GE181.out) hb); (try clear hb); (try clear hk); (try clear ho0)))
    (try simp only [Act.put, sz1, sz2, sz3])
    go_loopg [9, 10, 11, 12] k (fun kq v9 v10 v11 v12 w' => ∃ (x9_1 : ByteArray) (x10_1 : List ByteArray) (x11_1 : List Int) (x12_1 : Int), v9 = .string x9_1 /\ v12 = .int .i64 x12_1 /\ Aside0 (spec_l5Show.l0 kq l0 t186 x9_1 x10_1 x11_1 x12_1 = some r) /\ Aside0 (kq <= k) /\ Aside0 (Kd.Q Kd.string 9 w' w.heap.size (fun _ => True) v10 x10_1) /\ Aside0 (Kd.Q (Kd.int .i64) 3 w' w.heap.size (fun _ => True) v11 x11_1) /\ Aside0 (w'.heap[gb181]? = some (.cells #[.int .i64 ((rd_T43 l0 a1).f0), .int .i64 ((rd_T43 l0 a1).f1), .int .i64 ((rd_T43 l0 a1).f2), .int .i64 ((rd_T43 l0 a1).f3), .int .i64 ((rd_T43 l0 a1).f4), .string ((rd_T43 l0 a1).f5), .string ((rd_T43 l0 a1).f6)] 43 (0, 0))) /\ Aside0 (Below w.heap.size w w'))
    case atStart => exact ⟨((⟨#[40]⟩ : ByteArray) ++ t187), (y188), (t191), (0), ez, ez, H', ⟨Nat.le_refl _⟩, ⟨Kd.Q_of_R (rz HO190.out)⟩, ⟨Kd.Q_of_R (rz HO193.out)⟩, ⟨by refine kq ?_; exact BK181.out⟩, ⟨(bz1 HB.out GE181.out)⟩⟩
    case round =>
     clear H'
     try clear c1
     try clear p1
     try clear q1
     try clear hx1
     try clear p2
     try clear c3
     try clear c3b0
     try clear c4
     try clear c4b0
     try clear c5
     try clear c5b0
     try clear c5b1
     try clear c6
     try clear c8
     try clear c8b0
     try clear c8b1
     try clear c13
     try clear c13b0
     try clear c13b1
     try clear p18
     try clear q18
     try clear hx18
     try clear c19
     try clear c19b0
     try clear c19b1
     try clear c19b2
     try clear hcz11_0 hcz11_1 hcz11_2 hcz11_3 hcz11_4 hcz11_5 hcz11_6
     try clear hcz15_0 hcz15_1 hcz15_2 hcz15_3 hcz15_4 hcz15_5 hcz15_6
     try clear hcz22_0 hcz22_1 hcz22_2 hcz22_3 hcz22_4 hcz22_5 hcz22_6
     try clear hcz24_0 hcz24_1 hcz24_2 hcz24_3 hcz24_4 hcz24_5 hcz24_6
     try clear hcz26_0 hcz26_1 hcz26_2 hcz26_3 hcz26_4 hcz26_5 hcz26_6
     try clear hcz29_0 hcz29_1 hcz29_2 hcz29_3 hcz29_4 hcz29_5 hcz29_6
     try clear hcz7_0 hcz7_1 hcz7_2 hcz7_3 hcz7_4 hcz7_5 hcz7_6
     try clear hfz11_0 hfz11_1 hfz11_2 hfz11_3 hfz11_4 hfz11_5 hfz11_6
     try clear hfz15_0 hfz15_1 hfz15_2 hfz15_3 hfz15_4 hfz15_5 hfz15_6
     try clear hfz22_0 hfz22_1 hfz22_2 hfz22_3 hfz22_4 hfz22_5 hfz22_6
     try clear hfz24_0 hfz24_1 hfz24_2 hfz24_3 hfz24_4 hfz24_5 hfz24_6
     try clear hfz26_0 hfz26_1 hfz26_2 hfz26_3 hfz26_4 hfz26_5 hfz26_6
     try clear hfz29_0 hfz29_1 hfz29_2 hfz29_3 hfz29_4 hfz29_5 hfz29_6
     try clear hfz7_0 hfz7_1 hfz7_2 hfz7_3 hfz7_4 hfz7_5 hfz7_6
     try clear hx180_0
     try clear hx180_1
     try clear hx180_2
     try clear hx180_3
     try clear hx180_4
     try clear hx180_5
     try clear hx180_6
     try clear p180
     try clear q180
     obtain ⟨x9_1, x10_1, x11_1, x12_1, rfl, rfl, HA, HK1, HO_10, HO_11, BK181, HB⟩ := hrel
     cases gk with
     | zero => exact absurd HA.out (by simp [spec_l5Show.l0])
     | succ k1 =>
      have H := HA.out
      clear HA
      simp only [spec_l5Show.l0] at H
      by_cases c31 : x12_1 < (t186.size : Int)
      ·rw [if_pos c31] at H
       have c31b0 := decide_eq_true c31
       clear c31
       replace H := iz H
       obtain ⟨c32, H⟩ := H
       have c32b0 := decide_eq_true c32
       clear c32
       by_cases c34 : (bt t186 x12_1) = 110
       ·rw [if_pos c34] at H
        have c34b0 : ((bt t186 x12_1) == 110) = true := beq_iff_eq.mpr c34
        have c34b1 : ((bt t186 x12_1) != 110) = false := bne_eq_false_iff_eq.mpr c34
        clear c34
        replace H := iz H
        obtain ⟨c35, H⟩ := H
        have c35b0 := eq_true c35
        have c35b1 : decide (x9_1.size + 1 <= 9223372036854775807) = true := decide_eq_true c35
        try have c35b2 : (9223372036854775807 < x9_1.size + 1) = False := eq_false (Nat.not_lt.2 c35)
        replace H := iz H
        obtain ⟨c36, H⟩ := H
        have c36b0 := decide_eq_true c36
        have c36b1 : decide (0 < x10_1.length) = true := decide_eq_true (by omega)
        clear c36
        replace H := iz H
        obtain ⟨c37, H⟩ := H
        have c37b0 := eq_true c37
        have c37b1 : decide ((x9_1 ++ (⟨#[32]⟩ : ByteArray)).size + (rdOf ByteArray.empty x10_1 0).size <= 9223372036854775807) = true := decide_eq_true c37
        try have c37b2 : (9223372036854775807 < (x9_1 ++ (⟨#[32]⟩ : ByteArray)).size + (rdOf ByteArray.empty x10_1 0).size) = False := eq_false (Nat.not_lt.2 c37)
        (try (have c37b2z := c37b2; simp only [ByteArray.size_append, show (⟨#[32]⟩ : ByteArray).size = 1 from rfl] at c37b2z))
        replace H := iz H
        obtain ⟨c38, H⟩ := H
        have c38b0 := eq_true c38
        have c38b1 : decide (1 <= (x10_1.length : Int)) = true := decide_eq_true c38
        clear c38
        obtain ⟨y195, hy195⟩ : ∃ y_ : List ByteArray, y_ = (x10_1.drop (1 : Int).toNat) := ⟨_, rfl⟩
        replace H : (spec_l5Show.l0 k1 l0 t186 ((x9_1 ++ (⟨#[32]⟩ : ByteArray)) ++ (rdOf ByteArray.empty x10_1 0)) y195 x11_1 (wrap64 (x12_1 + 1))) = some r := yz hy195 H
        have Ny195 := Aside0.mk hy195
        clear hy195
        have H' := Aside0.mk H
        clear H
        have p33 : 0 <= (x12_1 : Int) := oz
        have q33 : x12_1 < (t186.size : Int) := oz
        have hx33 := bt_at t186 x12_1
        replace p33 := eq_true p33
        replace q33 := eq_true q33
        obtain ⟨Ao39, co39, eo39, _⟩ := Kd.Q_slice HO_10.out
        subst eo39
        have p194 : 0 <= (0 : Int) := (by omega)
        have q194 : 0 < (x10_1.length : Int) := oz
        obtain ⟨ad194, e194, hx194_0⟩ := Kd.at_string (Kd.Q_reads' HO_10.out).2.2 0 p194 q194
        cases e194
        have qi194 : (0 < x10_1.length) = True := eq_true (by omega)
        (try rw [show ((0 : Int)).toNat = 0 from rfl] at hx194_0)
        (try rw [Addr.add_zero'] at hx194_0)
        replace p194 := eq_true p194
        replace q194 := eq_true q194
        have q40 : (1 : Int) <= ((x10_1.length : Int) : Int) := oz
        obtain ⟨i040, hi040, _, hsz40, _⟩ := info_parts info9
        have hcut40 := cut_from (P := Tryd.prog) 32 9 .i64 Tryd.underlying32 hi040 1 hsz40 (some ad194) x10_1.length co39 1 (by omega) q40
        have hr40 := Kd.Q_drop (k := (1 : Int).toNat) HO_10.out (by omega)
        obtain ⟨A40, hA40⟩ : ∃ A1, A1 = (if co39 = (1 : Int).toNat then (some ad194) else ((some ad194) : Option Addr).map (·.add ((1 : Int).toNat * 1))) := ⟨_, rfl⟩
        obtain ⟨c40, hc40⟩ : ∃ c1, c1 = co39 - (1 : Int).toNat := ⟨_, rfl⟩
        have hy40 : y195.length = x10_1.length - (1 : Int).toNat := (by rw [Ny195.out, List.length_drop])
        rw [<- Ny195.out] at hr40
        rw [<- hy40, <- hA40, <- hc40] at hcut40
        replace hr40 : Kd.Q Kd.string 9 wr w.heap.size (fun _ => True) (.slice A40 y195.length c40) y195 := (by rw [hA40, hc40, hy40]; exact hr40)
        have HE40 : Aside0 ((Value.slice A40 y195.length c40).ownBlock = (.slice (some ad194) x10_1.length co39 : Value).ownBlock) := ⟨by rw [hA40]; split <;> (cases ((some ad194) : Option Addr) <;> rfl)⟩
        clear hy40 hi040 hsz40 HO_10 hA40 hc40
        have HO197 := Aside0.mk hr40
        clear hr40
        replace q40 := eq_true q40
        go_wp2
        go_roundg k1
        case measure => have := HK1.out; omega
        case rel => exact ⟨((x9_1 ++ (⟨#[32]⟩ : ByteArray)) ++ (rdOf ByteArray.empty x10_1 0)), (y195), (x11_1), (wrap64 (x12_1 + 1)), ez, ez, H', ⟨by have := HK1.out; omega⟩, ⟨by (with_reducible repeat (first | apply Kd.Q_alloc | apply Kd.Q_drewN | apply Kd.Q_drew)); exact HO197.out⟩, ⟨by (with_reducible repeat (first | apply Kd.Q_alloc | apply Kd.Q_drewN | apply Kd.Q_drew)); exact HO_11.out⟩, ⟨by refine kq ?_; exact BK181.out⟩, ⟨(bz1 HB.out GE181.out)⟩⟩
       ·rw [if_neg c34] at H
        have c34b0 : ((bt t186 x12_1) == 110) = false := beq_eq_false_iff_ne.mpr c34
        have c34b1 : ((bt t186 x12_1) != 110) = true := bne_iff_ne.mpr c34
        replace H := iz H
        obtain ⟨c41, H⟩ := H
        have c41b0 := eq_true c41
        have c41b1 : decide (x9_1.size + 1 <= 9223372036854775807) = true := decide_eq_true c41
        try have c41b2 : (9223372036854775807 < x9_1.size + 1) = False := eq_false (Nat.not_lt.2 c41)
        replace H := iz H
        obtain ⟨c42, H⟩ := H
        have c42b0 := decide_eq_true c42
        have c42b1 : decide (0 < x11_1.length) = true := decide_eq_true (by omega)
        clear c42
        replace H := bi H
        obtain ⟨t199, A430, H⟩ := H
        try dsimp only at H
        have A43 := Aside0.mk A430
        clear A430
        replace H := iz H
        obtain ⟨c44, H⟩ := H
        have c44b0 := eq_true c44
        have c44b1 : decide ((x9_1 ++ (⟨#[32]⟩ : ByteArray)).size + t199.size <= 9223372036854775807) = true := decide_eq_true c44
        try have c44b2 : (9223372036854775807 < (x9_1 ++ (⟨#[32]⟩ : ByteArray)).size + t199.size) = False := eq_false (Nat.not_lt.2 c44)
        (try (have c44b2z := c44b2; simp only [ByteArray.size_append, show (⟨#[32]⟩ : ByteArray).size = 1 from rfl] at c44b2z))
        replace H := iz H
        obtain ⟨c45, H⟩ := H
        have c45b0 := eq_true c45
        have c45b1 : decide (1 <= (x11_1.length : Int)) = true := decide_eq_true c45
        clear c45
        obtain ⟨y200, hy200⟩ : ∃ y_ : List Int, y_ = (x11_1.drop (1 : Int).toNat) := ⟨_, rfl⟩
        replace H : (spec_l5Show.l0 k1 l0 t186 ((x9_1 ++ (⟨#[32]⟩ : ByteArray)) ++ t199) x10_1 y200 (wrap64 (x12_1 + 1))) = some r := yz hy200 H
        have Ny200 := Aside0.mk hy200
        clear hy200
        have H' := Aside0.mk H
        clear H
        have p33 : 0 <= (x12_1 : Int) := oz
        have q33 : x12_1 < (t186.size : Int) := oz
        have hx33 := bt_at t186 x12_1
        replace p33 := eq_true p33
        replace q33 := eq_true q33
        obtain ⟨Ao46, co46, eo46, _⟩ := Kd.Q_slice HO_11.out
        subst eo46
        have p198 : 0 <= (0 : Int) := (by omega)
        have q198 : 0 < (x11_1.length : Int) := oz
        obtain ⟨ad198, e198, hx198_0⟩ := Kd.at_int (Kd.Q_reads' HO_11.out).2.2 0 p198 q198
        cases e198
        have qi198 : (0 < x11_1.length) = True := eq_true (by omega)
        (try rw [show ((0 : Int)).toNat = 0 from rfl] at hx198_0)
        (try rw [Addr.add_zero'] at hx198_0)
        replace p198 := eq_true p198
        replace q198 := eq_true q198
        go_wp2_with (first | ((with_reducible refine gate_callee (f := 34) rfl ?_); refine goesL_ (some 71) rfl rfl Tryd.func34 (by kernel_rfl) rfl #[.slice (some ad180) l0.length c0, .int .i64 (rd x11_1 0)] rfl lz ?_; (with_reducible refine (ih k1 (by have := HK1.out; omega) _ _ l0 (rd x11_1 0) t199 _ ?side1 ?side2 A43.out).mono ?_); (case side1 => exact cz (Kd.C_below HR0.out HB.out)); (case side2 => exact HC0.out); rintro e w47 ⟨rfl, hb⟩; refine ⟨_, rfl, ?_⟩; replace HO_10 := Aside0.mk (Kd.Q_below (by (with_reducible repeat (first | apply Kd.Q_alloc | apply Kd.Q_drewN | apply Kd.Q_drew)); exact HO_10.out) hb); replace HO_11 := Aside0.mk (Kd.Q_below (by (with_reducible repeat (first | apply Kd.Q_alloc | apply Kd.Q_drewN | apply Kd.Q_drew)); exact HO_11.out) hb); replace BK181 := Aside0.mk (blk_below (kz BK181.out) hb); replace HB := Aside0.mk (below_step (bz1 HB.out GE181.out) hb); (try clear hb); have q48 : (1 : Int) <= ((x11_1.length : Int) : Int) := oz; obtain ⟨i048, hi048, _, hsz48, _⟩ := info_parts info3; have hcut48 := cut_from (P := Tryd.prog) 47 3 .i64 Tryd.underlying47 hi048 1 hsz48 (some ad198) x11_1.length co46 1 (by omega) q48; have hr48 := Kd.Q_drop (k := (1 : Int).toNat) HO_11.out (by omega); obtain ⟨A48, hA48⟩ : ∃ A1, A1 = (if co46 = (1 : Int).toNat then (some ad198) else ((some ad198) : Option Addr).map (·.add ((1 : Int).toNat * 1))) := ⟨_, rfl⟩; obtain ⟨c48, hc48⟩ : ∃ c1, c1 = co46 - (1 : Int).toNat := ⟨_, rfl⟩; have hy48 : y200.length = x11_1.length - (1 : Int).toNat := (by rw [Ny200.out, List.length_drop]); rw [<- Ny200.out] at hr48; rw [<- hy48, <- hA48, <- hc48] at hcut48; replace hr48 : Kd.Q (Kd.int .i64) 3 w47 w.heap.size (fun _ => True) (.slice A48 y200.length c48) y200 := (by rw [hA48, hc48, hy48]; exact hr48); have HE48 : Aside0 ((Value.slice A48 y200.length c48).ownBlock = (.slice (some ad198) x11_1.length co46 : Value).ownBlock) := ⟨by rw [hA48]; split <;> (cases ((some ad198) : Option Addr) <;> rfl)⟩; clear hy48 hi048 hsz48 HO_11 hA48 hc48; have HO202 := Aside0.mk hr48; clear hr48; replace q48 := eq_true q48))
        go_roundg k1
        case measure => have := HK1.out; omega
        case rel => exact ⟨((x9_1 ++ (⟨#[32]⟩ : ByteArray)) ++ t199), (x10_1), (y200), (wrap64 (x12_1 + 1)), ez, ez, H', ⟨by have := HK1.out; omega⟩, ⟨by (with_reducible repeat (first | apply Kd.Q_alloc | apply Kd.Q_drewN | apply Kd.Q_drew)); exact HO_10.out⟩, ⟨by (with_reducible repeat (first | apply Kd.Q_alloc | apply Kd.Q_drewN | apply Kd.Q_drew)); exact HO202.out⟩, ⟨by refine kq ?_; exact BK181.out⟩, ⟨(bz1 HB.out GE181.out)⟩⟩
      ·rw [if_neg c31] at H
       have c31b0 := decide_eq_false c31
       clear c31
       replace H := iz H
       obtain ⟨c49, H⟩ := H
       have c49b0 := eq_true c49
       have c49b1 : decide (x9_1.size + 1 <= 9223372036854775807) = true := decide_eq_true c49
       try have c49b2 : (9223372036854775807 < x9_1.size + 1) = False := eq_false (Nat.not_lt.2 c49)
       obtain rfl := Option.some.inj H
       go_wp2
       go_ret
       exact ⟨gz, (bz1 HB.out GE181.out)⟩
def spec_Print.f (k : Nat) (l0 : List (S43)) : Option (ByteArray) := (spec_NodesOk.f k l0).bind fun t203 => (if t203 = true then ((spec_l5Show.f k l0 (wrap64 ((l0.length : Int) - 1))).bind fun t204 => (some t204)) else (some (⟨#[]⟩ : ByteArray)))
theorem spec_Print.mono : ∀ a0 k, LeO (spec_Print.f k a0) (spec_Print.f (k + 1) a0) := by
 intro a0 k
 unfold spec_Print.f
 with_reducible repeat' first | exact spec_NodesOk.mono _ _ | exact spec_l5Show.mono _ _ _ | exact lrz _ | exact lnz _ | refine liz ?_ ?_ | refine lbz ?_ fun _ => ?_
set_option maxHeartbeats 8000000 in
set_option maxRecDepth 100000 in
theorem spec_Print.calls (k : Nat) (A0 : Option Addr) (c0 : Nat) (l0 : List (S43)) (r : ByteArray) (w : World) (hr0 : Kd.C k43 w A0 l0.length l0) (hc0 : l0.length <= c0) (h : spec_Print.f k l0 = some r) :
  Calls Tryd.prog 11 #[.slice A0 l0.length c0] w fun e w' => e = .returned (.string r) /\ Below w.heap.size w w' := by
 have HR0 := Aside0.mk hr0
 have HC0 := Aside0.mk hc0
 clear hr0 hc0
 have HB := Aside0.mk (Below.refl w.heap.size w)
 have H : ((spec_NodesOk.f k l0).bind fun t203 => (if t203 = true then ((spec_l5Show.f k l0 (wrap64 ((l0.length : Int) - 1))).bind fun t204 => (some t204)) else (some (⟨#[]⟩ : ByteArray)))) = some r := h
 clear h
 replace H := bi H
 obtain ⟨t203, A20, H⟩ := H
 try dsimp only at H
 have A2 := Aside0.mk A20
 clear A20
 by_cases c3 : t203 = true
 ·subst c3
  have H1 := hp H
  clear H
  have H := H1
  clear H1
  replace H := bi H
  obtain ⟨t204, A40, H⟩ := H
  try dsimp only at H
  have A4 := Aside0.mk A40
  clear A40
  obtain rfl := Option.some.inj H
  go_enter Tryd.func11, Tryd.ntmps11
  go_wp2_with (first | ((with_reducible refine gate_callee (f := 33) rfl ?_); refine goesL_ (some 4) rfl rfl Tryd.func33 (by kernel_rfl) rfl #[.slice A0 l0.length c0] rfl lz ?_; (with_reducible refine (spec_NodesOk.calls k _ _ l0 true _ ?side1 ?side2 A2.out).mono ?_); (case side1 => repeat (first | exact HR0.out | (with_reducible refine Kd.C_alloc ?_ _) | (with_reducible refine Kd.C_drewN ?_ _) | (with_reducible refine Kd.C_drew ?_))); (case side2 => exact HC0.out); rintro e w5 ⟨rfl, hb⟩; refine ⟨_, rfl, ?_⟩; replace HB := Aside0.mk (below_step (bz0 HB.out) hb); (try clear hb); (try clear hi)) | ((with_reducible refine gate_callee (f := 34) rfl ?_); refine goesL_ (some 10) rfl rfl Tryd.func34 (by kernel_rfl) rfl #[.slice A0 l0.length c0, .int .i64 (wrap64 ((l0.length : Int) - 1))] rfl lz ?_; (with_reducible refine (spec_l5Show.calls k _ _ l0 (wrap64 ((l0.length : Int) - 1)) t204 _ ?side1 ?side2 A4.out).mono ?_); (case side1 => exact cz (Kd.C_below HR0.out HB.out)); (case side2 => exact HC0.out); rintro e w6 ⟨rfl, hb⟩; refine ⟨_, rfl, ?_⟩; replace HB := Aside0.mk (below_step (bz0 HB.out) hb); (try clear hb); (try clear hi)))
  go_ret
  exact ⟨gz, (bz0 HB.out)⟩
 ·replace c3 := Bool.eq_false_iff.mpr c3
  subst c3
  have H1 := hq H
  clear H
  have H := H1
  clear H1
  obtain rfl := Option.some.inj H
  go_enter Tryd.func11, Tryd.ntmps11
  go_wp2_with (first | ((with_reducible refine gate_callee (f := 33) rfl ?_); refine goesL_ (some 4) rfl rfl Tryd.func33 (by kernel_rfl) rfl #[.slice A0 l0.length c0] rfl lz ?_; (with_reducible refine (spec_NodesOk.calls k _ _ l0 false _ ?side1 ?side2 A2.out).mono ?_); (case side1 => repeat (first | exact HR0.out | (with_reducible refine Kd.C_alloc ?_ _) | (with_reducible refine Kd.C_drewN ?_ _) | (with_reducible refine Kd.C_drew ?_))); (case side2 => exact HC0.out); rintro e w7 ⟨rfl, hb⟩; refine ⟨_, rfl, ?_⟩; replace HB := Aside0.mk (below_step (bz0 HB.out) hb); (try clear hb); (try clear hi)))
  go_ret
  exact ⟨gz, (bz0 HB.out)⟩
def laws_toNode.f (a0_0 : Int) (a0_1 : Int) (a0_2 : Int) (a0_3 : Int) (a0_4 : Int) (a0_5 : ByteArray) (a0_6 : ByteArray) : Option (Int × Int × Int × Int × Int × ByteArray × ByteArray) := some (a0_0, a0_1, a0_2, a0_3, a0_4, a0_5, a0_6)
set_option maxHeartbeats 8000000 in
set_option maxRecDepth 100000 in
theorem laws_toNode.calls (a0_0 : Int) (a0_1 : Int) (a0_2 : Int) (a0_3 : Int) (a0_4 : Int) (a0_5 : ByteArray) (a0_6 : ByteArray) (r1 : Int) (r2 : Int) (r3 : Int) (r4 : Int) (r5 : Int) (r6 : ByteArray) (r7 : ByteArray) (w : World) (h : laws_toNode.f a0_0 a0_1 a0_2 a0_3 a0_4 a0_5 a0_6 = some (r1, r2, r3, r4, r5, r6, r7)) :
  Calls Tryd.prog 35 #[.agg #[.int .i64 a0_0, .int .i64 a0_1, .int .i64 a0_2, .int .i64 a0_3, .int .i64 a0_4, .string a0_5, .string a0_6]] w fun e w' => e = .returned (.agg #[.int .i64 r1, .int .i64 r2, .int .i64 r3, .int .i64 r4, .int .i64 r5, .string r6, .string r7]) /\ Below w.heap.size w w' := by
 have hu42 := Tryd.underlying42
 have hu43 := Tryd.underlying43
 have HB := Aside0.mk (Below.refl w.heap.size w)
 have H : (some (a0_0, a0_1, a0_2, a0_3, a0_4, a0_5, a0_6)) = some (r1, r2, r3, r4, r5, r6, r7) := h
 clear h
 simp only [Option.some.injEq, Prod.mk.injEq] at H
 obtain ⟨rfl, rfl, rfl, rfl, rfl, rfl, rfl⟩ := H
 go_enter Tryd.func35, Tryd.ntmps35
 go_wp2_with (first | ((with_reducible refine gate_dst (N := 1) rfl ?_); refine box_event ?hg (N := 1) ?hd (cs := #[.int .i64 a0_0, .int .i64 a0_1, .int .i64 a0_2, .int .i64 a0_3, .int .i64 a0_4, .string a0_5, .string a0_6]) (t := 42) ?hr ?_; (case hd => rfl); (case hg => rfl); (case hr => exact vz); intro gb205 hg w2 hbox hb; have BK205 := Aside0.mk (hbox); have GW205 := Aside0.mk ((by rw [hg]; exact (below_size (bz0 HB.out)) : w.heap.size <= gb205)); have GE205 := Aside0.mk ((by rw [hg]; exact (below_size (bz0 HB.out)) : w.heap.size <= gb205)); replace HB := Aside0.mk (below_step (bz0 HB.out) hb); clear hb hbox hg) | ((with_reducible refine gate_dst (N := 2) rfl ?_); refine box_event ?hg (N := 2) ?hd (cs := #[.int .i64 0, .int .i64 0, .int .i64 0, .int .i64 0, .int .i64 0, .string (⟨#[]⟩ : ByteArray), .string (⟨#[]⟩ : ByteArray)]) (t := 43) ?hr ?_; (case hd => rfl); (case hg => rfl); (case hr => exact vz); intro gb206 hg w3 hbox hb; have BK206 := Aside0.mk (hbox); have GW206 := Aside0.mk ((by rw [hg]; exact (below_size (bz1 HB.out GE205.out)) : w.heap.size <= gb206)); have GE206 := Aside0.mk ((by rw [hg]; exact (below_size (bz1 HB.out GE205.out)) : w.heap.size <= gb206)); replace HB := Aside0.mk (below_step (bz1 HB.out GE205.out) hb); have NB205_206 := Aside0.mk ((by rw [hg]; exact Nat.ne_of_lt (blk_lt (g := gb205) (o := .cells #[.int .i64 a0_0, .int .i64 a0_1, .int .i64 a0_2, .int .i64 a0_3, .int .i64 a0_4, .string a0_5, .string a0_6] 42 (0, 0)) (kz BK205.out)) : gb205 ≠ gb206)); have NB206_205 := Aside0.mk ((by rw [hg]; exact Nat.ne_of_gt (blk_lt (g := gb205) (o := .cells #[.int .i64 a0_0, .int .i64 a0_1, .int .i64 a0_2, .int .i64 a0_3, .int .i64 a0_4, .string a0_5, .string a0_6] 42 (0, 0)) (kz BK205.out)) : gb206 ≠ gb205)); replace BK205 := Aside0.mk (blk_below (kz BK205.out) hb); clear hb hbox hg) | ((with_reducible refine gate_dst (N := 3) rfl ?_); refine box_event ?hg (N := 3) ?hd (cs := #[.int .i64 0, .int .i64 0, .int .i64 0, .int .i64 0, .int .i64 0, .string (⟨#[]⟩ : ByteArray), .string (⟨#[]⟩ : ByteArray)]) (t := 43) ?hr ?_; (case hd => rfl); (case hg => rfl); (case hr => exact vz); intro gb207 hg w4 hbox hb; have BK207 := Aside0.mk (hbox); have GW207 := Aside0.mk ((by rw [hg]; exact (below_size (bz2 HB.out GE205.out GE206.out)) : w.heap.size <= gb207)); have GE207 := Aside0.mk ((by rw [hg]; exact (below_size (bz2 HB.out GE205.out GE206.out)) : w.heap.size <= gb207)); replace HB := Aside0.mk (below_step (bz2 HB.out GE205.out GE206.out) hb); have NB205_207 := Aside0.mk ((by rw [hg]; exact Nat.ne_of_lt (blk_lt (g := gb205) (o := .cells #[.int .i64 a0_0, .int .i64 a0_1, .int .i64 a0_2, .int .i64 a0_3, .int .i64 a0_4, .string a0_5, .string a0_6] 42 (0, 0)) (kz BK205.out)) : gb205 ≠ gb207)); have NB207_205 := Aside0.mk ((by rw [hg]; exact Nat.ne_of_gt (blk_lt (g := gb205) (o := .cells #[.int .i64 a0_0, .int .i64 a0_1, .int .i64 a0_2, .int .i64 a0_3, .int .i64 a0_4, .string a0_5, .string a0_6] 42 (0, 0)) (kz BK205.out)) : gb207 ≠ gb205)); replace BK205 := Aside0.mk (blk_below (kz BK205.out) hb); have NB206_207 := Aside0.mk ((by rw [hg]; exact Nat.ne_of_lt (blk_lt (g := gb206) (o := .cells #[.int .i64 0, .int .i64 0, .int .i64 0, .int .i64 0, .int .i64 0, .string (⟨#[]⟩ : ByteArray), .string (⟨#[]⟩ : ByteArray)] 43 (0, 0)) (kz BK206.out)) : gb206 ≠ gb207)); have NB207_206 := Aside0.mk ((by rw [hg]; exact Nat.ne_of_gt (blk_lt (g := gb206) (o := .cells #[.int .i64 0, .int .i64 0, .int .i64 0, .int .i64 0, .int .i64 0, .string (⟨#[]⟩ : ByteArray), .string (⟨#[]⟩ : ByteArray)] 43 (0, 0)) (kz BK206.out)) : gb207 ≠ gb206)); replace BK206 := Aside0.mk (blk_below (kz BK206.out) hb); clear hb hbox hg; have hnb5 := NB205_206.out; have hnc5 := NB206_205.out; have hnb6 := NB205_207.out; have hnc6 := NB207_205.out; obtain ⟨hcz7_0, hcz7_1, hcz7_2, hcz7_3, hcz7_4, hcz7_5, hcz7_6⟩ := cz7 BK205.out; obtain ⟨hfz7_0, hfz7_1, hfz7_2, hfz7_3, hfz7_4, hfz7_5, hfz7_6⟩ := fz7 BK205.out; have hnb8 := NB207_206.out; have hnc8 := NB206_207.out; obtain ⟨hcz9_0, hcz9_1, hcz9_2, hcz9_3, hcz9_4, hcz9_5, hcz9_6⟩ := cz7 BK207.out; obtain ⟨hfz9_0, hfz9_1, hfz9_2, hfz9_3, hfz9_4, hfz9_5, hfz9_6⟩ := fz7 BK207.out; obtain ⟨hcz10_0, hcz10_1, hcz10_2, hcz10_3, hcz10_4, hcz10_5, hcz10_6⟩ := cz7 BK206.out; obtain ⟨hfz10_0, hfz10_1, hfz10_2, hfz10_3, hfz10_4, hfz10_5, hfz10_6⟩ := fz7 BK206.out))
 refine bodyPost_ret (results_cell_row rfl _ _ gb206 43 #[.int .i64 a0_0, .int .i64 a0_1, .int .i64 a0_2, .int .i64 a0_3, .int .i64 a0_4, .string a0_5, .string a0_6] (0, 0) _ rfl (by refine kq ?_; refine blk_put (cs := #[.int .i64 a0_0, .int .i64 a0_1, .int .i64 a0_2, .int .i64 a0_3, .int .i64 a0_4, .string a0_5, .string (⟨#[]⟩ : ByteArray)]) ?_ 6 _ rfl; refine kq ?_; refine blk_put (cs := #[.int .i64 a0_0, .int .i64 a0_1, .int .i64 a0_2, .int .i64 a0_3, .int .i64 a0_4, .string (⟨#[]⟩ : ByteArray), .string (⟨#[]⟩ : ByteArray)]) ?_ 5 _ rfl; refine kq ?_; refine blk_put (cs := #[.int .i64 a0_0, .int .i64 a0_1, .int .i64 a0_2, .int .i64 a0_3, .int .i64 0, .string (⟨#[]⟩ : ByteArray), .string (⟨#[]⟩ : ByteArray)]) ?_ 4 _ rfl; refine kq ?_; refine blk_put (cs := #[.int .i64 a0_0, .int .i64 a0_1, .int .i64 a0_2, .int .i64 0, .int .i64 0, .string (⟨#[]⟩ : ByteArray), .string (⟨#[]⟩ : ByteArray)]) ?_ 3 _ rfl; refine kq ?_; refine blk_put (cs := #[.int .i64 a0_0, .int .i64 a0_1, .int .i64 0, .int .i64 0, .int .i64 0, .string (⟨#[]⟩ : ByteArray), .string (⟨#[]⟩ : ByteArray)]) ?_ 2 _ rfl; refine kq ?_; refine blk_put (cs := #[.int .i64 a0_0, .int .i64 0, .int .i64 0, .int .i64 0, .int .i64 0, .string (⟨#[]⟩ : ByteArray), .string (⟨#[]⟩ : ByteArray)]) ?_ 1 _ rfl; refine kq ?_; refine blk_put (cs := #[.int .i64 0, .int .i64 0, .int .i64 0, .int .i64 0, .int .i64 0, .string (⟨#[]⟩ : ByteArray), .string (⟨#[]⟩ : ByteArray)]) ?_ 0 _ rfl; refine kq ?_; refine blk_far ?_ NB206_207.out _; refine kq ?_; refine blk_far ?_ NB206_207.out _; refine kq ?_; refine blk_far ?_ NB206_207.out _; refine kq ?_; refine blk_far ?_ NB206_207.out _; refine kq ?_; refine blk_far ?_ NB206_207.out _; refine kq ?_; refine blk_far ?_ NB206_207.out _; refine kq ?_; refine blk_far ?_ NB206_207.out _; refine kq ?_; exact BK206.out) Tryd.underlying43 rfl (by kernel_rfl)) rfl ?_
 exact ⟨gz, (bz3 HB.out GE205.out GE206.out GE207.out)⟩
def laws_toNodeS.l0 : Nat -> List (S42) -> List (S43) -> Int -> Option ((List (S43)))
 | 0, _, _, _ => none
 | k + 1, x0, x3, x4 => if x4 < (x0.length : Int) then (if 0 <= x4 then ((laws_toNode.f ((rd_T42 x0 x4).f0) ((rd_T42 x0 x4).f1) ((rd_T42 x0 x4).f2) ((rd_T42 x0 x4).f3) ((rd_T42 x0 x4).f4) ((rd_T42 x0 x4).f5) ((rd_T42 x0 x4).f6)).bind fun bt212 => (if x4 < (x3.length : Int) then (laws_toNodeS.l0 k x0 (x3.set (x4 : Int).toNat (⟨bt212.1, bt212.2.1, bt212.2.2.1, bt212.2.2.2.1, bt212.2.2.2.2.1, bt212.2.2.2.2.2.1, bt212.2.2.2.2.2.2⟩ : S43)) (wrap64 (x4 + 1))) else (none))) else (none)) else (some x3)
def laws_toNodeS.f (k : Nat) (l0 : List (S42)) : Option ((List (S43))) := if 0 <= (l0.length : Int) then (if ((l0.length : Int) : Int).toNat <= 3909374676536 then (laws_toNodeS.l0 k l0 (List.replicate ((l0.length : Int) : Int).toNat z43) 0) else (none)) else (none)
theorem laws_toNodeS.mono_l : ∀ k, (∀ y0 y1 y2, LeO (laws_toNodeS.l0 k y0 y1 y2) (laws_toNodeS.l0 (k + 1) y0 y1 y2))
 | 0 => fun _ _ _ r h => by simp [laws_toNodeS.l0] at h
 | k + 1 => by
  have ih0 := laws_toNodeS.mono_l k
  ·intro y0 y1 y2
   unfold laws_toNodeS.l0
   with_reducible repeat' first | exact ih0 _ _ _ | exact lrz _ | exact lnz _ | refine liz ?_ ?_ | refine lbz ?_ fun _ => ?_
theorem laws_toNodeS.mono : ∀ a0 k, LeO (laws_toNodeS.f k a0) (laws_toNodeS.f (k + 1) a0) := by
 intro a0 k
 have ih0 := laws_toNodeS.mono_l k
 unfold laws_toNodeS.f
 with_reducible repeat' first | exact ih0 _ _ _ | exact lrz _ | exact lnz _ | refine liz ?_ ?_ | refine lbz ?_ fun _ => ?_
set_option maxHeartbeats 8000000 in
set_option maxRecDepth 100000 in
theorem laws_toNodeS.calls (k : Nat) (A0 : Option Addr) (c0 : Nat) (l0 : List (S42)) (r : List (S43)) (w : World) (hr0 : Kd.C k42 w A0 l0.length l0) (hc0 : l0.length <= c0) (h : laws_toNodeS.f k l0 = some r) :
  Calls Tryd.prog 12 #[.slice A0 l0.length c0] w fun e w' => ∃ v0_ : Value, e = .returned (v0_) /\ Kd.R k43 43 w' w.heap.size (fun _ => True) v0_ r /\ Below w.heap.size w w' := by
 have hu42 := Tryd.underlying42
 have hu43 := Tryd.underlying43
 have HR0 := Aside0.mk hr0
 have HC0 := Aside0.mk hc0
 clear hr0 hc0
 have HB := Aside0.mk (Below.refl w.heap.size w)
 have H : (if 0 <= (l0.length : Int) then (if ((l0.length : Int) : Int).toNat <= 3909374676536 then (laws_toNodeS.l0 k l0 (List.replicate ((l0.length : Int) : Int).toNat z43) 0) else (none)) else (none)) = some r := h
 clear h
 replace H := iz H
 obtain ⟨c2, H⟩ := H
 have c2b0 := eq_true c2
 have c2b1 : decide (0 <= (l0.length : Int)) = true := decide_eq_true c2
 clear c2
 replace H := iz H
 obtain ⟨c3, H⟩ := H
 have c3b0 := eq_true c3
 have c3b1 : decide (((l0.length : Int) : Int).toNat <= 3909374676536) = true := decide_eq_true c3
 clear c3
 obtain ⟨y208, hy208⟩ : ∃ y_ : List (S43), y_ = (List.replicate ((l0.length : Int) : Int).toNat z43) := ⟨_, rfl⟩
 replace H : (laws_toNodeS.l0 k l0 y208 0) = some r := yz hy208 H
 have Ny208 := Aside0.mk hy208
 clear hy208
 have H' := Aside0.mk H
 clear H
 go_enter Tryd.func12, Tryd.ntmps12
 go_wp2_with (first | ((with_reducible refine gate_dst (N := 7) rfl ?_); refine Kd.R_make k43 _ 43 rfl (N := 7) rfl 25 _ _ rfl (l0.length : Int) rfl rfl Tryd.underlying25 (.agg #[(.int .i64 0), (.int .i64 0), (.int .i64 0), (.int .i64 0), (.int .i64 0), (.string ⟨#[]⟩), (.string ⟨#[]⟩)]) 72 info43 rfl (by decide) (by omega) z43 (ok := fun _ => True) (okp := fun _ => True) (k43_mkM _ _ _ z43 ) (fun _ hk => hk) trivial (of_decide_eq_true az) (Nat.le_trans (Nat.mul_le_mul_right _ (of_decide_eq_true az : (l0.length : Int).toNat <= 3909374676536)) (by omega)) (Below.refl _ _) (Nat.le_refl _) ?_; intro v209 w4 ho5 hb hg_ hnew_; clear hg_ hnew_; (first | rw [<- Ny208.out] at ho5 | (simp only [Int.reduceToNat] at ho5; rw [<- Ny208.out] at ho5)); have HO210 := Aside0.mk (Kd.R_lower ho5 (below_size (bz0 HB.out))); replace HB := Aside0.mk (below_step (bz0 HB.out) hb); clear hb ho5))
 (try simp only [Act.put, sz1, sz2, sz3])
 go_loopg [4] k (fun kq v4 w' => ∃ (x3_1 : List (S43)) (x4_1 : Int), v4 = .int .i64 x4_1 /\ Aside0 (laws_toNodeS.l0 kq l0 x3_1 x4_1 = some r) /\ Aside0 (kq <= k) /\ Aside0 (Kd.R k43 43 w' w.heap.size (fun _ => True) v209 x3_1) /\ Aside0 (Below w.heap.size w w'))
 case atStart => exact ⟨(y208), (0), ez, H', ⟨Nat.le_refl _⟩, ⟨by refine rq ?_; exact HO210.out⟩, ⟨(bz0 HB.out)⟩⟩
 case round =>
  clear H'
  try clear c1
  try clear c2
  try clear c2b0
  try clear c2b1
  try clear p2
  try clear c3
  try clear c3b0
  try clear c3b1
  obtain ⟨x3_1, x4_1, rfl, HA, HK1, HO_3, HB⟩ := hrel
  cases gk with
  | zero => exact absurd HA.out (by simp [laws_toNodeS.l0])
  | succ k1 =>
   have H := HA.out
   clear HA
   simp only [laws_toNodeS.l0] at H
   by_cases c6 : x4_1 < (l0.length : Int)
   ·rw [if_pos c6] at H
    have c6b0 := decide_eq_true c6
    clear c6
    replace H := iz H
    obtain ⟨c7, H⟩ := H
    have c7b0 := decide_eq_true c7
    clear c7
    replace H := bi H
    obtain ⟨⟨t212, t213, t214, t215, t216, t217, t218⟩, A80, H⟩ := H
    try dsimp only at H
    have A8 := Aside0.mk A80
    clear A80
    replace H := iz H
    obtain ⟨c9, H⟩ := H
    have c9b0 := decide_eq_true c9
    clear c9
    obtain ⟨y219, hy219⟩ : ∃ y_ : List (S43), y_ = (x3_1.set (x4_1 : Int).toNat (⟨t212, t213, t214, t215, t216, t217, t218⟩ : S43)) := ⟨_, rfl⟩
    replace H : (laws_toNodeS.l0 k1 l0 y219 (wrap64 (x4_1 + 1))) = some r := yz hy219 H
    have Ny219 := Aside0.mk hy219
    clear hy219
    have H' := Aside0.mk H
    clear H
    have p211 : 0 <= (x4_1 : Int) := oz
    have q211 : x4_1 < (l0.length : Int) := oz
    obtain ⟨ad211, e211, hx211_0, hx211_1, hx211_2, hx211_3, hx211_4, hx211_5, hx211_6⟩ := at_T42 (Kd.C_below HR0.out HB.out) x4_1 p211 q211
    cases e211
    replace p211 := eq_true p211
    replace q211 := eq_true q211
    go_wp2_with (first | ((with_reducible refine gate_callee (f := 35) rfl ?_); refine goesL_ (some 20) rfl rfl Tryd.func35 (by kernel_rfl) rfl #[.agg #[.int .i64 ((rd_T42 l0 x4_1).f0), .int .i64 ((rd_T42 l0 x4_1).f1), .int .i64 ((rd_T42 l0 x4_1).f2), .int .i64 ((rd_T42 l0 x4_1).f3), .int .i64 ((rd_T42 l0 x4_1).f4), .string ((rd_T42 l0 x4_1).f5), .string ((rd_T42 l0 x4_1).f6)]] rfl lz ?_; (with_reducible refine (laws_toNode.calls ((rd_T42 l0 x4_1).f0) ((rd_T42 l0 x4_1).f1) ((rd_T42 l0 x4_1).f2) ((rd_T42 l0 x4_1).f3) ((rd_T42 l0 x4_1).f4) ((rd_T42 l0 x4_1).f5) ((rd_T42 l0 x4_1).f6) t212 t213 t214 t215 t216 t217 t218 _ A8.out).mono ?_); rintro e w11 ⟨rfl, hb⟩; refine ⟨_, rfl, ?_⟩; replace HO_3 := qz HO_3 hb; replace HB := Aside0.mk (below_step (bz0 HB.out) hb); (try clear hb); (try clear hk); have p10 : 0 <= (x4_1 : Int) := oz; have q10 : (x4_1 : Int) < ((x3_1.length : Int) : Int) := oz; obtain ⟨go10, co10, eo10, gb10, gl10, cl10, HG10⟩ := Kd.R_form HO_3.out (by omega); (first | cases eo10 | (injection eo10 with ea_ en_ ec_; (first | subst ea_ | (injection ea_ with ea_; subst ea_)); subst ec_; clear en_)); have GB10 := Aside0.mk gb10; have GG10 := Aside0.mk HG10; clear gb10 gl10 HG10; obtain ⟨ce10, hcl10, hM10, hcc10, hfr10⟩ := Kd.R_elem HO_3.out z43 (x4_1 : Int) p10 q10; obtain rfl := k43_openM hM10; have hx10_0 : w11.cell? ⟨go10, (x4_1 : Int).toNat * 7, none⟩ = some (.int .i64 ((rd_T43 x3_1 x4_1).f0)) := hcc10 0 _ rfl; have hx10_1 : w11.cell? ⟨go10, (x4_1 : Int).toNat * 7 + 1, none⟩ = some (.int .i64 ((rd_T43 x3_1 x4_1).f1)) := hcc10 1 _ rfl; have hx10_2 : w11.cell? ⟨go10, (x4_1 : Int).toNat * 7 + 2, none⟩ = some (.int .i64 ((rd_T43 x3_1 x4_1).f2)) := hcc10 2 _ rfl; have hx10_3 : w11.cell? ⟨go10, (x4_1 : Int).toNat * 7 + 3, none⟩ = some (.int .i64 ((rd_T43 x3_1 x4_1).f3)) := hcc10 3 _ rfl; have hx10_4 : w11.cell? ⟨go10, (x4_1 : Int).toNat * 7 + 4, none⟩ = some (.int .i64 ((rd_T43 x3_1 x4_1).f4)) := hcc10 4 _ rfl; have hx10_5 : w11.cell? ⟨go10, (x4_1 : Int).toNat * 7 + 5, none⟩ = some (.string ((rd_T43 x3_1 x4_1).f5)) := hcc10 5 _ rfl; have hx10_6 : w11.cell? ⟨go10, (x4_1 : Int).toNat * 7 + 6, none⟩ = some (.string ((rd_T43 x3_1 x4_1).f6)) := hcc10 6 _ rfl; have hf10_0 : w11.frozen? ⟨go10, (x4_1 : Int).toNat * 7, none⟩ = false := hfr10 0; have hf10_1 : w11.frozen? ⟨go10, (x4_1 : Int).toNat * 7 + 1, none⟩ = false := hfr10 1; have hf10_2 : w11.frozen? ⟨go10, (x4_1 : Int).toNat * 7 + 2, none⟩ = false := hfr10 2; have hf10_3 : w11.frozen? ⟨go10, (x4_1 : Int).toNat * 7 + 3, none⟩ = false := hfr10 3; have hf10_4 : w11.frozen? ⟨go10, (x4_1 : Int).toNat * 7 + 4, none⟩ = false := hfr10 4; have hf10_5 : w11.frozen? ⟨go10, (x4_1 : Int).toNat * 7 + 5, none⟩ = false := hfr10 5; have hf10_6 : w11.frozen? ⟨go10, (x4_1 : Int).toNat * 7 + 6, none⟩ = false := hfr10 6; clear hcl10 hcc10 hfr10 hM10; replace p10 := eq_true p10; replace q10 := eq_true q10; have HX12 := Aside0.mk (show Kd.R k43 43 w11 w.heap.size (fun _ => True) (.slice (some ⟨go10, 0, none⟩) x3_1.length co10) x3_1 from (rz HO_3.out)); obtain ⟨ce12, hcl12, hM12, hcc12, hfr12⟩ := Kd.R_elem HX12.out z43 (x4_1 : Int) (of_decide_eq_true az) (by have h_ : (x4_1 : Int) < ((x3_1.length : Int) : Int) := oz; first | exact h_ | (have e_ := (Kd.R_reads' HO_3.out).1; omega) | simpa using h_); obtain rfl := k43_openM hM12; have HP12 := Kd.R_seg HX12.out (x4_1 : Int) (of_decide_eq_true az) (by have h_ : (x4_1 : Int) < ((x3_1.length : Int) : Int) := oz; first | exact h_ | (have e_ := (Kd.R_reads' HO_3.out).1; omega) | simpa using h_) (seg := [.int .i64 t212, .int .i64 t213, .int .i64 t214, .int .i64 t215, .int .i64 t216, .string t217, .string t218]) (j := 0) hcl12 hcc12 (show 7 <= 7 from by decide) (x' := (⟨t212, t213, t214, t215, t216, t217, t218⟩ : S43)) (k43_mkM _ _ _ (⟨t212, t213, t214, t215, t216, t217, t218⟩ : S43) ) (fun _ hk => hk); have hx12_0 := hcc12 0 _ rfl; (try simp only [show (k43).sz = 7 from rfl, Nat.mul_one, Nat.add_zero] at hx12_0); have hf12_0 := hfr12 0; (try simp only [show (k43).sz = 7 from rfl, Nat.mul_one, Nat.add_zero] at hf12_0); have hx12_1 := hcc12 1 _ rfl; (try simp only [show (k43).sz = 7 from rfl, Nat.mul_one, Nat.add_zero] at hx12_1); have hf12_1 := hfr12 1; (try simp only [show (k43).sz = 7 from rfl, Nat.mul_one, Nat.add_zero] at hf12_1); have hx12_2 := hcc12 2 _ rfl; (try simp only [show (k43).sz = 7 from rfl, Nat.mul_one, Nat.add_zero] at hx12_2); have hf12_2 := hfr12 2; (try simp only [show (k43).sz = 7 from rfl, Nat.mul_one, Nat.add_zero] at hf12_2); have hx12_3 := hcc12 3 _ rfl; (try simp only [show (k43).sz = 7 from rfl, Nat.mul_one, Nat.add_zero] at hx12_3); have hf12_3 := hfr12 3; (try simp only [show (k43).sz = 7 from rfl, Nat.mul_one, Nat.add_zero] at hf12_3); have hx12_4 := hcc12 4 _ rfl; (try simp only [show (k43).sz = 7 from rfl, Nat.mul_one, Nat.add_zero] at hx12_4); have hf12_4 := hfr12 4; (try simp only [show (k43).sz = 7 from rfl, Nat.mul_one, Nat.add_zero] at hf12_4); have hx12_5 := hcc12 5 _ rfl; (try simp only [show (k43).sz = 7 from rfl, Nat.mul_one, Nat.add_zero] at hx12_5); have hf12_5 := hfr12 5; (try simp only [show (k43).sz = 7 from rfl, Nat.mul_one, Nat.add_zero] at hf12_5); have hx12_6 := hcc12 6 _ rfl; (try simp only [show (k43).sz = 7 from rfl, Nat.mul_one, Nat.add_zero] at hx12_6); have hf12_6 := hfr12 6; (try simp only [show (k43).sz = 7 from rfl, Nat.mul_one, Nat.add_zero] at hf12_6); clear hcl12 hcc12 hfr12 hM12) | ((with_reducible refine gate_store (t := 43) (p := 21) rfl ?_); refine store_event (t := 43) (p := 21) (v := ?vo_w13) (w1 := (((((((w11.setCell ⟨go10, (x4_1 : Int).toNat * 7, none⟩ (.int .i64 t212)).setCell ⟨go10, (x4_1 : Int).toNat * 7 + 1, none⟩ (.int .i64 t213)).setCell ⟨go10, (x4_1 : Int).toNat * 7 + 2, none⟩ (.int .i64 t214)).setCell ⟨go10, (x4_1 : Int).toNat * 7 + 3, none⟩ (.int .i64 t215)).setCell ⟨go10, (x4_1 : Int).toNat * 7 + 4, none⟩ (.int .i64 t216)).setCell ⟨go10, (x4_1 : Int).toNat * 7 + 5, none⟩ (.string t217)).setCell ⟨go10, (x4_1 : Int).toNat * 7 + 6, none⟩ (.string t218))) ?hg ?ho ?hn ?hr ?_; (case ho => rfl); (case hg => rfl); (case hn => rfl); (case hr => exact vz); intro w13 hw; have hg : w11.grownBy w13 (some go10) := (by rw [hw]; exact HP12.2); have hp_ : Kd.R k43 43 w13 w.heap.size (fun _ => True) (.slice (some ⟨go10, 0, none⟩) x3_1.length co10) y219 := (by rw [hw, Ny219.out]; exact HP12.1); clear HP12; replace HO_3 := Aside0.mk (hp_); replace HB := Aside0.mk ((by rw [hw]; exact below_set (below_set (below_set (below_set (below_set (below_set (below_set (HB.out) GB10.out) GB10.out) GB10.out) GB10.out) GB10.out) GB10.out) GB10.out : Below w.heap.size w w13)); clear hg hw hp_))
    go_roundg k1
    case measure => have := HK1.out; omega
    case rel => exact ⟨(y219), (wrap64 (x4_1 + 1)), ez, H', ⟨by have := HK1.out; omega⟩, ⟨by refine rq ?_; exact HO_3.out⟩, ⟨(bz0 HB.out)⟩⟩
   ·rw [if_neg c6] at H
    have c6b0 := decide_eq_false c6
    clear c6
    obtain rfl := Option.some.inj H
    go_wp2
    go_ret
    exact ⟨_, gz, by refine rq ?_; exact HO_3.out, (bz0 HB.out)⟩
def impl_in.f (a0 : Int) (a1 : Int) (a2 : Int) : Option (Bool) := if a0 ≥ a1 then (some (decide (a0 <= a2))) else (some false)
set_option maxHeartbeats 8000000 in
set_option maxRecDepth 100000 in
theorem impl_in.calls (a0 : Int) (a1 : Int) (a2 : Int) (r : Bool) (w : World) (h : impl_in.f a0 a1 a2 = some r) :
  Calls Tryd.prog 44 #[.int .i64 a0, .int .i64 a1, .int .i64 a2] w fun e w' => e = .returned (.bool r) /\ Drawn0 w w' := by
 have H : (if a0 ≥ a1 then (some (decide (a0 <= a2))) else (some false)) = some r := h
 clear h
 by_cases c4 : a0 ≥ a1
 ·rw [if_pos c4] at H
  have c4b0 : decide (a1 <= a0) = true := decide_eq_true c4
  clear c4
  obtain rfl := Option.some.inj H
  go_enter Tryd.func44, Tryd.ntmps44
  go_wp2
  go_ret
  exact ⟨e2z, dz⟩
 ·rw [if_neg c4] at H
  have c4b0 : decide (a1 <= a0) = false := decide_eq_false c4
  clear c4
  obtain rfl := Option.some.inj H
  go_enter Tryd.func44, Tryd.ntmps44
  go_wp2
  go_ret
  exact ⟨e2z, dz⟩
end Go.Proofs.YtmilegjmiiccdaaDoor.PFnExactPrint
