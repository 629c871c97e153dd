/- PFnExactPrintPartx6, of the words and walks that the law FnExactPrintPart needs; made by this session's program out of printed texts. -/

import Derived.Test.YtmilegjmiiccdaaDoorVEPrintPartPx0
import Derived.Test.YtmilegjmiiccdaaDoorVEPrintPartPx1
import Derived.Test.YtmilegjmiiccdaaDoorVEPrintPartPx2
import Derived.Test.YtmilegjmiiccdaaDoorVEPrintPartPx5
namespace Go.Proofs.YtmilegjmiiccdaaDoor.PFnExactPrintPart
open Go.RowKit Go.Proofs.YtmilegjmiiccdaaDoorW.PrintWords Go.Proofs.YtmilegjmiiccdaaDoorW.PrintLast Go.Proofs.YtmilegjmiiccdaaDoorW.PrintMore
attribute [local go_sem] max2_int min2_int max_two min_two max_three min_three max_four min_four
set_option linter.unusedVariables false
set_option linter.unusedSimpArgs false
def spec_KeyOf.f (a0_0 : Int) (a0_1 : Int) (a0_2 : Int) (a0_3 : Int) (a0_4 : Int) (a0_5 : ByteArray) (a0_6 : ByteArray) : Option (ByteArray) := if a0_0 = 8 then ((spec_l1In.f a0_4 0 3).bind fun t190 => (if t190 = true then ((some (([(⟨#[97, 100, 100]⟩ : ByteArray), (⟨#[115, 117, 98]⟩ : ByteArray), (⟨#[108, 101, 115, 115]⟩ : ByteArray), (⟨#[115, 97, 109, 101]⟩ : ByteArray)] : List ByteArray) : List ByteArray)).bind fun y191 => (if 0 <= a0_4 then (if a0_4 < (y191.length : Int) then (some (rdOf ByteArray.empty y191 a0_4)) else (none)) else (none))) else (some (⟨#[]⟩ : ByteArray)))) else ((spec_l1In.f a0_0 3 19).bind fun t195 => (if t195 = true then ((some (([(⟨#[102, 117, 110]⟩ : ByteArray), (⟨#[97, 112, 112]⟩ : ByteArray), (⟨#[108, 101, 116]⟩ : ByteArray), (⟨#[114, 101, 99]⟩ : ByteArray), (⟨#[105, 102]⟩ : ByteArray), (⟨#[]⟩ : ByteArray), (⟨#[112, 97, 105, 114]⟩ : ByteArray), (⟨#[102, 115, 116]⟩ : ByteArray), (⟨#[115, 110, 100]⟩ : ByteArray), (⟨#[110, 105, 108]⟩ : ByteArray), (⟨#[99, 111, 110, 115]⟩ : ByteArray), (⟨#[109, 97, 116, 99, 104]⟩ : ByteArray), (⟨#[114, 101, 102]⟩ : ByteArray), (⟨#[103, 101, 116]⟩ : ByteArray), (⟨#[115, 101, 116]⟩ : ByteArray), (⟨#[114, 97, 105, 115, 101]⟩ : ByteArray), (⟨#[116, 114, 121]⟩ : ByteArray)] : List ByteArray) : List ByteArray)).bind fun y196 => (if 0 <= (wrap64 (a0_0 - 3)) then (if (wrap64 (a0_0 - 3)) < (y196.length : Int) then (some (rdOf ByteArray.empty y196 (wrap64 (a0_0 - 3)))) else (none)) else (none))) else (some (⟨#[]⟩ : ByteArray))))
set_option maxHeartbeats 8000000 in
set_option maxRecDepth 100000 in
theorem spec_KeyOf.calls (a0_0 : Int) (a0_1 : Int) (a0_2 : Int) (a0_3 : Int) (a0_4 : Int) (a0_5 : ByteArray) (a0_6 : ByteArray) (r : ByteArray) (w : World) (h : spec_KeyOf.f a0_0 a0_1 a0_2 a0_3 a0_4 a0_5 a0_6 = some r) :
  Calls Tryd.prog 66 #[.agg #[.int .i64 a0_0, .int .i64 a0_1, .int .i64 a0_2, .int .i64 a0_3, .int .i64 a0_4, .string a0_5, .string a0_6]] w fun e w' => e = .returned (.string r) /\ Below w.heap.size w w' := by
 have hu43 := Tryd.underlying43
 have HB := Aside0.mk (Below.refl w.heap.size w)
 have H : (if a0_0 = 8 then ((spec_l1In.f a0_4 0 3).bind fun t190 => (if t190 = true then ((some (([(⟨#[97, 100, 100]⟩ : ByteArray), (⟨#[115, 117, 98]⟩ : ByteArray), (⟨#[108, 101, 115, 115]⟩ : ByteArray), (⟨#[115, 97, 109, 101]⟩ : ByteArray)] : List ByteArray) : List ByteArray)).bind fun y191 => (if 0 <= a0_4 then (if a0_4 < (y191.length : Int) then (some (rdOf ByteArray.empty y191 a0_4)) else (none)) else (none))) else (some (⟨#[]⟩ : ByteArray)))) else ((spec_l1In.f a0_0 3 19).bind fun t195 => (if t195 = true then ((some (([(⟨#[102, 117, 110]⟩ : ByteArray), (⟨#[97, 112, 112]⟩ : ByteArray), (⟨#[108, 101, 116]⟩ : ByteArray), (⟨#[114, 101, 99]⟩ : ByteArray), (⟨#[105, 102]⟩ : ByteArray), (⟨#[]⟩ : ByteArray), (⟨#[112, 97, 105, 114]⟩ : ByteArray), (⟨#[102, 115, 116]⟩ : ByteArray), (⟨#[115, 110, 100]⟩ : ByteArray), (⟨#[110, 105, 108]⟩ : ByteArray), (⟨#[99, 111, 110, 115]⟩ : ByteArray), (⟨#[109, 97, 116, 99, 104]⟩ : ByteArray), (⟨#[114, 101, 102]⟩ : ByteArray), (⟨#[103, 101, 116]⟩ : ByteArray), (⟨#[115, 101, 116]⟩ : ByteArray), (⟨#[114, 97, 105, 115, 101]⟩ : ByteArray), (⟨#[116, 114, 121]⟩ : ByteArray)] : List ByteArray) : List ByteArray)).bind fun y196 => (if 0 <= (wrap64 (a0_0 - 3)) then (if (wrap64 (a0_0 - 3)) < (y196.length : Int) then (some (rdOf ByteArray.empty y196 (wrap64 (a0_0 - 3)))) else (none)) else (none))) else (some (⟨#[]⟩ : ByteArray))))) = some r := h
 clear h
 by_cases c2 : a0_0 = 8
 ·rw [if_pos c2] at H
  have c2b0 : (a0_0 == 8) = true := beq_iff_eq.mpr c2
  have c2b1 : (a0_0 != 8) = false := bne_eq_false_iff_eq.mpr c2
  clear c2
  replace H := bi H
  obtain ⟨t190, A30, H⟩ := H
  try dsimp only at H
  have A3 := Aside0.mk A30
  clear A30
  by_cases c4 : t190 = true
  ·subst c4
   have H1 := hp H
   clear H
   have H := H1
   clear H1
   obtain ⟨y191, hy191⟩ : ∃ y_ : List ByteArray, y_ = (([(⟨#[97, 100, 100]⟩ : ByteArray), (⟨#[115, 117, 98]⟩ : ByteArray), (⟨#[108, 101, 115, 115]⟩ : ByteArray), (⟨#[115, 97, 109, 101]⟩ : ByteArray)] : List ByteArray)) := ⟨_, rfl⟩
   replace H : (if 0 <= a0_4 then (if a0_4 < (y191.length : Int) then (some (rdOf ByteArray.empty y191 a0_4)) else (none)) else (none)) = some r := yz hy191 H
   have Ny191 := Aside0.mk hy191
   clear hy191
   replace H := iz H
   obtain ⟨c5, H⟩ := H
   have c5b0 := decide_eq_true c5
   clear c5
   replace H := iz H
   obtain ⟨c6, H⟩ := H
   have c6b0 := decide_eq_true c6
   clear c6
   obtain rfl := Option.some.inj H
   go_enter Tryd.func66, Tryd.ntmps66
   go_wp2_with (first | ((with_reducible refine gate_dst (N := 1) rfl ?_); refine box_event ?hg (N := 1) ?hd (cs := #[.int .i64 a0_0, .int .i64 a0_1, .int .i64 a0_2, .int .i64 a0_3, .int .i64 a0_4, .string a0_5, .string a0_6]) (t := 43) ?hr ?_; (case hd => rfl); (case hg => rfl); (case hr => exact vz); intro gb189 hg w7 hbox hb; have BK189 := Aside0.mk (hbox); have GW189 := Aside0.mk ((by rw [hg]; exact (below_size (bz0 HB.out)) : w.heap.size <= gb189)); have GE189 := Aside0.mk ((by rw [hg]; exact (below_size (bz0 HB.out)) : w.heap.size <= gb189)); replace HB := Aside0.mk (below_step (bz0 HB.out) hb); clear hb hbox hg; obtain ⟨hcz8_0, hcz8_1, hcz8_2, hcz8_3, hcz8_4, hcz8_5, hcz8_6⟩ := cz7 BK189.out; obtain ⟨hfz8_0, hfz8_1, hfz8_2, hfz8_3, hfz8_4, hfz8_5, hfz8_6⟩ := fz7 BK189.out) | ((with_reducible refine gate_callee (f := 39) rfl ?_); refine goesL_ (some 8) rfl rfl Tryd.func39 (by kernel_rfl) rfl #[.int .i64 a0_4, .int .i64 0, .int .i64 3] rfl lz ?_; (with_reducible refine (spec_l1In.calls a0_4 0 3 true _ A3.out).mono ?_); rintro e w' ⟨rfl, ⟨nd, rfl⟩⟩; refine ⟨_, rfl, ?_⟩) | ((with_reducible refine gate_dst (N := 10) rfl ?_); refine Kd.R_lit Kd.string _ 9 ?hg (N := 10) ?hd (xs := ([(⟨#[97, 100, 100]⟩ : ByteArray), (⟨#[115, 117, 98]⟩ : ByteArray), (⟨#[108, 101, 115, 115]⟩ : ByteArray), (⟨#[115, 97, 109, 101]⟩ : ByteArray)] : List ByteArray)) (inner := [.string (⟨#[97, 100, 100]⟩ : ByteArray), .string (⟨#[115, 117, 98]⟩ : ByteArray), .string (⟨#[108, 101, 115, 115]⟩ : ByteArray), .string (⟨#[115, 97, 109, 101]⟩ : ByteArray)]) (ok := fun _ => True) (okp := fun _ => True) ?hr ?hp (fun _ hk => hk) trivial (Below.refl _ _) (Nat.le_refl _) (by simp) ?_; (case hd => rfl); (case hg => rfl); (case hr => exact vz); (case hp => exact (Reps.one (show Kd.M Kd.string _ _ _ (⟨#[97, 100, 100]⟩ : ByteArray) [.string (⟨#[97, 100, 100]⟩ : ByteArray)] from rfl) (Reps.one (show Kd.M Kd.string _ _ _ (⟨#[115, 117, 98]⟩ : ByteArray) [.string (⟨#[115, 117, 98]⟩ : ByteArray)] from rfl) (Reps.one (show Kd.M Kd.string _ _ _ (⟨#[108, 101, 115, 115]⟩ : ByteArray) [.string (⟨#[108, 101, 115, 115]⟩ : ByteArray)] from rfl) (Reps.one (show Kd.M Kd.string _ _ _ (⟨#[115, 97, 109, 101]⟩ : ByteArray) [.string (⟨#[115, 97, 109, 101]⟩ : ByteArray)] from rfl) (Reps.none _ _)))))); intro v192 w9 ho10 hb hg_ hnew_; clear hg_ hnew_; (first | rw [<- Ny191.out] at ho10 | (simp only [Int.reduceToNat] at ho10; rw [<- Ny191.out] at ho10)); have HO193 := Aside0.mk (Kd.R_lower ho10 (below_size (bz1 HB.out GE189.out))); replace BK189 := Aside0.mk (blk_below (kz BK189.out) hb); replace HB := Aside0.mk (below_step (bz1 HB.out GE189.out) hb); clear hb ho10; obtain ⟨hcz11_0, hcz11_1, hcz11_2, hcz11_3, hcz11_4, hcz11_5, hcz11_6⟩ := cz7 BK189.out; obtain ⟨hfz11_0, hfz11_1, hfz11_2, hfz11_3, hfz11_4, hfz11_5, hfz11_6⟩ := fz7 BK189.out; obtain ⟨Ao12, co12, eo12⟩ := Kd.R_slice HO193.out; subst eo12; have p194 : 0 <= (a0_4 : Int) := oz; have q194 : a0_4 < (y191.length : Int) := oz; obtain ⟨ad194, e194, hx194_0⟩ := Kd.at_string (Kd.R_reads' HO193.out).2.2 a0_4 p194 q194; cases e194; replace p194 := eq_true p194; replace q194 := eq_true q194))
   go_ret
   exact ⟨gz, (bz1 HB.out GE189.out)⟩
  ·replace c4 := Bool.eq_false_iff.mpr c4
   subst c4
   have H1 := hq H
   clear H
   have H := H1
   clear H1
   obtain rfl := Option.some.inj H
   go_enter Tryd.func66, Tryd.ntmps66
   go_wp2_with (first | ((with_reducible refine gate_dst (N := 1) rfl ?_); refine box_event ?hg (N := 1) ?hd (cs := #[.int .i64 a0_0, .int .i64 a0_1, .int .i64 a0_2, .int .i64 a0_3, .int .i64 a0_4, .string a0_5, .string a0_6]) (t := 43) ?hr ?_; (case hd => rfl); (case hg => rfl); (case hr => exact vz); intro gb189 hg w13 hbox hb; have BK189 := Aside0.mk (hbox); have GW189 := Aside0.mk ((by rw [hg]; exact (below_size (bz0 HB.out)) : w.heap.size <= gb189)); have GE189 := Aside0.mk ((by rw [hg]; exact (below_size (bz0 HB.out)) : w.heap.size <= gb189)); replace HB := Aside0.mk (below_step (bz0 HB.out) hb); clear hb hbox hg; obtain ⟨hcz14_0, hcz14_1, hcz14_2, hcz14_3, hcz14_4, hcz14_5, hcz14_6⟩ := cz7 BK189.out; obtain ⟨hfz14_0, hfz14_1, hfz14_2, hfz14_3, hfz14_4, hfz14_5, hfz14_6⟩ := fz7 BK189.out) | ((with_reducible refine gate_callee (f := 39) rfl ?_); refine goesL_ (some 8) rfl rfl Tryd.func39 (by kernel_rfl) rfl #[.int .i64 a0_4, .int .i64 0, .int .i64 3] rfl lz ?_; (with_reducible refine (spec_l1In.calls a0_4 0 3 false _ A3.out).mono ?_); rintro e w' ⟨rfl, ⟨nd, rfl⟩⟩; refine ⟨_, rfl, ?_⟩))
   go_ret
   exact ⟨gz, (bz1 HB.out GE189.out)⟩
 ·rw [if_neg c2] at H
  have c2b0 : (a0_0 == 8) = false := beq_eq_false_iff_ne.mpr c2
  have c2b1 : (a0_0 != 8) = true := bne_iff_ne.mpr c2
  replace H := bi H
  obtain ⟨t195, A150, H⟩ := H
  try dsimp only at H
  have A15 := Aside0.mk A150
  clear A150
  by_cases c16 : t195 = true
  ·subst c16
   have H1 := hp H
   clear H
   have H := H1
   clear H1
   obtain ⟨y196, hy196⟩ : ∃ y_ : List ByteArray, y_ = (([(⟨#[102, 117, 110]⟩ : ByteArray), (⟨#[97, 112, 112]⟩ : ByteArray), (⟨#[108, 101, 116]⟩ : ByteArray), (⟨#[114, 101, 99]⟩ : ByteArray), (⟨#[105, 102]⟩ : ByteArray), (⟨#[]⟩ : ByteArray), (⟨#[112, 97, 105, 114]⟩ : ByteArray), (⟨#[102, 115, 116]⟩ : ByteArray), (⟨#[115, 110, 100]⟩ : ByteArray), (⟨#[110, 105, 108]⟩ : ByteArray), (⟨#[99, 111, 110, 115]⟩ : ByteArray), (⟨#[109, 97, 116, 99, 104]⟩ : ByteArray), (⟨#[114, 101, 102]⟩ : ByteArray), (⟨#[103, 101, 116]⟩ : ByteArray), (⟨#[115, 101, 116]⟩ : ByteArray), (⟨#[114, 97, 105, 115, 101]⟩ : ByteArray), (⟨#[116, 114, 121]⟩ : ByteArray)] : List ByteArray)) := ⟨_, rfl⟩
   replace H : (if 0 <= (wrap64 (a0_0 - 3)) then (if (wrap64 (a0_0 - 3)) < (y196.length : Int) then (some (rdOf ByteArray.empty y196 (wrap64 (a0_0 - 3)))) else (none)) else (none)) = some r := yz hy196 H
   have Ny196 := Aside0.mk hy196
   clear hy196
   obtain ⟨ji17, hji17⟩ : ∃ j_ : Int, (wrap64 (a0_0 - 3)) = j_ := ⟨_, rfl⟩
   replace H : (if 0 <= (ji17) then (if (ji17) < (y196.length : Int) then (some (rdOf ByteArray.empty y196 (ji17))) else (none)) else (none)) = some r := by first | (rw [hji17] at H; exact H) | (simp only [hji17] at H ⊢; exact H)
   (try rw [hji17] at A15)
   have hji17w : (IntKind.i64.wrap (a0_0 - 3)) = ji17 := (i64_w _).trans hji17
   replace H := iz H
   obtain ⟨c18, H⟩ := H
   have c18b0 := decide_eq_true c18
   clear c18
   replace H := iz H
   obtain ⟨c19, H⟩ := H
   have c19b0 := decide_eq_true c19
   clear c19
   obtain rfl := Option.some.inj H
   go_enter Tryd.func66, Tryd.ntmps66
   go_wp2_with (first | ((with_reducible refine gate_dst (N := 1) rfl ?_); refine box_event ?hg (N := 1) ?hd (cs := #[.int .i64 a0_0, .int .i64 a0_1, .int .i64 a0_2, .int .i64 a0_3, .int .i64 a0_4, .string a0_5, .string a0_6]) (t := 43) ?hr ?_; (case hd => rfl); (case hg => rfl); (case hr => exact vz); intro gb189 hg w20 hbox hb; have BK189 := Aside0.mk (hbox); have GW189 := Aside0.mk ((by rw [hg]; exact (below_size (bz0 HB.out)) : w.heap.size <= gb189)); have GE189 := Aside0.mk ((by rw [hg]; exact (below_size (bz0 HB.out)) : w.heap.size <= gb189)); replace HB := Aside0.mk (below_step (bz0 HB.out) hb); clear hb hbox hg; obtain ⟨hcz21_0, hcz21_1, hcz21_2, hcz21_3, hcz21_4, hcz21_5, hcz21_6⟩ := cz7 BK189.out; obtain ⟨hfz21_0, hfz21_1, hfz21_2, hfz21_3, hfz21_4, hfz21_5, hfz21_6⟩ := fz7 BK189.out) | ((with_reducible refine gate_callee (f := 39) rfl ?_); refine goesL_ (some 17) rfl rfl Tryd.func39 (by kernel_rfl) rfl #[.int .i64 a0_0, .int .i64 3, .int .i64 19] rfl lz ?_; (with_reducible refine (spec_l1In.calls a0_0 3 19 true _ A15.out).mono ?_); rintro e w' ⟨rfl, ⟨nd, rfl⟩⟩; refine ⟨_, rfl, ?_⟩) | ((with_reducible refine gate_dst (N := 19) rfl ?_); refine Kd.R_lit Kd.string _ 9 ?hg (N := 19) ?hd (xs := ([(⟨#[102, 117, 110]⟩ : ByteArray), (⟨#[97, 112, 112]⟩ : ByteArray), (⟨#[108, 101, 116]⟩ : ByteArray), (⟨#[114, 101, 99]⟩ : ByteArray), (⟨#[105, 102]⟩ : ByteArray), (⟨#[]⟩ : ByteArray), (⟨#[112, 97, 105, 114]⟩ : ByteArray), (⟨#[102, 115, 116]⟩ : ByteArray), (⟨#[115, 110, 100]⟩ : ByteArray), (⟨#[110, 105, 108]⟩ : ByteArray), (⟨#[99, 111, 110, 115]⟩ : ByteArray), (⟨#[109, 97, 116, 99, 104]⟩ : ByteArray), (⟨#[114, 101, 102]⟩ : ByteArray), (⟨#[103, 101, 116]⟩ : ByteArray), (⟨#[115, 101, 116]⟩ : ByteArray), (⟨#[114, 97, 105, 115, 101]⟩ : ByteArray), (⟨#[116, 114, 121]⟩ : ByteArray)] : List ByteArray)) (inner := [.string (⟨#[102, 117, 110]⟩ : ByteArray), .string (⟨#[97, 112, 112]⟩ : ByteArray), .string (⟨#[108, 101, 116]⟩ : ByteArray), .string (⟨#[114, 101, 99]⟩ : ByteArray), .string (⟨#[105, 102]⟩ : ByteArray), .string (⟨#[]⟩ : ByteArray), .string (⟨#[112, 97, 105, 114]⟩ : ByteArray), .string (⟨#[102, 115, 116]⟩ : ByteArray), .string (⟨#[115, 110, 100]⟩ : ByteArray), .string (⟨#[110, 105, 108]⟩ : ByteArray), .string (⟨#[99, 111, 110, 115]⟩ : ByteArray), .string (⟨#[109, 97, 116, 99, 104]⟩ : ByteArray), .string (⟨#[114, 101, 102]⟩ : ByteArray), .string (⟨#[103, 101, 116]⟩ : ByteArray), .string (⟨#[115, 101, 116]⟩ : ByteArray), .string (⟨#[114, 97, 105, 115, 101]⟩ : ByteArray), .string (⟨#[116, 114, 121]⟩ : ByteArray)]) (ok := fun _ => True) (okp := fun _ => True) ?hr ?hp (fun _ hk => hk) trivial (Below.refl _ _) (Nat.le_refl _) (by simp) ?_; (case hd => rfl); (case hg => rfl); (case hr => exact vz); (case hp => exact (Reps.one (show Kd.M Kd.string _ _ _ (⟨#[102, 117, 110]⟩ : ByteArray) [.string (⟨#[102, 117, 110]⟩ : ByteArray)] from rfl) (Reps.one (show Kd.M Kd.string _ _ _ (⟨#[97, 112, 112]⟩ : ByteArray) [.string (⟨#[97, 112, 112]⟩ : ByteArray)] from rfl) (Reps.one (show Kd.M Kd.string _ _ _ (⟨#[108, 101, 116]⟩ : ByteArray) [.string (⟨#[108, 101, 116]⟩ : ByteArray)] from rfl) (Reps.one (show Kd.M Kd.string _ _ _ (⟨#[114, 101, 99]⟩ : ByteArray) [.string (⟨#[114, 101, 99]⟩ : ByteArray)] from rfl) (Reps.one (show Kd.M Kd.string _ _ _ (⟨#[105, 102]⟩ : ByteArray) [.string (⟨#[105, 102]⟩ : ByteArray)] from rfl) (Reps.one (show Kd.M Kd.string _ _ _ (⟨#[]⟩ : ByteArray) [.string (⟨#[]⟩ : ByteArray)] from rfl) (Reps.one (show Kd.M Kd.string _ _ _ (⟨#[112, 97, 105, 114]⟩ : ByteArray) [.string (⟨#[112, 97, 105, 114]⟩ : ByteArray)] from rfl) (Reps.one (show Kd.M Kd.string _ _ _ (⟨#[102, 115, 116]⟩ : ByteArray) [.string (⟨#[102, 115, 116]⟩ : ByteArray)] from rfl) (Reps.one (show Kd.M Kd.string _ _ _ (⟨#[115, 110, 100]⟩ : ByteArray) [.string (⟨#[115, 110, 100]⟩ : ByteArray)] from rfl) (Reps.one (show Kd.M Kd.string _ _ _ (⟨#[110, 105, 108]⟩ : ByteArray) [.string (⟨#[110, 105, 108]⟩ : ByteArray)] from rfl) (Reps.one (show Kd.M Kd.string _ _ _ (⟨#[99, 111, 110, 115]⟩ : ByteArray) [.string (⟨#[99, 111, 110, 115]⟩ : ByteArray)] from rfl) (Reps.one (show Kd.M Kd.string _ _ _ (⟨#[109, 97, 116, 99, 104]⟩ : ByteArray) [.string (⟨#[109, 97, 116, 99, 104]⟩ : ByteArray)] from rfl) (Reps.one (show Kd.M Kd.string _ _ _ (⟨#[114, 101, 102]⟩ : ByteArray) [.string (⟨#[114, 101, 102]⟩ : ByteArray)] from rfl) (Reps.one (show Kd.M Kd.string _ _ _ (⟨#[103, 101, 116]⟩ : ByteArray) [.string (⟨#[103, 101, 116]⟩ : ByteArray)] from rfl) (Reps.one (show Kd.M Kd.string _ _ _ (⟨#[115, 101, 116]⟩ : ByteArray) [.string (⟨#[115, 101, 116]⟩ : ByteArray)] from rfl) (Reps.one (show Kd.M Kd.string _ _ _ (⟨#[114, 97, 105, 115, 101]⟩ : ByteArray) [.string (⟨#[114, 97, 105, 115, 101]⟩ : ByteArray)] from rfl) (Reps.one (show Kd.M Kd.string _ _ _ (⟨#[116, 114, 121]⟩ : ByteArray) [.string (⟨#[116, 114, 121]⟩ : ByteArray)] from rfl) (Reps.none _ _))))))))))))))))))); intro v197 w22 ho23 hb hg_ hnew_; clear hg_ hnew_; (first | rw [<- Ny196.out] at ho23 | (simp only [Int.reduceToNat] at ho23; rw [<- Ny196.out] at ho23)); have HO198 := Aside0.mk (Kd.R_lower ho23 (below_size (bz1 HB.out GE189.out))); replace BK189 := Aside0.mk (blk_below (kz BK189.out) hb); replace HB := Aside0.mk (below_step (bz1 HB.out GE189.out) hb); clear hb ho23; obtain ⟨hcz24_0, hcz24_1, hcz24_2, hcz24_3, hcz24_4, hcz24_5, hcz24_6⟩ := cz7 BK189.out; obtain ⟨hfz24_0, hfz24_1, hfz24_2, hfz24_3, hfz24_4, hfz24_5, hfz24_6⟩ := fz7 BK189.out; obtain ⟨Ao25, co25, eo25⟩ := Kd.R_slice HO198.out; subst eo25; have p199 : 0 <= ((ji17) : Int) := oz; have q199 : (ji17) < (y196.length : Int) := oz; obtain ⟨ad199, e199, hx199_0⟩ := Kd.at_string (Kd.R_reads' HO198.out).2.2 (ji17) p199 q199; cases e199; replace p199 := eq_true p199; replace q199 := eq_true q199))
   go_ret
   exact ⟨by first | rfl | (simp [errW_none, errW_some] <;> rfl) | (simp only [<- hji17]; first | rfl | (simp [errW_none, errW_some] <;> rfl)) | (simp [*, errW_none, errW_some] <;> rfl), (bz1 HB.out GE189.out)⟩
  ·replace c16 := Bool.eq_false_iff.mpr c16
   subst c16
   have H1 := hq H
   clear H
   have H := H1
   clear H1
   obtain rfl := Option.some.inj H
   go_enter Tryd.func66, Tryd.ntmps66
   go_wp2_with (first | ((with_reducible refine gate_dst (N := 1) rfl ?_); refine box_event ?hg (N := 1) ?hd (cs := #[.int .i64 a0_0, .int .i64 a0_1, .int .i64 a0_2, .int .i64 a0_3, .int .i64 a0_4, .string a0_5, .string a0_6]) (t := 43) ?hr ?_; (case hd => rfl); (case hg => rfl); (case hr => exact vz); intro gb189 hg w26 hbox hb; have BK189 := Aside0.mk (hbox); have GW189 := Aside0.mk ((by rw [hg]; exact (below_size (bz0 HB.out)) : w.heap.size <= gb189)); have GE189 := Aside0.mk ((by rw [hg]; exact (below_size (bz0 HB.out)) : w.heap.size <= gb189)); replace HB := Aside0.mk (below_step (bz0 HB.out) hb); clear hb hbox hg; obtain ⟨hcz27_0, hcz27_1, hcz27_2, hcz27_3, hcz27_4, hcz27_5, hcz27_6⟩ := cz7 BK189.out; obtain ⟨hfz27_0, hfz27_1, hfz27_2, hfz27_3, hfz27_4, hfz27_5, hfz27_6⟩ := fz7 BK189.out) | ((with_reducible refine gate_callee (f := 39) rfl ?_); refine goesL_ (some 17) rfl rfl Tryd.func39 (by kernel_rfl) rfl #[.int .i64 a0_0, .int .i64 3, .int .i64 19] rfl lz ?_; (with_reducible refine (spec_l1In.calls a0_0 3 19 false _ A15.out).mono ?_); rintro e w' ⟨rfl, ⟨nd, rfl⟩⟩; refine ⟨_, rfl, ?_⟩))
   go_ret
   exact ⟨gz, (bz1 HB.out GE189.out)⟩
mutual
def spec_l5Show.l0 : Nat -> List (S43) -> ByteArray -> ByteArray -> List ByteArray -> List Int -> Int -> Option (ByteArray)
 | 0, _, _, _, _, _, _ => none
 | k + 1, x0, x8, x9, x10, x11, x12 => if x12 < (x8.size : Int) then (if 0 <= x12 then (if (bt x8 x12) = 110 then (if x9.size + 1 <= 9223372036854775807 then (if 0 < (x10.length : Int) then (if (x9 ++ (⟨#[32]⟩ : ByteArray)).size + (rdOf ByteArray.empty x10 0).size <= 9223372036854775807 then (if 1 <= (x10.length : Int) then (spec_l5Show.l0 k x0 x8 ((x9 ++ (⟨#[32]⟩ : ByteArray)) ++ (rdOf ByteArray.empty x10 0)) (x10.drop (1 : Int).toNat) x11 (wrap64 (x12 + 1))) else (none)) else (none)) else (none)) else (none)) else (if x9.size + 1 <= 9223372036854775807 then (if 0 < (x11.length : Int) then ((spec_l5Show.f k x0 (rd x11 0)).bind fun t219 => (if (x9 ++ (⟨#[32]⟩ : ByteArray)).size + t219.size <= 9223372036854775807 then (if 1 <= (x11.length : Int) then (spec_l5Show.l0 k x0 x8 ((x9 ++ (⟨#[32]⟩ : ByteArray)) ++ t219) x10 (x11.drop (1 : Int).toNat) (wrap64 (x12 + 1))) else (none)) else (none))) else (none)) else (none))) else (none)) else (if x9.size + 1 <= 9223372036854775807 then (some (x9 ++ (⟨#[41]⟩ : ByteArray))) else (none))
def spec_l5Show.f : Nat -> List (S43) -> Int -> Option (ByteArray)
 | 0, _, _ => none
 | k + 1, l0, a1 => if 0 <= a1 then (if a1 < (l0.length : Int) then (if ((rd_T43 l0 a1).f0) = 1 then (some ((rd_T43 l0 a1).f5)) else (if ((rd_T43 l0 a1).f0) = 2 then ((spec_Dec.f k ((rd_T43 l0 a1).f4)).bind fun t202 => (some t202)) else (if ((rd_T43 l0 a1).f0) = 12 then (some (⟨#[110, 105, 108]⟩ : ByteArray)) else ((spec_KeyOf.f ((rd_T43 l0 a1).f0) ((rd_T43 l0 a1).f1) ((rd_T43 l0 a1).f2) ((rd_T43 l0 a1).f3) ((rd_T43 l0 a1).f4) ((rd_T43 l0 a1).f5) ((rd_T43 l0 a1).f6)).bind fun t203 => ((spec_l4Form.f t203).bind fun bt204 => ((spec_KeyOf.f ((rd_T43 l0 a1).f0) ((rd_T43 l0 a1).f1) ((rd_T43 l0 a1).f2) ((rd_T43 l0 a1).f3) ((rd_T43 l0 a1).f4) ((rd_T43 l0 a1).f5) ((rd_T43 l0 a1).f6)).bind fun t207 => (if 1 + t207.size <= 9223372036854775807 then ((spec_Kids.f k ((rd_T43 l0 a1).f0) ((rd_T43 l0 a1).f1) ((rd_T43 l0 a1).f2) ((rd_T43 l0 a1).f3) ((rd_T43 l0 a1).f4) ((rd_T43 l0 a1).f5) ((rd_T43 l0 a1).f6)).bind fun t211 => (spec_l5Show.l0 k l0 bt204.2.2 ((⟨#[40]⟩ : ByteArray) ++ t207) (([(rd_T43 l0 a1).f5, (rd_T43 l0 a1).f6] : List ByteArray)) t211 0)) else (none)))))))) else (none)) else (none)
end
theorem spec_l5Show.mono_l : ∀ k, (∀ y0 y1, LeO (spec_l5Show.f k y0 y1) (spec_l5Show.f (k + 1) y0 y1)) /\ (∀ y0 y1 y2 y3 y4 y5, LeO (spec_l5Show.l0 k y0 y1 y2 y3 y4 y5) (spec_l5Show.l0 (k + 1) y0 y1 y2 y3 y4 y5))
 | 0 => ⟨fun _ _ r h => by simp [spec_l5Show.f] at h, fun _ _ _ _ _ _ r h => by simp [spec_l5Show.l0] at h⟩
 | k + 1 => by
  obtain ⟨ih0, ih1⟩ := spec_l5Show.mono_l k
  refine ⟨?_, ?_⟩
  ·intro y0 y1
   unfold spec_l5Show.f
   with_reducible repeat' first | exact ih0 _ _ | exact ih1 _ _ _ _ _ _ | exact spec_Dec.mono _ _ | exact spec_Kids.mono _ _ _ _ _ _ _ _ | exact lrz _ | exact lnz _ | refine liz ?_ ?_ | refine lbz ?_ fun _ => ?_
  ·intro y0 y1 y2 y3 y4 y5
   unfold spec_l5Show.l0
   with_reducible repeat' first | exact ih0 _ _ | exact ih1 _ _ _ _ _ _ | exact spec_Dec.mono _ _ | exact spec_Kids.mono _ _ _ _ _ _ _ _ | exact lrz _ | exact lnz _ | refine liz ?_ ?_ | refine lbz ?_ fun _ => ?_
theorem spec_l5Show.mono : ∀ a0 a1 k, LeO (spec_l5Show.f k a0 a1) (spec_l5Show.f (k + 1) a0 a1) := by
 intro a0 a1 k
 obtain ⟨ih0, ih1⟩ := spec_l5Show.mono_l k
 exact ih0 a0 a1
set_option maxHeartbeats 8000000 in
set_option maxRecDepth 100000 in
theorem spec_l5Show.calls (k : Nat) : ∀ (A0 : Option Addr) (c0 : Nat) (l0 : List (S43)) (a1 : Int) (r : ByteArray) (w : World) (hr0 : Kd.C k43 w A0 l0.length l0) (hc0 : l0.length <= c0) (h : spec_l5Show.f k l0 a1 = some r),
  Calls Tryd.prog 34 #[.slice A0 l0.length c0, .int .i64 a1] w fun e w' => e = .returned (.string r) /\ Below w.heap.size w w' := by
 induction k using Nat.strongRecOn with
 | _ k ih =>
 intro A0 c0 l0 a1 r w hr0 hc0 h
 cases k with
 | zero => exact absurd h (by simp [spec_l5Show.f])
 | succ k =>
 simp only [spec_l5Show.f] at h
 have hu43 := Tryd.underlying43
 have HR0 := Aside0.mk hr0
 have HC0 := Aside0.mk hc0
 clear hr0 hc0
 have HB := Aside0.mk (Below.refl w.heap.size w)
 have H : (if 0 <= a1 then (if a1 < (l0.length : Int) then (if ((rd_T43 l0 a1).f0) = 1 then (some ((rd_T43 l0 a1).f5)) else (if ((rd_T43 l0 a1).f0) = 2 then ((spec_Dec.f k ((rd_T43 l0 a1).f4)).bind fun t202 => (some t202)) else (if ((rd_T43 l0 a1).f0) = 12 then (some (⟨#[110, 105, 108]⟩ : ByteArray)) else ((spec_KeyOf.f ((rd_T43 l0 a1).f0) ((rd_T43 l0 a1).f1) ((rd_T43 l0 a1).f2) ((rd_T43 l0 a1).f3) ((rd_T43 l0 a1).f4) ((rd_T43 l0 a1).f5) ((rd_T43 l0 a1).f6)).bind fun t203 => ((spec_l4Form.f t203).bind fun bt204 => ((spec_KeyOf.f ((rd_T43 l0 a1).f0) ((rd_T43 l0 a1).f1) ((rd_T43 l0 a1).f2) ((rd_T43 l0 a1).f3) ((rd_T43 l0 a1).f4) ((rd_T43 l0 a1).f5) ((rd_T43 l0 a1).f6)).bind fun t207 => (if 1 + t207.size <= 9223372036854775807 then ((spec_Kids.f k ((rd_T43 l0 a1).f0) ((rd_T43 l0 a1).f1) ((rd_T43 l0 a1).f2) ((rd_T43 l0 a1).f3) ((rd_T43 l0 a1).f4) ((rd_T43 l0 a1).f5) ((rd_T43 l0 a1).f6)).bind fun t211 => (spec_l5Show.l0 k l0 bt204.2.2 ((⟨#[40]⟩ : ByteArray) ++ t207) (([(rd_T43 l0 a1).f5, (rd_T43 l0 a1).f6] : List ByteArray)) t211 0)) else (none)))))))) else (none)) else (none)) = some r := h
 clear h
 replace H := iz H
 obtain ⟨c3, H⟩ := H
 have c3b0 := decide_eq_true c3
 clear c3
 replace H := iz H
 obtain ⟨c4, H⟩ := H
 have c4b0 := decide_eq_true c4
 clear c4
 by_cases c5 : ((rd_T43 l0 a1).f0) = 1
 ·rw [if_pos c5] at H
  have c5b0 : (((rd_T43 l0 a1).f0) == 1) = true := beq_iff_eq.mpr c5
  have c5b1 : (((rd_T43 l0 a1).f0) != 1) = false := bne_eq_false_iff_eq.mpr c5
  clear c5
  obtain rfl := Option.some.inj H
  have p200 : 0 <= (a1 : Int) := oz
  have q200 : a1 < (l0.length : Int) := oz
  obtain ⟨ad200, e200, hx200_0, hx200_1, hx200_2, hx200_3, hx200_4, hx200_5, hx200_6⟩ := at_T43 HR0.out a1 p200 q200
  cases e200
  replace p200 := eq_true p200
  replace q200 := eq_true q200
  go_enter Tryd.func34, Tryd.ntmps34
  go_wp2_with (first | ((with_reducible refine gate_dst (N := 5) rfl ?_); refine box_event ?hg (N := 5) ?hd (cs := #[.int .i64 0, .int .i64 0, .int .i64 0, .int .i64 0, .int .i64 0, .string (⟨#[]⟩ : ByteArray), .string (⟨#[]⟩ : ByteArray)]) (t := 43) ?hr ?_; (case hd => rfl); (case hg => rfl); (case hr => exact vz); intro gb201 hg w6 hbox hb; have BK201 := Aside0.mk (hbox); have GW201 := Aside0.mk ((by rw [hg]; exact (below_size (bz0 HB.out)) : w.heap.size <= gb201)); have GE201 := Aside0.mk ((by rw [hg]; exact (below_size (bz0 HB.out)) : w.heap.size <= gb201)); replace HB := Aside0.mk (below_step (bz0 HB.out) hb); clear hb hbox hg; obtain ⟨hcz7_0, hcz7_1, hcz7_2, hcz7_3, hcz7_4, hcz7_5, hcz7_6⟩ := cz7 BK201.out; obtain ⟨hfz7_0, hfz7_1, hfz7_2, hfz7_3, hfz7_4, hfz7_5, hfz7_6⟩ := fz7 BK201.out))
  go_ret
  exact ⟨gz, (bz1 HB.out GE201.out)⟩
 ·rw [if_neg c5] at H
  have c5b0 : (((rd_T43 l0 a1).f0) == 1) = false := beq_eq_false_iff_ne.mpr c5
  have c5b1 : (((rd_T43 l0 a1).f0) != 1) = true := bne_iff_ne.mpr c5
  by_cases c8 : ((rd_T43 l0 a1).f0) = 2
  ·rw [if_pos c8] at H
   have c8b0 : (((rd_T43 l0 a1).f0) == 2) = true := beq_iff_eq.mpr c8
   have c8b1 : (((rd_T43 l0 a1).f0) != 2) = false := bne_eq_false_iff_eq.mpr c8
   clear c8
   replace H := bi H
   obtain ⟨t202, A90, H⟩ := H
   try dsimp only at H
   have A9 := Aside0.mk A90
   clear A90
   obtain rfl := Option.some.inj H
   have p200 : 0 <= (a1 : Int) := oz
   have q200 : a1 < (l0.length : Int) := oz
   obtain ⟨ad200, e200, hx200_0, hx200_1, hx200_2, hx200_3, hx200_4, hx200_5, hx200_6⟩ := at_T43 HR0.out a1 p200 q200
   cases e200
   replace p200 := eq_true p200
   replace q200 := eq_true q200
   go_enter Tryd.func34, Tryd.ntmps34
   go_wp2_with (first | ((with_reducible refine gate_dst (N := 5) rfl ?_); refine box_event ?hg (N := 5) ?hd (cs := #[.int .i64 0, .int .i64 0, .int .i64 0, .int .i64 0, .int .i64 0, .string (⟨#[]⟩ : ByteArray), .string (⟨#[]⟩ : ByteArray)]) (t := 43) ?hr ?_; (case hd => rfl); (case hg => rfl); (case hr => exact vz); intro gb201 hg w10 hbox hb; have BK201 := Aside0.mk (hbox); have GW201 := Aside0.mk ((by rw [hg]; exact (below_size (bz0 HB.out)) : w.heap.size <= gb201)); have GE201 := Aside0.mk ((by rw [hg]; exact (below_size (bz0 HB.out)) : w.heap.size <= gb201)); replace HB := Aside0.mk (below_step (bz0 HB.out) hb); clear hb hbox hg; obtain ⟨hcz11_0, hcz11_1, hcz11_2, hcz11_3, hcz11_4, hcz11_5, hcz11_6⟩ := cz7 BK201.out; obtain ⟨hfz11_0, hfz11_1, hfz11_2, hfz11_3, hfz11_4, hfz11_5, hfz11_6⟩ := fz7 BK201.out) | ((with_reducible refine gate_callee (f := 64) rfl ?_); refine goesL_ (some 27) rfl rfl Tryd.func64 (by kernel_rfl) rfl #[.int .i64 ((rd_T43 l0 a1).f4)] rfl lz ?_; (with_reducible refine (spec_Dec.calls k ((rd_T43 l0 a1).f4) t202 _ A9.out).mono ?_); rintro e w12 ⟨rfl, hb⟩; refine ⟨_, rfl, ?_⟩; replace BK201 := Aside0.mk (blk_below (g := gb201) (o := .cells #[.int .i64 ((rd_T43 l0 a1).f0), .int .i64 ((rd_T43 l0 a1).f1), .int .i64 ((rd_T43 l0 a1).f2), .int .i64 ((rd_T43 l0 a1).f3), .int .i64 ((rd_T43 l0 a1).f4), .string ((rd_T43 l0 a1).f5), .string ((rd_T43 l0 a1).f6)] 43 (0, 0)) (by refine kq ?_; refine blk_put (cs := #[.int .i64 ((rd_T43 l0 a1).f0), .int .i64 ((rd_T43 l0 a1).f1), .int .i64 ((rd_T43 l0 a1).f2), .int .i64 ((rd_T43 l0 a1).f3), .int .i64 ((rd_T43 l0 a1).f4), .string ((rd_T43 l0 a1).f5), .string (⟨#[]⟩ : ByteArray)]) ?_ 6 _ rfl; refine kq ?_; refine blk_put (cs := #[.int .i64 ((rd_T43 l0 a1).f0), .int .i64 ((rd_T43 l0 a1).f1), .int .i64 ((rd_T43 l0 a1).f2), .int .i64 ((rd_T43 l0 a1).f3), .int .i64 ((rd_T43 l0 a1).f4), .string (⟨#[]⟩ : ByteArray), .string (⟨#[]⟩ : ByteArray)]) ?_ 5 _ rfl; refine kq ?_; refine blk_put (cs := #[.int .i64 ((rd_T43 l0 a1).f0), .int .i64 ((rd_T43 l0 a1).f1), .int .i64 ((rd_T43 l0 a1).f2), .int .i64 ((rd_T43 l0 a1).f3), .int .i64 0, .string (⟨#[]⟩ : ByteArray), .string (⟨#[]⟩ : ByteArray)]) ?_ 4 _ rfl; refine kq ?_; refine blk_put (cs := #[.int .i64 ((rd_T43 l0 a1).f0), .int .i64 ((rd_T43 l0 a1).f1), .int .i64 ((rd_T43 l0 a1).f2), .int .i64 0, .int .i64 0, .string (⟨#[]⟩ : ByteArray), .string (⟨#[]⟩ : ByteArray)]) ?_ 3 _ rfl; refine kq ?_; refine blk_put (cs := #[.int .i64 ((rd_T43 l0 a1).f0), .int .i64 ((rd_T43 l0 a1).f1), .int .i64 0, .int .i64 0, .int .i64 0, .string (⟨#[]⟩ : ByteArray), .string (⟨#[]⟩ : ByteArray)]) ?_ 2 _ rfl; refine kq ?_; refine blk_put (cs := #[.int .i64 ((rd_T43 l0 a1).f0), .int .i64 0, .int .i64 0, .int .i64 0, .int .i64 0, .string (⟨#[]⟩ : ByteArray), .string (⟨#[]⟩ : ByteArray)]) ?_ 1 _ rfl; refine kq ?_; refine blk_put (cs := #[.int .i64 0, .int .i64 0, .int .i64 0, .int .i64 0, .int .i64 0, .string (⟨#[]⟩ : ByteArray), .string (⟨#[]⟩ : ByteArray)]) ?_ 0 _ rfl; refine kq ?_; exact BK201.out) hb); replace HB := Aside0.mk (below_step (bz1 HB.out GE201.out) hb); (try clear hb); (try clear hi)))
   go_ret
   exact ⟨gz, (bz1 HB.out GE201.out)⟩
  ·rw [if_neg c8] at H
   have c8b0 : (((rd_T43 l0 a1).f0) == 2) = false := beq_eq_false_iff_ne.mpr c8
   have c8b1 : (((rd_T43 l0 a1).f0) != 2) = true := bne_iff_ne.mpr c8
   by_cases c13 : ((rd_T43 l0 a1).f0) = 12
   ·rw [if_pos c13] at H
    have c13b0 : (((rd_T43 l0 a1).f0) == 12) = true := beq_iff_eq.mpr c13
    have c13b1 : (((rd_T43 l0 a1).f0) != 12) = false := bne_eq_false_iff_eq.mpr c13
    clear c13
    obtain rfl := Option.some.inj H
    have p200 : 0 <= (a1 : Int) := oz
    have q200 : a1 < (l0.length : Int) := oz
    obtain ⟨ad200, e200, hx200_0, hx200_1, hx200_2, hx200_3, hx200_4, hx200_5, hx200_6⟩ := at_T43 HR0.out a1 p200 q200
    cases e200
    replace p200 := eq_true p200
    replace q200 := eq_true q200
    go_enter Tryd.func34, Tryd.ntmps34
    go_wp2_with (first | ((with_reducible refine gate_dst (N := 5) rfl ?_); refine box_event ?hg (N := 5) ?hd (cs := #[.int .i64 0, .int .i64 0, .int .i64 0, .int .i64 0, .int .i64 0, .string (⟨#[]⟩ : ByteArray), .string (⟨#[]⟩ : ByteArray)]) (t := 43) ?hr ?_; (case hd => rfl); (case hg => rfl); (case hr => exact vz); intro gb201 hg w14 hbox hb; have BK201 := Aside0.mk (hbox); have GW201 := Aside0.mk ((by rw [hg]; exact (below_size (bz0 HB.out)) : w.heap.size <= gb201)); have GE201 := Aside0.mk ((by rw [hg]; exact (below_size (bz0 HB.out)) : w.heap.size <= gb201)); replace HB := Aside0.mk (below_step (bz0 HB.out) hb); clear hb hbox hg; obtain ⟨hcz15_0, hcz15_1, hcz15_2, hcz15_3, hcz15_4, hcz15_5, hcz15_6⟩ := cz7 BK201.out; obtain ⟨hfz15_0, hfz15_1, hfz15_2, hfz15_3, hfz15_4, hfz15_5, hfz15_6⟩ := fz7 BK201.out))
    go_ret
    exact ⟨gz, (bz1 HB.out GE201.out)⟩
   ·rw [if_neg c13] at H
    have c13b0 : (((rd_T43 l0 a1).f0) == 12) = false := beq_eq_false_iff_ne.mpr c13
    have c13b1 : (((rd_T43 l0 a1).f0) != 12) = true := bne_iff_ne.mpr c13
    replace H := bi H
    obtain ⟨t203, A160, H⟩ := H
    try dsimp only at H
    have A16 := Aside0.mk A160
    clear A160
    replace H := bi H
    obtain ⟨⟨t204, t205, t206⟩, A170, H⟩ := H
    try dsimp only at H
    have A17 := Aside0.mk A170
    clear A170
    replace H := bi H
    obtain ⟨t207, A180, H⟩ := H
    try dsimp only at H
    have A18 := Aside0.mk A180
    clear A180
    replace H := iz H
    obtain ⟨c19, H⟩ := H
    have c19b0 := eq_true c19
    have c19b1 : decide (1 + t207.size <= 9223372036854775807) = true := decide_eq_true c19
    try have c19b2 : (9223372036854775807 < 1 + t207.size) = False := eq_false (Nat.not_lt.2 c19)
    obtain ⟨y208, hy208⟩ : ∃ y_ : List ByteArray, y_ = (([(rd_T43 l0 a1).f5, (rd_T43 l0 a1).f6] : List ByteArray)) := ⟨_, rfl⟩
    replace H : ((spec_Kids.f k ((rd_T43 l0 a1).f0) ((rd_T43 l0 a1).f1) ((rd_T43 l0 a1).f2) ((rd_T43 l0 a1).f3) ((rd_T43 l0 a1).f4) ((rd_T43 l0 a1).f5) ((rd_T43 l0 a1).f6)).bind fun t211 => (spec_l5Show.l0 k l0 t206 ((⟨#[40]⟩ : ByteArray) ++ t207) y208 t211 0)) = some r := yz hy208 H
    have Ny208 := Aside0.mk hy208
    clear hy208
    replace H := bi H
    obtain ⟨t211, A200, H⟩ := H
    try dsimp only at H
    have A20 := Aside0.mk A200
    clear A200
    have H' := Aside0.mk H
    clear H
    have p200 : 0 <= (a1 : Int) := oz
    have q200 : a1 < (l0.length : Int) := oz
    obtain ⟨ad200, e200, hx200_0, hx200_1, hx200_2, hx200_3, hx200_4, hx200_5, hx200_6⟩ := at_T43 HR0.out a1 p200 q200
    cases e200
    replace p200 := eq_true p200
    replace q200 := eq_true q200
    go_enter Tryd.func34, Tryd.ntmps34
    go_wp2_with (first | ((with_reducible refine gate_dst (N := 5) rfl ?_); refine box_event ?hg (N := 5) ?hd (cs := #[.int .i64 0, .int .i64 0, .int .i64 0, .int .i64 0, .int .i64 0, .string (⟨#[]⟩ : ByteArray), .string (⟨#[]⟩ : ByteArray)]) (t := 43) ?hr ?_; (case hd => rfl); (case hg => rfl); (case hr => exact vz); intro gb201 hg w21 hbox hb; have BK201 := Aside0.mk (hbox); have GW201 := Aside0.mk ((by rw [hg]; exact (below_size (bz0 HB.out)) : w.heap.size <= gb201)); have GE201 := Aside0.mk ((by rw [hg]; exact (below_size (bz0 HB.out)) : w.heap.size <= gb201)); replace HB := Aside0.mk (below_step (bz0 HB.out) hb); clear hb hbox hg; obtain ⟨hcz22_0, hcz22_1, hcz22_2, hcz22_3, hcz22_4, hcz22_5, hcz22_6⟩ := cz7 BK201.out; obtain ⟨hfz22_0, hfz22_1, hfz22_2, hfz22_3, hfz22_4, hfz22_5, hfz22_6⟩ := fz7 BK201.out) | ((with_reducible refine gate_callee (f := 66) rfl ?_); refine goesL_ (some 32) rfl rfl Tryd.func66 (by kernel_rfl) rfl #[.agg #[.int .i64 ((rd_T43 l0 a1).f0), .int .i64 ((rd_T43 l0 a1).f1), .int .i64 ((rd_T43 l0 a1).f2), .int .i64 ((rd_T43 l0 a1).f3), .int .i64 ((rd_T43 l0 a1).f4), .string ((rd_T43 l0 a1).f5), .string ((rd_T43 l0 a1).f6)]] rfl lz ?_; (with_reducible refine (spec_KeyOf.calls ((rd_T43 l0 a1).f0) ((rd_T43 l0 a1).f1) ((rd_T43 l0 a1).f2) ((rd_T43 l0 a1).f3) ((rd_T43 l0 a1).f4) ((rd_T43 l0 a1).f5) ((rd_T43 l0 a1).f6) t203 _ A16.out).mono ?_); rintro e w23 ⟨rfl, hb⟩; refine ⟨_, rfl, ?_⟩; replace BK201 := Aside0.mk (blk_below (g := gb201) (o := .cells #[.int .i64 ((rd_T43 l0 a1).f0), .int .i64 ((rd_T43 l0 a1).f1), .int .i64 ((rd_T43 l0 a1).f2), .int .i64 ((rd_T43 l0 a1).f3), .int .i64 ((rd_T43 l0 a1).f4), .string ((rd_T43 l0 a1).f5), .string ((rd_T43 l0 a1).f6)] 43 (0, 0)) (by refine kq ?_; refine blk_put (cs := #[.int .i64 ((rd_T43 l0 a1).f0), .int .i64 ((rd_T43 l0 a1).f1), .int .i64 ((rd_T43 l0 a1).f2), .int .i64 ((rd_T43 l0 a1).f3), .int .i64 ((rd_T43 l0 a1).f4), .string ((rd_T43 l0 a1).f5), .string (⟨#[]⟩ : ByteArray)]) ?_ 6 _ rfl; refine kq ?_; refine blk_put (cs := #[.int .i64 ((rd_T43 l0 a1).f0), .int .i64 ((rd_T43 l0 a1).f1), .int .i64 ((rd_T43 l0 a1).f2), .int .i64 ((rd_T43 l0 a1).f3), .int .i64 ((rd_T43 l0 a1).f4), .string (⟨#[]⟩ : ByteArray), .string (⟨#[]⟩ : ByteArray)]) ?_ 5 _ rfl; refine kq ?_; refine blk_put (cs := #[.int .i64 ((rd_T43 l0 a1).f0), .int .i64 ((rd_T43 l0 a1).f1), .int .i64 ((rd_T43 l0 a1).f2), .int .i64 ((rd_T43 l0 a1).f3), .int .i64 0, .string (⟨#[]⟩ : ByteArray), .string (⟨#[]⟩ : ByteArray)]) ?_ 4 _ rfl; refine kq ?_; refine blk_put (cs := #[.int .i64 ((rd_T43 l0 a1).f0), .int .i64 ((rd_T43 l0 a1).f1), .int .i64 ((rd_T43 l0 a1).f2), .int .i64 0, .int .i64 0, .string (⟨#[]⟩ : ByteArray), .string (⟨#[]⟩ : ByteArray)]) ?_ 3 _ rfl; refine kq ?_; refine blk_put (cs := #[.int .i64 ((rd_T43 l0 a1).f0), .int .i64 ((rd_T43 l0 a1).f1), .int .i64 0, .int .i64 0, .int .i64 0, .string (⟨#[]⟩ : ByteArray), .string (⟨#[]⟩ : ByteArray)]) ?_ 2 _ rfl; refine kq ?_; refine blk_put (cs := #[.int .i64 ((rd_T43 l0 a1).f0), .int .i64 0, .int .i64 0, .int .i64 0, .int .i64 0, .string (⟨#[]⟩ : ByteArray), .string (⟨#[]⟩ : ByteArray)]) ?_ 1 _ rfl; refine kq ?_; refine blk_put (cs := #[.int .i64 0, .int .i64 0, .int .i64 0, .int .i64 0, .int .i64 0, .string (⟨#[]⟩ : ByteArray), .string (⟨#[]⟩ : ByteArray)]) ?_ 0 _ rfl; refine kq ?_; exact BK201.out) hb); replace HB := Aside0.mk (below_step (bz1 HB.out GE201.out) hb); (try clear hb); (try clear hk); (try clear hi)) | ((with_reducible refine gate_callee (f := 65) rfl ?_); refine goesL_ (some 33) rfl rfl Tryd.func65 (by kernel_rfl) rfl #[.string t203] rfl lz ?_; (with_reducible refine (spec_l4Form.calls t203 t204 t205 t206 _ A17.out).mono ?_); rintro e w' ⟨rfl, ⟨nd, rfl⟩⟩; refine ⟨_, rfl, ?_⟩; obtain ⟨hcz24_0, hcz24_1, hcz24_2, hcz24_3, hcz24_4, hcz24_5, hcz24_6⟩ := cz7 BK201.out; obtain ⟨hfz24_0, hfz24_1, hfz24_2, hfz24_3, hfz24_4, hfz24_5, hfz24_6⟩ := fz7 BK201.out) | ((with_reducible refine gate_callee (f := 66) rfl ?_); refine goesL_ (some 38) rfl rfl Tryd.func66 (by kernel_rfl) rfl #[.agg #[.int .i64 ((rd_T43 l0 a1).f0), .int .i64 ((rd_T43 l0 a1).f1), .int .i64 ((rd_T43 l0 a1).f2), .int .i64 ((rd_T43 l0 a1).f3), .int .i64 ((rd_T43 l0 a1).f4), .string ((rd_T43 l0 a1).f5), .string ((rd_T43 l0 a1).f6)]] rfl lz ?_; (with_reducible refine (spec_KeyOf.calls ((rd_T43 l0 a1).f0) ((rd_T43 l0 a1).f1) ((rd_T43 l0 a1).f2) ((rd_T43 l0 a1).f3) ((rd_T43 l0 a1).f4) ((rd_T43 l0 a1).f5) ((rd_T43 l0 a1).f6) t207 _ A18.out).mono ?_); rintro e w25 ⟨rfl, hb⟩; refine ⟨_, rfl, ?_⟩; replace BK201 := Aside0.mk (blk_below (kz BK201.out) hb); replace HB := Aside0.mk (below_step (bz1 HB.out GE201.out) hb); (try clear hb); (try clear hk); obtain ⟨hcz26_0, hcz26_1, hcz26_2, hcz26_3, hcz26_4, hcz26_5, hcz26_6⟩ := cz7 BK201.out; obtain ⟨hfz26_0, hfz26_1, hfz26_2, hfz26_3, hfz26_4, hfz26_5, hfz26_6⟩ := fz7 BK201.out) | ((with_reducible refine gate_dst (N := 44) rfl ?_); refine Kd.R_lit Kd.string _ 9 ?hg (N := 44) ?hd (xs := ([(rd_T43 l0 a1).f5, (rd_T43 l0 a1).f6] : List ByteArray)) (inner := [.string ((rd_T43 l0 a1).f5), .string ((rd_T43 l0 a1).f6)]) (ok := fun _ => True) (okp := fun _ => True) ?hr ?hp (fun _ hk => hk) trivial (Below.refl _ _) (Nat.le_refl _) (by simp) ?_; (case hd => rfl); (case hg => rfl); (case hr => exact vz); (case hp => exact (Reps.one (show Kd.M Kd.string _ _ _ ((rd_T43 l0 a1).f5) [.string ((rd_T43 l0 a1).f5)] from rfl) (Reps.one (show Kd.M Kd.string _ _ _ ((rd_T43 l0 a1).f6) [.string ((rd_T43 l0 a1).f6)] from rfl) (Reps.none _ _)))); intro v209 w27 ho28 hb hg_ hnew_; clear hg_ hnew_; (first | rw [<- Ny208.out] at ho28 | (simp only [Int.reduceToNat] at ho28; rw [<- Ny208.out] at ho28)); have HO210 := Aside0.mk (Kd.R_lower ho28 (below_size (bz1 HB.out GE201.out))); replace BK201 := Aside0.mk (blk_below (kz BK201.out) hb); replace HB := Aside0.mk (below_step (bz1 HB.out GE201.out) hb); clear hb ho28; obtain ⟨hcz29_0, hcz29_1, hcz29_2, hcz29_3, hcz29_4, hcz29_5, hcz29_6⟩ := cz7 BK201.out; obtain ⟨hfz29_0, hfz29_1, hfz29_2, hfz29_3, hfz29_4, hfz29_5, hfz29_6⟩ := fz7 BK201.out) | ((with_reducible refine gate_callee (f := 67) rfl ?_); refine goesL_ (some 46) rfl rfl Tryd.func67 (by kernel_rfl) rfl #[.agg #[.int .i64 ((rd_T43 l0 a1).f0), .int .i64 ((rd_T43 l0 a1).f1), .int .i64 ((rd_T43 l0 a1).f2), .int .i64 ((rd_T43 l0 a1).f3), .int .i64 ((rd_T43 l0 a1).f4), .string ((rd_T43 l0 a1).f5), .string ((rd_T43 l0 a1).f6)]] rfl lz ?_; (with_reducible refine (spec_Kids.calls k ((rd_T43 l0 a1).f0) ((rd_T43 l0 a1).f1) ((rd_T43 l0 a1).f2) ((rd_T43 l0 a1).f3) ((rd_T43 l0 a1).f4) ((rd_T43 l0 a1).f5) ((rd_T43 l0 a1).f6) t211 _ A20.out).mono ?_); rintro e w30 ⟨v212, rfl, ho0, hb⟩; refine ⟨_, rfl, ?_⟩; replace HO210 := qz HO210 hb; have HO213 := Aside0.mk (Kd.R_lower ho0 (below_size (bz1 HB.out GE201.out))); replace BK201 := Aside0.mk (blk_below (kz BK201.out) hb); replace HB := Aside0.mk (below_step (bz1 HB.out GE201.out) hb); (try clear hb); (try clear hk); (try clear ho0)))
    (try simp only [Act.put, sz1, sz2, sz3])
    go_loopg [9, 10, 11, 12] k (fun kq v9 v10 v11 v12 w' => ∃ (x9_1 : ByteArray) (x10_1 : List ByteArray) (x11_1 : List Int) (x12_1 : Int), v9 = .string x9_1 /\ v12 = .int .i64 x12_1 /\ Aside0 (spec_l5Show.l0 kq l0 t206 x9_1 x10_1 x11_1 x12_1 = some r) /\ Aside0 (kq <= k) /\ Aside0 (Kd.Q Kd.string 9 w' w.heap.size (fun _ => True) v10 x10_1) /\ Aside0 (Kd.Q (Kd.int .i64) 3 w' w.heap.size (fun _ => True) v11 x11_1) /\ Aside0 (w'.heap[gb201]? = some (.cells #[.int .i64 ((rd_T43 l0 a1).f0), .int .i64 ((rd_T43 l0 a1).f1), .int .i64 ((rd_T43 l0 a1).f2), .int .i64 ((rd_T43 l0 a1).f3), .int .i64 ((rd_T43 l0 a1).f4), .string ((rd_T43 l0 a1).f5), .string ((rd_T43 l0 a1).f6)] 43 (0, 0))) /\ Aside0 (Below w.heap.size w w'))
    case atStart => exact ⟨((⟨#[40]⟩ : ByteArray) ++ t207), (y208), (t211), (0), ez, ez, H', ⟨Nat.le_refl _⟩, ⟨Kd.Q_of_R (rz HO210.out)⟩, ⟨Kd.Q_of_R (rz HO213.out)⟩, ⟨by refine kq ?_; exact BK201.out⟩, ⟨(bz1 HB.out GE201.out)⟩⟩
    case round =>
     clear H'
     try clear c1
     try clear p2
     try clear q2
     try clear hx2
     try clear c3
     try clear c3b0
     try clear c4
     try clear c4b0
     try clear c5
     try clear c5b0
     try clear c5b1
     try clear c6
     try clear c8
     try clear c8b0
     try clear c8b1
     try clear c13
     try clear c13b0
     try clear c13b1
     try clear c19
     try clear c19b0
     try clear c19b1
     try clear c19b2
     try clear p20
     try clear q20
     try clear hx20
     try clear hcz11_0 hcz11_1 hcz11_2 hcz11_3 hcz11_4 hcz11_5 hcz11_6
     try clear hcz15_0 hcz15_1 hcz15_2 hcz15_3 hcz15_4 hcz15_5 hcz15_6
     try clear hcz22_0 hcz22_1 hcz22_2 hcz22_3 hcz22_4 hcz22_5 hcz22_6
     try clear hcz24_0 hcz24_1 hcz24_2 hcz24_3 hcz24_4 hcz24_5 hcz24_6
     try clear hcz26_0 hcz26_1 hcz26_2 hcz26_3 hcz26_4 hcz26_5 hcz26_6
     try clear hcz29_0 hcz29_1 hcz29_2 hcz29_3 hcz29_4 hcz29_5 hcz29_6
     try clear hcz7_0 hcz7_1 hcz7_2 hcz7_3 hcz7_4 hcz7_5 hcz7_6
     try clear hfz11_0 hfz11_1 hfz11_2 hfz11_3 hfz11_4 hfz11_5 hfz11_6
     try clear hfz15_0 hfz15_1 hfz15_2 hfz15_3 hfz15_4 hfz15_5 hfz15_6
     try clear hfz22_0 hfz22_1 hfz22_2 hfz22_3 hfz22_4 hfz22_5 hfz22_6
     try clear hfz24_0 hfz24_1 hfz24_2 hfz24_3 hfz24_4 hfz24_5 hfz24_6
     try clear hfz26_0 hfz26_1 hfz26_2 hfz26_3 hfz26_4 hfz26_5 hfz26_6
     try clear hfz29_0 hfz29_1 hfz29_2 hfz29_3 hfz29_4 hfz29_5 hfz29_6
     try clear hfz7_0 hfz7_1 hfz7_2 hfz7_3 hfz7_4 hfz7_5 hfz7_6
     try clear hx200_0
     try clear hx200_1
     try clear hx200_2
     try clear hx200_3
     try clear hx200_4
     try clear hx200_5
     try clear hx200_6
     try clear p200
     try clear q200
     obtain ⟨x9_1, x10_1, x11_1, x12_1, rfl, rfl, HA, HK1, HO_10, HO_11, BK201, HB⟩ := hrel
     cases gk with
     | zero => exact absurd HA.out (by simp [spec_l5Show.l0])
     | succ k1 =>
      have H := HA.out
      clear HA
      simp only [spec_l5Show.l0] at H
      by_cases c31 : x12_1 < (t206.size : Int)
      ·rw [if_pos c31] at H
       have c31b0 := decide_eq_true c31
       clear c31
       replace H := iz H
       obtain ⟨c32, H⟩ := H
       have c32b0 := decide_eq_true c32
       clear c32
       by_cases c34 : (bt t206 x12_1) = 110
       ·rw [if_pos c34] at H
        have c34b0 : ((bt t206 x12_1) == 110) = true := beq_iff_eq.mpr c34
        have c34b1 : ((bt t206 x12_1) != 110) = false := bne_eq_false_iff_eq.mpr c34
        clear c34
        replace H := iz H
        obtain ⟨c35, H⟩ := H
        have c35b0 := eq_true c35
        have c35b1 : decide (x9_1.size + 1 <= 9223372036854775807) = true := decide_eq_true c35
        try have c35b2 : (9223372036854775807 < x9_1.size + 1) = False := eq_false (Nat.not_lt.2 c35)
        replace H := iz H
        obtain ⟨c36, H⟩ := H
        have c36b0 := decide_eq_true c36
        have c36b1 : decide (0 < x10_1.length) = true := decide_eq_true (by omega)
        clear c36
        replace H := iz H
        obtain ⟨c37, H⟩ := H
        have c37b0 := eq_true c37
        have c37b1 : decide ((x9_1 ++ (⟨#[32]⟩ : ByteArray)).size + (rdOf ByteArray.empty x10_1 0).size <= 9223372036854775807) = true := decide_eq_true c37
        try have c37b2 : (9223372036854775807 < (x9_1 ++ (⟨#[32]⟩ : ByteArray)).size + (rdOf ByteArray.empty x10_1 0).size) = False := eq_false (Nat.not_lt.2 c37)
        (try (have c37b2z := c37b2; simp only [ByteArray.size_append, show (⟨#[32]⟩ : ByteArray).size = 1 from rfl] at c37b2z))
        replace H := iz H
        obtain ⟨c38, H⟩ := H
        have c38b0 := eq_true c38
        have c38b1 : decide (1 <= (x10_1.length : Int)) = true := decide_eq_true c38
        clear c38
        obtain ⟨y215, hy215⟩ : ∃ y_ : List ByteArray, y_ = (x10_1.drop (1 : Int).toNat) := ⟨_, rfl⟩
        replace H : (spec_l5Show.l0 k1 l0 t206 ((x9_1 ++ (⟨#[32]⟩ : ByteArray)) ++ (rdOf ByteArray.empty x10_1 0)) y215 x11_1 (wrap64 (x12_1 + 1))) = some r := yz hy215 H
        have Ny215 := Aside0.mk hy215
        clear hy215
        have H' := Aside0.mk H
        clear H
        have p33 : 0 <= (x12_1 : Int) := oz
        have q33 : x12_1 < (t206.size : Int) := oz
        have hx33 := bt_at t206 x12_1
        replace p33 := eq_true p33
        replace q33 := eq_true q33
        obtain ⟨Ao39, co39, eo39, _⟩ := Kd.Q_slice HO_10.out
        subst eo39
        have p214 : 0 <= (0 : Int) := (by omega)
        have q214 : 0 < (x10_1.length : Int) := oz
        obtain ⟨ad214, e214, hx214_0⟩ := Kd.at_string (Kd.Q_reads' HO_10.out).2.2 0 p214 q214
        cases e214
        have qi214 : (0 < x10_1.length) = True := eq_true (by omega)
        (try rw [show ((0 : Int)).toNat = 0 from rfl] at hx214_0)
        (try rw [Addr.add_zero'] at hx214_0)
        replace p214 := eq_true p214
        replace q214 := eq_true q214
        have q40 : (1 : Int) <= ((x10_1.length : Int) : Int) := oz
        obtain ⟨i040, hi040, _, hsz40, _⟩ := info_parts info9
        have hcut40 := cut_from (P := Tryd.prog) 32 9 .i64 Tryd.underlying32 hi040 1 hsz40 (some ad214) x10_1.length co39 1 (by omega) q40
        have hr40 := Kd.Q_drop (k := (1 : Int).toNat) HO_10.out (by omega)
        obtain ⟨A40, hA40⟩ : ∃ A1, A1 = (if co39 = (1 : Int).toNat then (some ad214) else ((some ad214) : Option Addr).map (·.add ((1 : Int).toNat * 1))) := ⟨_, rfl⟩
        obtain ⟨c40, hc40⟩ : ∃ c1, c1 = co39 - (1 : Int).toNat := ⟨_, rfl⟩
        have hy40 : y215.length = x10_1.length - (1 : Int).toNat := (by rw [Ny215.out, List.length_drop])
        rw [<- Ny215.out] at hr40
        rw [<- hy40, <- hA40, <- hc40] at hcut40
        replace hr40 : Kd.Q Kd.string 9 wr w.heap.size (fun _ => True) (.slice A40 y215.length c40) y215 := (by rw [hA40, hc40, hy40]; exact hr40)
        have HE40 : Aside0 ((Value.slice A40 y215.length c40).ownBlock = (.slice (some ad214) x10_1.length co39 : Value).ownBlock) := ⟨by rw [hA40]; split <;> (cases ((some ad214) : Option Addr) <;> rfl)⟩
        clear hy40 hi040 hsz40 HO_10 hA40 hc40
        have HO217 := Aside0.mk hr40
        clear hr40
        replace q40 := eq_true q40
        go_wp2
        go_roundg k1
        case measure => have := HK1.out; omega
        case rel => exact ⟨((x9_1 ++ (⟨#[32]⟩ : ByteArray)) ++ (rdOf ByteArray.empty x10_1 0)), (y215), (x11_1), (wrap64 (x12_1 + 1)), ez, ez, H', ⟨by have := HK1.out; omega⟩, ⟨by (with_reducible repeat (first | apply Kd.Q_alloc | apply Kd.Q_drewN | apply Kd.Q_drew)); exact HO217.out⟩, ⟨by (with_reducible repeat (first | apply Kd.Q_alloc | apply Kd.Q_drewN | apply Kd.Q_drew)); exact HO_11.out⟩, ⟨by refine kq ?_; exact BK201.out⟩, ⟨(bz1 HB.out GE201.out)⟩⟩
       ·rw [if_neg c34] at H
        have c34b0 : ((bt t206 x12_1) == 110) = false := beq_eq_false_iff_ne.mpr c34
        have c34b1 : ((bt t206 x12_1) != 110) = true := bne_iff_ne.mpr c34
        replace H := iz H
        obtain ⟨c41, H⟩ := H
        have c41b0 := eq_true c41
        have c41b1 : decide (x9_1.size + 1 <= 9223372036854775807) = true := decide_eq_true c41
        try have c41b2 : (9223372036854775807 < x9_1.size + 1) = False := eq_false (Nat.not_lt.2 c41)
        replace H := iz H
        obtain ⟨c42, H⟩ := H
        have c42b0 := decide_eq_true c42
        have c42b1 : decide (0 < x11_1.length) = true := decide_eq_true (by omega)
        clear c42
        replace H := bi H
        obtain ⟨t219, A430, H⟩ := H
        try dsimp only at H
        have A43 := Aside0.mk A430
        clear A430
        replace H := iz H
        obtain ⟨c44, H⟩ := H
        have c44b0 := eq_true c44
        have c44b1 : decide ((x9_1 ++ (⟨#[32]⟩ : ByteArray)).size + t219.size <= 9223372036854775807) = true := decide_eq_true c44
        try have c44b2 : (9223372036854775807 < (x9_1 ++ (⟨#[32]⟩ : ByteArray)).size + t219.size) = False := eq_false (Nat.not_lt.2 c44)
        (try (have c44b2z := c44b2; simp only [ByteArray.size_append, show (⟨#[32]⟩ : ByteArray).size = 1 from rfl] at c44b2z))
        replace H := iz H
        obtain ⟨c45, H⟩ := H
        have c45b0 := eq_true c45
        have c45b1 : decide (1 <= (x11_1.length : Int)) = true := decide_eq_true c45
        clear c45
        obtain ⟨y220, hy220⟩ : ∃ y_ : List Int, y_ = (x11_1.drop (1 : Int).toNat) := ⟨_, rfl⟩
        replace H : (spec_l5Show.l0 k1 l0 t206 ((x9_1 ++ (⟨#[32]⟩ : ByteArray)) ++ t219) x10_1 y220 (wrap64 (x12_1 + 1))) = some r := yz hy220 H
        have Ny220 := Aside0.mk hy220
        clear hy220
        have H' := Aside0.mk H
        clear H
        have p33 : 0 <= (x12_1 : Int) := oz
        have q33 : x12_1 < (t206.size : Int) := oz
        have hx33 := bt_at t206 x12_1
        replace p33 := eq_true p33
        replace q33 := eq_true q33
        obtain ⟨Ao46, co46, eo46, _⟩ := Kd.Q_slice HO_11.out
        subst eo46
        have p218 : 0 <= (0 : Int) := (by omega)
        have q218 : 0 < (x11_1.length : Int) := oz
        obtain ⟨ad218, e218, hx218_0⟩ := Kd.at_int (Kd.Q_reads' HO_11.out).2.2 0 p218 q218
        cases e218
        have qi218 : (0 < x11_1.length) = True := eq_true (by omega)
        (try rw [show ((0 : Int)).toNat = 0 from rfl] at hx218_0)
        (try rw [Addr.add_zero'] at hx218_0)
        replace p218 := eq_true p218
        replace q218 := eq_true q218
        go_wp2_with (first | ((with_reducible refine gate_callee (f := 34) rfl ?_); refine goesL_ (some 71) rfl rfl Tryd.func34 (by kernel_rfl) rfl #[.slice (some ad200) l0.length c0, .int .i64 (rd x11_1 0)] rfl lz ?_; (with_reducible refine (ih k1 (by have := HK1.out; omega) _ _ l0 (rd x11_1 0) t219 _ ?side1 ?side2 A43.out).mono ?_); (case side1 => exact cz (Kd.C_below HR0.out HB.out)); (case side2 => exact HC0.out); rintro e w47 ⟨rfl, hb⟩; refine ⟨_, rfl, ?_⟩; replace HO_10 := Aside0.mk (Kd.Q_below (by (with_reducible repeat (first | apply Kd.Q_alloc | apply Kd.Q_drewN | apply Kd.Q_drew)); exact HO_10.out) hb); replace HO_11 := Aside0.mk (Kd.Q_below (by (with_reducible repeat (first | apply Kd.Q_alloc | apply Kd.Q_drewN | apply Kd.Q_drew)); exact HO_11.out) hb); replace BK201 := Aside0.mk (blk_below (kz BK201.out) hb); replace HB := Aside0.mk (below_step (bz1 HB.out GE201.out) hb); (try clear hb); have q48 : (1 : Int) <= ((x11_1.length : Int) : Int) := oz; obtain ⟨i048, hi048, _, hsz48, _⟩ := info_parts info3; have hcut48 := cut_from (P := Tryd.prog) 47 3 .i64 Tryd.underlying47 hi048 1 hsz48 (some ad218) x11_1.length co46 1 (by omega) q48; have hr48 := Kd.Q_drop (k := (1 : Int).toNat) HO_11.out (by omega); obtain ⟨A48, hA48⟩ : ∃ A1, A1 = (if co46 = (1 : Int).toNat then (some ad218) else ((some ad218) : Option Addr).map (·.add ((1 : Int).toNat * 1))) := ⟨_, rfl⟩; obtain ⟨c48, hc48⟩ : ∃ c1, c1 = co46 - (1 : Int).toNat := ⟨_, rfl⟩; have hy48 : y220.length = x11_1.length - (1 : Int).toNat := (by rw [Ny220.out, List.length_drop]); rw [<- Ny220.out] at hr48; rw [<- hy48, <- hA48, <- hc48] at hcut48; replace hr48 : Kd.Q (Kd.int .i64) 3 w47 w.heap.size (fun _ => True) (.slice A48 y220.length c48) y220 := (by rw [hA48, hc48, hy48]; exact hr48); have HE48 : Aside0 ((Value.slice A48 y220.length c48).ownBlock = (.slice (some ad218) x11_1.length co46 : Value).ownBlock) := ⟨by rw [hA48]; split <;> (cases ((some ad218) : Option Addr) <;> rfl)⟩; clear hy48 hi048 hsz48 HO_11 hA48 hc48; have HO222 := Aside0.mk hr48; clear hr48; replace q48 := eq_true q48))
        go_roundg k1
        case measure => have := HK1.out; omega
        case rel => exact ⟨((x9_1 ++ (⟨#[32]⟩ : ByteArray)) ++ t219), (x10_1), (y220), (wrap64 (x12_1 + 1)), ez, ez, H', ⟨by have := HK1.out; omega⟩, ⟨by (with_reducible repeat (first | apply Kd.Q_alloc | apply Kd.Q_drewN | apply Kd.Q_drew)); exact HO_10.out⟩, ⟨by (with_reducible repeat (first | apply Kd.Q_alloc | apply Kd.Q_drewN | apply Kd.Q_drew)); exact HO222.out⟩, ⟨by refine kq ?_; exact BK201.out⟩, ⟨(bz1 HB.out GE201.out)⟩⟩
      ·rw [if_neg c31] at H
       have c31b0 := decide_eq_false c31
       clear c31
       replace H := iz H
       obtain ⟨c49, H⟩ := H
       have c49b0 := eq_true c49
       have c49b1 : decide (x9_1.size + 1 <= 9223372036854775807) = true := decide_eq_true c49
       try have c49b2 : (9223372036854775807 < x9_1.size + 1) = False := eq_false (Nat.not_lt.2 c49)
       obtain rfl := Option.some.inj H
       go_wp2
       go_ret
       exact ⟨gz, (bz1 HB.out GE201.out)⟩
def spec_PrintPart.f (k : Nat) (l0 : List (S43)) (a1 : Int) : Option (ByteArray) := (spec_NodesOk.f k l0).bind fun t223 => (if t223 = true then ((spec_l1In.f a1 0 (wrap64 ((l0.length : Int) - 1))).bind fun t224 => (if t224 = true then ((spec_l5Show.f k l0 a1).bind fun t225 => (some t225)) else (some (⟨#[]⟩ : ByteArray)))) else (some (⟨#[]⟩ : ByteArray)))
theorem spec_PrintPart.mono : ∀ a0 a1 k, LeO (spec_PrintPart.f k a0 a1) (spec_PrintPart.f (k + 1) a0 a1) := by
 intro a0 a1 k
 unfold spec_PrintPart.f
 with_reducible repeat' first | exact spec_NodesOk.mono _ _ | exact spec_l5Show.mono _ _ _ | exact lrz _ | exact lnz _ | refine liz ?_ ?_ | refine lbz ?_ fun _ => ?_
set_option maxHeartbeats 8000000 in
set_option maxRecDepth 100000 in
theorem spec_PrintPart.calls (k : Nat) (A0 : Option Addr) (c0 : Nat) (l0 : List (S43)) (a1 : Int) (r : ByteArray) (w : World) (hr0 : Kd.C k43 w A0 l0.length l0) (hc0 : l0.length <= c0) (h : spec_PrintPart.f k l0 a1 = some r) :
  Calls Tryd.prog 15 #[.slice A0 l0.length c0, .int .i64 a1] w fun e w' => e = .returned (.string r) /\ Below w.heap.size w w' := by
 have HR0 := Aside0.mk hr0
 have HC0 := Aside0.mk hc0
 clear hr0 hc0
 have HB := Aside0.mk (Below.refl w.heap.size w)
 have H : ((spec_NodesOk.f k l0).bind fun t223 => (if t223 = true then ((spec_l1In.f a1 0 (wrap64 ((l0.length : Int) - 1))).bind fun t224 => (if t224 = true then ((spec_l5Show.f k l0 a1).bind fun t225 => (some t225)) else (some (⟨#[]⟩ : ByteArray)))) else (some (⟨#[]⟩ : ByteArray)))) = some r := h
 clear h
 replace H := bi H
 obtain ⟨t223, A30, H⟩ := H
 try dsimp only at H
 have A3 := Aside0.mk A30
 clear A30
 by_cases c4 : t223 = true
 ·subst c4
  have H1 := hp H
  clear H
  have H := H1
  clear H1
  replace H := bi H
  obtain ⟨t224, A50, H⟩ := H
  try dsimp only at H
  have A5 := Aside0.mk A50
  clear A50
  by_cases c6 : t224 = true
  ·subst c6
   have H1 := hp H
   clear H
   have H := H1
   clear H1
   replace H := bi H
   obtain ⟨t225, A70, H⟩ := H
   try dsimp only at H
   have A7 := Aside0.mk A70
   clear A70
   obtain rfl := Option.some.inj H
   go_enter Tryd.func15, Tryd.ntmps15
   go_wp2_with (first | ((with_reducible refine gate_callee (f := 33) rfl ?_); refine goesL_ (some 6) rfl rfl Tryd.func33 (by kernel_rfl) rfl #[.slice A0 l0.length c0] rfl lz ?_; (with_reducible refine (spec_NodesOk.calls k _ _ l0 true _ ?side1 ?side2 A3.out).mono ?_); (case side1 => repeat (first | exact HR0.out | (with_reducible refine Kd.C_alloc ?_ _) | (with_reducible refine Kd.C_drewN ?_ _) | (with_reducible refine Kd.C_drew ?_))); (case side2 => exact HC0.out); rintro e w8 ⟨rfl, hb⟩; refine ⟨_, rfl, ?_⟩; replace HB := Aside0.mk (below_step (bz0 HB.out) hb); (try clear hb); (try clear hi)) | (go_at_call 39; (with_reducible refine (spec_l1In.calls a1 0 (wrap64 ((l0.length : Int) - 1)) true _ A5.out).mono ?_); rintro e w' ⟨rfl, ⟨nd, rfl⟩⟩) | ((with_reducible refine gate_callee (f := 34) rfl ?_); refine goesL_ (some 18) rfl rfl Tryd.func34 (by kernel_rfl) rfl #[.slice A0 l0.length c0, .int .i64 a1] rfl lz ?_; (with_reducible refine (spec_l5Show.calls k _ _ l0 a1 t225 _ ?side1 ?side2 A7.out).mono ?_); (case side1 => exact cz (Kd.C_below HR0.out (bz0 HB.out))); (case side2 => exact HC0.out); rintro e w9 ⟨rfl, hb⟩; refine ⟨_, rfl, ?_⟩; replace HB := Aside0.mk (below_step (bz0 HB.out) hb); (try clear hb); (try clear hi)))
   go_ret
   exact ⟨gz, (bz0 HB.out)⟩
  ·replace c6 := Bool.eq_false_iff.mpr c6
   subst c6
   have H1 := hq H
   clear H
   have H := H1
   clear H1
   obtain rfl := Option.some.inj H
   go_enter Tryd.func15, Tryd.ntmps15
   go_wp2_with (first | ((with_reducible refine gate_callee (f := 33) rfl ?_); refine goesL_ (some 6) rfl rfl Tryd.func33 (by kernel_rfl) rfl #[.slice A0 l0.length c0] rfl lz ?_; (with_reducible refine (spec_NodesOk.calls k _ _ l0 true _ ?side1 ?side2 A3.out).mono ?_); (case side1 => repeat (first | exact HR0.out | (with_reducible refine Kd.C_alloc ?_ _) | (with_reducible refine Kd.C_drewN ?_ _) | (with_reducible refine Kd.C_drew ?_))); (case side2 => exact HC0.out); rintro e w10 ⟨rfl, hb⟩; refine ⟨_, rfl, ?_⟩; replace HB := Aside0.mk (below_step (bz0 HB.out) hb); (try clear hb); (try clear hi)) | (go_at_call 39; (with_reducible refine (spec_l1In.calls a1 0 (wrap64 ((l0.length : Int) - 1)) false _ A5.out).mono ?_); rintro e w' ⟨rfl, ⟨nd, rfl⟩⟩))
   go_ret
   exact ⟨gz, (bz0 HB.out)⟩
 ·replace c4 := Bool.eq_false_iff.mpr c4
  subst c4
  have H1 := hq H
  clear H
  have H := H1
  clear H1
  obtain rfl := Option.some.inj H
  go_enter Tryd.func15, Tryd.ntmps15
  go_wp2_with (first | ((with_reducible refine gate_callee (f := 33) rfl ?_); refine goesL_ (some 6) rfl rfl Tryd.func33 (by kernel_rfl) rfl #[.slice A0 l0.length c0] rfl lz ?_; (with_reducible refine (spec_NodesOk.calls k _ _ l0 false _ ?side1 ?side2 A3.out).mono ?_); (case side1 => repeat (first | exact HR0.out | (with_reducible refine Kd.C_alloc ?_ _) | (with_reducible refine Kd.C_drewN ?_ _) | (with_reducible refine Kd.C_drew ?_))); (case side2 => exact HC0.out); rintro e w11 ⟨rfl, hb⟩; refine ⟨_, rfl, ?_⟩; replace HB := Aside0.mk (below_step (bz0 HB.out) hb); (try clear hb); (try clear hi)))
  go_ret
  exact ⟨gz, (bz0 HB.out)⟩
end Go.Proofs.YtmilegjmiiccdaaDoor.PFnExactPrintPart
