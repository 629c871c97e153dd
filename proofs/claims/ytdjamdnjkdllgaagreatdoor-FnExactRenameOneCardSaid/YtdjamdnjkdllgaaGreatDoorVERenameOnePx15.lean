/- PFnExactRenameOnex15, of the words and walks that the law FnExactRenameOne needs; made by this session's program out of printed texts. -/

import Derived.Test.YtdjamdnjkdllgaaGreatDoorVERenameOnePx0
import Derived.Test.YtdjamdnjkdllgaaGreatDoorVERenameOnePx14
namespace Go.Proofs.YtdjamdnjkdllgaaGreatDoor.PFnExactRenameOne
open Go.RowKit Go.Proofs.YtdjamdnjkdllgaaGreatDoorW.PrintWords Go.Proofs.YtdjamdnjkdllgaaGreatDoorW.PrintLast Go.Proofs.YtdjamdnjkdllgaaGreatDoorW.PrintMore
attribute [local go_sem] max2_int min2_int max_two min_two max_three min_three max_four min_four
set_option linter.unusedVariables false
set_option linter.unusedSimpArgs false
def laws_toNodeS.l0 : Nat -> List (S51) -> List (S45) -> Int -> Option ((List (S45)))
 | 0, _, _, _ => none
 | k + 1, x0, x3, x4 => if x4 < (x0.length : Int) then (if 0 <= x4 then ((laws_toNode.f ((rd_T51 x0 x4).f0) ((rd_T51 x0 x4).f1) ((rd_T51 x0 x4).f2) ((rd_T51 x0 x4).f3) ((rd_T51 x0 x4).f4) ((rd_T51 x0 x4).f5) ((rd_T51 x0 x4).f6)).bind fun bt390 => (if x4 < (x3.length : Int) then (laws_toNodeS.l0 k x0 (x3.set (x4 : Int).toNat (⟨bt390.1, bt390.2.1, bt390.2.2.1, bt390.2.2.2.1, bt390.2.2.2.2.1, bt390.2.2.2.2.2.1, bt390.2.2.2.2.2.2⟩ : S45)) (wrap64 (x4 + 1))) else (none))) else (none)) else (some x3)
def laws_toNodeS.f (k : Nat) (l0 : List (S51)) : Option ((List (S45))) := if 0 <= (l0.length : Int) then (if ((l0.length : Int) : Int).toNat <= 3909374676536 then (laws_toNodeS.l0 k l0 (List.replicate ((l0.length : Int) : Int).toNat z45) 0) else (none)) else (none)
theorem laws_toNodeS.mono_l : ∀ k, (∀ y0 y1 y2, LeO (laws_toNodeS.l0 k y0 y1 y2) (laws_toNodeS.l0 (k + 1) y0 y1 y2))
 | 0 => fun _ _ _ r h => by simp [laws_toNodeS.l0] at h
 | k + 1 => by
  have ih0 := laws_toNodeS.mono_l k
  ·intro y0 y1 y2
   unfold laws_toNodeS.l0
   with_reducible repeat' first | exact ih0 _ _ _ | exact lrz _ | exact lnz _ | refine liz ?_ ?_ | refine lbz ?_ fun _ => ?_
theorem laws_toNodeS.mono : ∀ a0 k, LeO (laws_toNodeS.f k a0) (laws_toNodeS.f (k + 1) a0) := by
 intro a0 k
 have ih0 := laws_toNodeS.mono_l k
 unfold laws_toNodeS.f
 with_reducible repeat' first | exact ih0 _ _ _ | exact lrz _ | exact lnz _ | refine liz ?_ ?_ | refine lbz ?_ fun _ => ?_
set_option maxHeartbeats 8000000 in
set_option maxRecDepth 100000 in
theorem laws_toNodeS.calls (k : Nat) (A0 : Option Addr) (c0 : Nat) (l0 : List (S51)) (r : List (S45)) (w : World) (hr0 : Kd.C k51 w A0 l0.length l0) (hc0 : l0.length <= c0) (h : laws_toNodeS.f k l0 = some r) :
  Calls Tryz.prog 7 #[.slice A0 l0.length c0] w fun e w' => ∃ v0_ : Value, e = .returned (v0_) /\ Kd.R k45 45 w' w.heap.size (fun _ => True) v0_ r /\ Below w.heap.size w w' := by
 have hu51 := Tryz.underlying51
 have hu45 := Tryz.underlying45
 have HR0 := am hr0
 have HC0 := am hc0
 clear hr0 hc0
 have HB := am (Below.refl w.heap.size w)
 have H : (if 0 <= (l0.length : Int) then (if ((l0.length : Int) : Int).toNat <= 3909374676536 then (laws_toNodeS.l0 k l0 (List.replicate ((l0.length : Int) : Int).toNat z45) 0) else (none)) else (none)) = some r := h
 clear h
 replace H := iz H
 obtain ⟨c2, H⟩ := H
 have c2b0 := eq_true c2
 have c2b1 : decide (0 <= (l0.length : Int)) = true := decide_eq_true c2
 clear c2
 replace H := iz H
 obtain ⟨c3, H⟩ := H
 have c3b0 := eq_true c3
 have c3b1 : decide (((l0.length : Int) : Int).toNat <= 3909374676536) = true := decide_eq_true c3
 clear c3
 obtain ⟨y386, hy386⟩ : ∃ y_ : List (S45), y_ = (List.replicate ((l0.length : Int) : Int).toNat z45) := ⟨_, rfl⟩
 replace H : (laws_toNodeS.l0 k l0 y386 0) = some r := yz hy386 H
 have Ny386 := am hy386
 clear hy386
 have H' := am H
 clear H
 go_enter Tryz.func7, Tryz.ntmps7
 go_wp2_with (first | ((with_reducible refine gate_dst (N := 7) rfl ?_); refine Kd.R_make k45 _ 45 rfl (N := 7) rfl 26 _ _ rfl (l0.length : Int) rfl rfl Tryz.underlying26 (.agg #[(.int .i64 0), (.int .i64 0), (.int .i64 0), (.int .i64 0), (.int .i64 0), (.string ⟨#[]⟩), (.string ⟨#[]⟩)]) 72 info45 rfl (by decide) (by omega) z45 (ok := fun _ => True) (okp := fun _ => True) (k45_mkM _ _ _ z45 ) (fun _ hk => hk) trivial (of_decide_eq_true az) (Nat.le_trans (Nat.mul_le_mul_right _ (of_decide_eq_true az : (l0.length : Int).toNat <= 3909374676536)) (by omega)) (Below.refl _ _) (Nat.le_refl _) ?_; intro v387 w4 ho5 hb hg_ hnew_; clear hg_ hnew_; (first | rw [<- Ny386.out] at ho5 | (simp only [Int.reduceToNat] at ho5; rw [<- Ny386.out] at ho5)); have HO388 := am (Kd.R_lower ho5 (below_size (bz0 HB.out))); replace HB := bs (bz0 HB.out) hb; clear hb ho5))
 (try simp only [Act.put, sz1, sz2, sz3])
 go_loopg [4] k (fun kq v4 w' => ∃ (x3_1 : List (S45)) (x4_1 : Int), v4 = .int .i64 x4_1 /\ Aside0 (laws_toNodeS.l0 kq l0 x3_1 x4_1 = some r) /\ Aside0 (kq <= k) /\ Aside0 (Kd.R k45 45 w' w.heap.size (fun _ => True) v387 x3_1) /\ Aside0 (Below w.heap.size w w'))
 case atStart => exact ⟨(y386), (0), ez, H', ⟨Nat.le_refl _⟩, ⟨by refine rq ?_; exact HO388.out⟩, ⟨(bz0 HB.out)⟩⟩
 case round =>
  clear H'
  try clear c2
  try clear c2b0
  try clear c2b1
  try clear p2
  try clear c3
  try clear c3b0
  try clear c3b1
  obtain ⟨x3_1, x4_1, rfl, HA, HK1, HO_3, HB⟩ := hrel
  cases gk with
  | zero => exact absurd HA.out (by simp [laws_toNodeS.l0])
  | succ k1 =>
   have H := HA.out
   clear HA
   simp only [laws_toNodeS.l0] at H
   by_cases c6 : x4_1 < (l0.length : Int)
   ·rw [if_pos c6] at H
    have c6b0 := decide_eq_true c6
    clear c6
    replace H := iz H
    obtain ⟨c7, H⟩ := H
    have c7b0 := decide_eq_true c7
    clear c7
    replace H := bi H
    obtain ⟨⟨t390, t391, t392, t393, t394, t395, t396⟩, A80, H⟩ := H
    try dsimp only at H
    have A8 := am A80
    clear A80
    replace H := iz H
    obtain ⟨c9, H⟩ := H
    have c9b0 := decide_eq_true c9
    clear c9
    obtain ⟨y397, hy397⟩ : ∃ y_ : List (S45), y_ = (x3_1.set (x4_1 : Int).toNat (⟨t390, t391, t392, t393, t394, t395, t396⟩ : S45)) := ⟨_, rfl⟩
    replace H : (laws_toNodeS.l0 k1 l0 y397 (wrap64 (x4_1 + 1))) = some r := yz hy397 H
    have Ny397 := am hy397
    clear hy397
    have H' := am H
    clear H
    have p389 : 0 <= (x4_1 : Int) := oz
    have q389 : x4_1 < (l0.length : Int) := oz
    obtain ⟨ad389, e389, hx389_0, hx389_1, hx389_2, hx389_3, hx389_4, hx389_5, hx389_6⟩ := at_T51 (Kd.C_below HR0.out HB.out) x4_1 p389 q389
    cases e389
    replace p389 := eq_true p389
    replace q389 := eq_true q389
    go_wp2_with (first | ((with_reducible refine gate_callee (f := 29) rfl ?_); refine goesL_ (some 20) rfl rfl Tryz.func29 kr rfl #[.agg #[.int .i64 ((rd_T51 l0 x4_1).f0), .int .i64 ((rd_T51 l0 x4_1).f1), .int .i64 ((rd_T51 l0 x4_1).f2), .int .i64 ((rd_T51 l0 x4_1).f3), .int .i64 ((rd_T51 l0 x4_1).f4), .string ((rd_T51 l0 x4_1).f5), .string ((rd_T51 l0 x4_1).f6)]] rfl lz ?_; (with_reducible refine (laws_toNode.calls ((rd_T51 l0 x4_1).f0) ((rd_T51 l0 x4_1).f1) ((rd_T51 l0 x4_1).f2) ((rd_T51 l0 x4_1).f3) ((rd_T51 l0 x4_1).f4) ((rd_T51 l0 x4_1).f5) ((rd_T51 l0 x4_1).f6) t390 t391 t392 t393 t394 t395 t396 _ A8.out).mono ?_); rintro e w11 ⟨rfl, hb⟩; refine ⟨_, rfl, ?_⟩; replace HO_3 := qz HO_3 hb; replace HB := bs (bz0 HB.out) hb; (try clear hb); (try clear hk); have p10 : 0 <= (x4_1 : Int) := oz; have q10 : (x4_1 : Int) < ((x3_1.length : Int) : Int) := oz; obtain ⟨go10, co10, eo10, gb10, gl10, cl10, HG10⟩ := Kd.R_form HO_3.out (by omega); (first | cases eo10 | (injection eo10 with ea_ en_ ec_; (first | subst ea_ | (injection ea_ with ea_; subst ea_)); subst ec_; clear en_)); have GB10 := am gb10; have GG10 := am HG10; clear gb10 gl10 HG10; obtain ⟨ce10, hcl10, hM10, hcc10, hfr10⟩ := Kd.R_elem HO_3.out z45 (x4_1 : Int) p10 q10; obtain rfl := k45_openM hM10; have hx10_0 : w11.cell? ⟨go10, (x4_1 : Int).toNat * 7, none⟩ = some (.int .i64 ((rd_T45 x3_1 x4_1).f0)) := hcc10 0 _ rfl; have hx10_1 : w11.cell? ⟨go10, (x4_1 : Int).toNat * 7 + 1, none⟩ = some (.int .i64 ((rd_T45 x3_1 x4_1).f1)) := hcc10 1 _ rfl; have hx10_2 : w11.cell? ⟨go10, (x4_1 : Int).toNat * 7 + 2, none⟩ = some (.int .i64 ((rd_T45 x3_1 x4_1).f2)) := hcc10 2 _ rfl; have hx10_3 : w11.cell? ⟨go10, (x4_1 : Int).toNat * 7 + 3, none⟩ = some (.int .i64 ((rd_T45 x3_1 x4_1).f3)) := hcc10 3 _ rfl; have hx10_4 : w11.cell? ⟨go10, (x4_1 : Int).toNat * 7 + 4, none⟩ = some (.int .i64 ((rd_T45 x3_1 x4_1).f4)) := hcc10 4 _ rfl; have hx10_5 : w11.cell? ⟨go10, (x4_1 : Int).toNat * 7 + 5, none⟩ = some (.string ((rd_T45 x3_1 x4_1).f5)) := hcc10 5 _ rfl; have hx10_6 : w11.cell? ⟨go10, (x4_1 : Int).toNat * 7 + 6, none⟩ = some (.string ((rd_T45 x3_1 x4_1).f6)) := hcc10 6 _ rfl; have hf10_0 : w11.frozen? ⟨go10, (x4_1 : Int).toNat * 7, none⟩ = false := hfr10 0; have hf10_1 : w11.frozen? ⟨go10, (x4_1 : Int).toNat * 7 + 1, none⟩ = false := hfr10 1; have hf10_2 : w11.frozen? ⟨go10, (x4_1 : Int).toNat * 7 + 2, none⟩ = false := hfr10 2; have hf10_3 : w11.frozen? ⟨go10, (x4_1 : Int).toNat * 7 + 3, none⟩ = false := hfr10 3; have hf10_4 : w11.frozen? ⟨go10, (x4_1 : Int).toNat * 7 + 4, none⟩ = false := hfr10 4; have hf10_5 : w11.frozen? ⟨go10, (x4_1 : Int).toNat * 7 + 5, none⟩ = false := hfr10 5; have hf10_6 : w11.frozen? ⟨go10, (x4_1 : Int).toNat * 7 + 6, none⟩ = false := hfr10 6; clear hcl10 hcc10 hfr10 hM10; replace p10 := eq_true p10; replace q10 := eq_true q10; have HX12 := am (show Kd.R k45 45 w11 w.heap.size (fun _ => True) (.slice (some ⟨go10, 0, none⟩) x3_1.length co10) x3_1 from (rz HO_3.out)); obtain ⟨ce12, hcl12, hM12, hcc12, hfr12⟩ := Kd.R_elem HX12.out z45 (x4_1 : Int) (of_decide_eq_true az) (by have h_ : (x4_1 : Int) < ((x3_1.length : Int) : Int) := oz; first | exact h_ | (have e_ := (Kd.R_reads' HO_3.out).1; omega) | simpa using h_); obtain rfl := k45_openM hM12; have HP12 := Kd.R_seg HX12.out (x4_1 : Int) (of_decide_eq_true az) (by have h_ : (x4_1 : Int) < ((x3_1.length : Int) : Int) := oz; first | exact h_ | (have e_ := (Kd.R_reads' HO_3.out).1; omega) | simpa using h_) (seg := [.int .i64 t390, .int .i64 t391, .int .i64 t392, .int .i64 t393, .int .i64 t394, .string t395, .string t396]) (j := 0) hcl12 hcc12 (show 7 <= 7 from by decide) (x' := (⟨t390, t391, t392, t393, t394, t395, t396⟩ : S45)) (k45_mkM _ _ _ (⟨t390, t391, t392, t393, t394, t395, t396⟩ : S45) ) (fun _ hk => hk); have hx12_0 := hcc12 0 _ rfl; (try simp only [show (k45).sz = 7 from rfl, Nat.mul_one, Nat.add_zero] at hx12_0); have hf12_0 := hfr12 0; (try simp only [show (k45).sz = 7 from rfl, Nat.mul_one, Nat.add_zero] at hf12_0); have hx12_1 := hcc12 1 _ rfl; (try simp only [show (k45).sz = 7 from rfl, Nat.mul_one, Nat.add_zero] at hx12_1); have hf12_1 := hfr12 1; (try simp only [show (k45).sz = 7 from rfl, Nat.mul_one, Nat.add_zero] at hf12_1); have hx12_2 := hcc12 2 _ rfl; (try simp only [show (k45).sz = 7 from rfl, Nat.mul_one, Nat.add_zero] at hx12_2); have hf12_2 := hfr12 2; (try simp only [show (k45).sz = 7 from rfl, Nat.mul_one, Nat.add_zero] at hf12_2); have hx12_3 := hcc12 3 _ rfl; (try simp only [show (k45).sz = 7 from rfl, Nat.mul_one, Nat.add_zero] at hx12_3); have hf12_3 := hfr12 3; (try simp only [show (k45).sz = 7 from rfl, Nat.mul_one, Nat.add_zero] at hf12_3); have hx12_4 := hcc12 4 _ rfl; (try simp only [show (k45).sz = 7 from rfl, Nat.mul_one, Nat.add_zero] at hx12_4); have hf12_4 := hfr12 4; (try simp only [show (k45).sz = 7 from rfl, Nat.mul_one, Nat.add_zero] at hf12_4); have hx12_5 := hcc12 5 _ rfl; (try simp only [show (k45).sz = 7 from rfl, Nat.mul_one, Nat.add_zero] at hx12_5); have hf12_5 := hfr12 5; (try simp only [show (k45).sz = 7 from rfl, Nat.mul_one, Nat.add_zero] at hf12_5); have hx12_6 := hcc12 6 _ rfl; (try simp only [show (k45).sz = 7 from rfl, Nat.mul_one, Nat.add_zero] at hx12_6); have hf12_6 := hfr12 6; (try simp only [show (k45).sz = 7 from rfl, Nat.mul_one, Nat.add_zero] at hf12_6); clear hcl12 hcc12 hfr12 hM12) | ((with_reducible refine gate_store (t := 45) (p := 21) rfl ?_); refine store_event (t := 45) (p := 21) (v := ?vo_w13) (w1 := (((((((w11.setCell ⟨go10, (x4_1 : Int).toNat * 7, none⟩ (.int .i64 t390)).setCell ⟨go10, (x4_1 : Int).toNat * 7 + 1, none⟩ (.int .i64 t391)).setCell ⟨go10, (x4_1 : Int).toNat * 7 + 2, none⟩ (.int .i64 t392)).setCell ⟨go10, (x4_1 : Int).toNat * 7 + 3, none⟩ (.int .i64 t393)).setCell ⟨go10, (x4_1 : Int).toNat * 7 + 4, none⟩ (.int .i64 t394)).setCell ⟨go10, (x4_1 : Int).toNat * 7 + 5, none⟩ (.string t395)).setCell ⟨go10, (x4_1 : Int).toNat * 7 + 6, none⟩ (.string t396))) ?hg ?ho ?hn ?hr ?_; (case ho => rfl); (case hg => rfl); (case hn => rfl); (case hr => exact vz); intro w13 hw; have hg : w11.grownBy w13 (some go10) := (by rw [hw]; exact HP12.2); have hp_ : Kd.R k45 45 w13 w.heap.size (fun _ => True) (.slice (some ⟨go10, 0, none⟩) x3_1.length co10) y397 := (by rw [hw, Ny397.out]; exact HP12.1); clear HP12; replace HO_3 := am (hp_); replace HB := am ((by rw [hw]; exact below_set (below_set (below_set (below_set (below_set (below_set (below_set (HB.out) GB10.out) GB10.out) GB10.out) GB10.out) GB10.out) GB10.out) GB10.out : Below w.heap.size w w13)); clear hg hw hp_))
    go_roundg k1
    case measure => have := HK1.out; omega
    case rel => exact ⟨(y397), (wrap64 (x4_1 + 1)), ez, H', ⟨by have := HK1.out; omega⟩, ⟨by refine rq ?_; exact HO_3.out⟩, ⟨(bz0 HB.out)⟩⟩
   ·rw [if_neg c6] at H
    have c6b0 := decide_eq_false c6
    clear c6
    obtain rfl := Option.some.inj H
    go_wp2
    go_ret
    exact ⟨_, gz, by refine rq ?_; exact HO_3.out, (bz0 HB.out)⟩
def laws_toBind.f (a0_0 : Int) (a0_1 : Int) : Option (Int × Int) := some (a0_0, a0_1)
set_option maxHeartbeats 8000000 in
set_option maxRecDepth 100000 in
theorem laws_toBind.calls (a0_0 : Int) (a0_1 : Int) (r1 : Int) (r2 : Int) (w : World) (h : laws_toBind.f a0_0 a0_1 = some (r1, r2)) :
  Calls Tryz.prog 8 #[.agg #[.int .i64 a0_0, .int .i64 a0_1]] w fun e w' => e = .returned (.agg #[.int .i64 r1, .int .i64 r2]) /\ Below w.heap.size w w' := by
 have hu24 := Tryz.underlying24
 have hu30 := Tryz.underlying30
 have HB := am (Below.refl w.heap.size w)
 have H : (some (a0_0, a0_1)) = some (r1, r2) := h
 clear h
 simp only [Option.some.injEq, Prod.mk.injEq] at H
 obtain ⟨rfl, rfl⟩ := H
 go_enter Tryz.func8, Tryz.ntmps8
 go_wp2_with (first | ((with_reducible refine gate_dst (N := 1) rfl ?_); refine box_event ?hg (N := 1) ?hd (cs := #[.int .i64 a0_0, .int .i64 a0_1]) (t := 24) ?hr ?_; (case hd => rfl); (case hg => rfl); (case hr => exact vz); intro gb398 hg w2 hbox hb; have BK398 := am (hbox); have GW398 := am ((by rw [hg]; exact (below_size (bz0 HB.out)) : w.heap.size <= gb398)); have GE398 := GW398; replace HB := bs (bz0 HB.out) hb; clear hb hbox hg) | ((with_reducible refine gate_dst (N := 2) rfl ?_); refine box_event ?hg (N := 2) ?hd (cs := #[.int .i64 0, .int .i64 0]) (t := 30) ?hr ?_; (case hd => rfl); (case hg => rfl); (case hr => exact vz); intro gb399 hg w3 hbox hb; have BK399 := am (hbox); have GW399 := am ((by rw [hg]; exact (below_size (bz1 HB.out GE398.out)) : w.heap.size <= gb399)); have GE399 := GW399; replace HB := bs (bz1 HB.out GE398.out) hb; have NB398_399 := am ((by rw [hg]; exact Nat.ne_of_lt (blk_lt (kz BK398.out)) : gb398 ≠ gb399)); have NB399_398 := am ((by rw [hg]; exact Nat.ne_of_gt (blk_lt (kz BK398.out)) : gb399 ≠ gb398)); replace BK398 := kb BK398 hb; clear hb hbox hg) | ((with_reducible refine gate_dst (N := 3) rfl ?_); refine box_event ?hg (N := 3) ?hd (cs := #[.int .i64 0, .int .i64 0]) (t := 30) ?hr ?_; (case hd => rfl); (case hg => rfl); (case hr => exact vz); intro gb400 hg w4 hbox hb; have BK400 := am (hbox); have GW400 := am ((by rw [hg]; exact (below_size (bz2 HB.out GE398.out GE399.out)) : w.heap.size <= gb400)); have GE400 := GW400; replace HB := bs (bz2 HB.out GE398.out GE399.out) hb; have NB398_400 := am ((by rw [hg]; exact Nat.ne_of_lt (blk_lt (kz BK398.out)) : gb398 ≠ gb400)); have NB400_398 := am ((by rw [hg]; exact Nat.ne_of_gt (blk_lt (kz BK398.out)) : gb400 ≠ gb398)); replace BK398 := kb BK398 hb; have NB399_400 := am ((by rw [hg]; exact Nat.ne_of_lt (blk_lt (kz BK399.out)) : gb399 ≠ gb400)); have NB400_399 := am ((by rw [hg]; exact Nat.ne_of_gt (blk_lt (kz BK399.out)) : gb400 ≠ gb399)); replace BK399 := kb BK399 hb; clear hb hbox hg; have hnb5 := NB398_399.out; have hnc5 := NB399_398.out; have hnb6 := NB398_400.out; have hnc6 := NB400_398.out; obtain ⟨hcz7_0, hcz7_1⟩ := cz2 BK398.out; obtain ⟨hfz7_0, hfz7_1⟩ := fz2 BK398.out; have hnb8 := NB400_399.out; have hnc8 := NB399_400.out; obtain ⟨hcz9_0, hcz9_1⟩ := cz2 BK400.out; obtain ⟨hfz9_0, hfz9_1⟩ := fz2 BK400.out; obtain ⟨hcz10_0, hcz10_1⟩ := cz2 BK399.out; obtain ⟨hfz10_0, hfz10_1⟩ := fz2 BK399.out))
 refine bodyPost_ret (results_cell_row rfl _ _ gb399 30 #[.int .i64 a0_0, .int .i64 a0_1] (0, 0) _ rfl (by refine kq ?_; refine blk_put (cs := #[.int .i64 a0_0, .int .i64 0]) ?_ 1 _ rfl; refine kq ?_; refine blk_put (cs := #[.int .i64 0, .int .i64 0]) ?_ 0 _ rfl; refine kq ?_; refine blk_far ?_ NB399_400.out _; refine kq ?_; refine blk_far ?_ NB399_400.out _; refine kq ?_; exact BK399.out) Tryz.underlying30 rfl kr) rfl ?_
 exact ⟨gz, (bz3 HB.out GE398.out GE399.out GE400.out)⟩
def impl_in.f (a0 : Int) (a1 : Int) (a2 : Int) : Option (Bool) := if a0 ≥ a1 then (some (decide (a0 <= a2))) else (some false)
set_option maxHeartbeats 8000000 in
set_option maxRecDepth 100000 in
theorem impl_in.calls (a0 : Int) (a1 : Int) (a2 : Int) (r : Bool) (w : World) (h : impl_in.f a0 a1 a2 = some r) :
  Calls Tryz.prog 47 #[.int .i64 a0, .int .i64 a1, .int .i64 a2] w fun e w' => e = .returned (.bool r) /\ Drawn0 w w' := by
 have H : (if a0 ≥ a1 then (some (decide (a0 <= a2))) else (some false)) = some r := h
 clear h
 by_cases c4 : a0 ≥ a1
 ·rw [if_pos c4] at H
  have c4b0 : decide (a1 <= a0) = true := decide_eq_true c4
  clear c4
  obtain rfl := Option.some.inj H
  go_enter Tryz.func47, Tryz.ntmps47
  go_wp2
  go_ret
  exact ⟨e2z, dz⟩
 ·rw [if_neg c4] at H
  have c4b0 : decide (a1 <= a0) = false := decide_eq_false c4
  clear c4
  obtain rfl := Option.some.inj H
  go_enter Tryz.func47, Tryz.ntmps47
  go_wp2
  go_ret
  exact ⟨e2z, dz⟩
def impl_namesOf.j0 : Nat -> Int -> Bool -> Option (Int)
 | 0, _, _ => none
 | k + 1, x3, x4 => if x4 = true then (some 1) else (if x3 = 6 then (some 2) else (if x3 = 14 then (some 2) else (some 0)))
def impl_namesOf.f (k : Nat) (a0 : Int) : Option (Int) := if a0 = 1 then (impl_namesOf.j0 k a0 (a0 == 1)) else (if a0 = 3 then (impl_namesOf.j0 k a0 (a0 == 3)) else (if a0 = 5 then (impl_namesOf.j0 k a0 (a0 == 5)) else (impl_namesOf.j0 k a0 (a0 == 19))))
theorem impl_namesOf.mono_l : ∀ k, (∀ y0 y1, LeO (impl_namesOf.j0 k y0 y1) (impl_namesOf.j0 (k + 1) y0 y1))
 | 0 => fun _ _ r h => by simp [impl_namesOf.j0] at h
 | k + 1 => by
  have ih0 := impl_namesOf.mono_l k
  ·intro y0 y1
   unfold impl_namesOf.j0
   with_reducible repeat' first | exact ih0 _ _ | exact lrz _ | exact lnz _ | refine liz ?_ ?_ | refine lbz ?_ fun _ => ?_
theorem impl_namesOf.mono : ∀ a0 k, LeO (impl_namesOf.f k a0) (impl_namesOf.f (k + 1) a0) := by
 intro a0 k
 have ih0 := impl_namesOf.mono_l k
 unfold impl_namesOf.f
 with_reducible repeat' first | exact ih0 _ _ | exact lrz _ | exact lnz _ | refine liz ?_ ?_ | refine lbz ?_ fun _ => ?_
set_option maxHeartbeats 8000000 in
set_option maxRecDepth 100000 in
theorem impl_namesOf.calls (k : Nat) (a0 : Int) (r : Int) (w : World) (h : impl_namesOf.f k a0 = some r) :
  Calls Tryz.prog 52 #[.int .i64 a0] w fun e w' => e = .returned (.int .i64 r) /\ Drawn0 w w' := by
 have H : (if a0 = 1 then (impl_namesOf.j0 k a0 (a0 == 1)) else (if a0 = 3 then (impl_namesOf.j0 k a0 (a0 == 3)) else (if a0 = 5 then (impl_namesOf.j0 k a0 (a0 == 5)) else (impl_namesOf.j0 k a0 (a0 == 19))))) = some r := h
 clear h
 have HC2 := am H
 clear H
 go_enter Tryz.func52, Tryz.ntmps52
 go_upto_if 4 with (fail)
 go_cut [4] (fun v4 wc => ∃ (kq : Nat) (x4_1 : Bool), v4 = .bool x4_1 /\ Aside0 (impl_namesOf.j0 kq a0 x4_1 = some r) /\ Aside0 (kq <= k) /\ Drawn0 w wc)
 case first =>
  have H := HC2.out
  clear HC2
  by_cases c3 : a0 = 1
  ·rw [if_pos c3] at H
   have c3b0 : (a0 == 1) = true := beq_iff_eq.mpr c3
   have c3b1 : (a0 != 1) = false := bne_eq_false_iff_eq.mpr c3
   clear c3
   (first | rw [c3b0] | (simp only [i64_w, i32_w]; rw [c3b0]) | skip)
   have H' := am H
   clear H
   go_wp2
   go_meet
   case rel => exact ⟨_, ((a0 == 1)), ez, H', ⟨by first | omega | exact Nat.le_refl _⟩, dz⟩
  ·rw [if_neg c3] at H
   have c3b0 : (a0 == 1) = false := beq_eq_false_iff_ne.mpr c3
   have c3b1 : (a0 != 1) = true := bne_iff_ne.mpr c3
   (first | rw [c3b0] | (simp only [i64_w, i32_w]; rw [c3b0]) | skip)
   by_cases c4 : a0 = 3
   ·rw [if_pos c4] at H
    have c4b0 : (a0 == 3) = true := beq_iff_eq.mpr c4
    have c4b1 : (a0 != 3) = false := bne_eq_false_iff_eq.mpr c4
    clear c4
    have H' := am H
    clear H
    go_wp2
    go_meet
    case rel => exact ⟨_, ((a0 == 3)), ez, H', ⟨by first | omega | exact Nat.le_refl _⟩, dz⟩
   ·rw [if_neg c4] at H
    have c4b0 : (a0 == 3) = false := beq_eq_false_iff_ne.mpr c4
    have c4b1 : (a0 != 3) = true := bne_iff_ne.mpr c4
    by_cases c5 : a0 = 5
    ·rw [if_pos c5] at H
     have c5b0 : (a0 == 5) = true := beq_iff_eq.mpr c5
     have c5b1 : (a0 != 5) = false := bne_eq_false_iff_eq.mpr c5
     clear c5
     have H' := am H
     clear H
     go_wp2
     go_meet
     case rel => exact ⟨_, ((a0 == 5)), ez, H', ⟨by first | omega | exact Nat.le_refl _⟩, dz⟩
    ·rw [if_neg c5] at H
     have c5b0 : (a0 == 5) = false := beq_eq_false_iff_ne.mpr c5
     have c5b1 : (a0 != 5) = true := bne_iff_ne.mpr c5
     have H' := am H
     clear H
     go_wp2
     go_meet
     case rel => exact ⟨_, ((a0 == 19)), ez, H', ⟨by first | omega | exact Nat.le_refl _⟩, dz⟩
 case rest =>
  clear HC2
  try clear p2
  try clear c3
  try clear c3b0
  try clear c3b1
  try clear c4
  try clear c4b0
  try clear c4b1
  try clear c5
  try clear c5b0
  try clear c5b1
  obtain ⟨kq, x4_1, rfl, HA, HJ1, ⟨mc1, rfl⟩⟩ := hcut
  cases kq with
  | zero => exact absurd HA.out (by simp [impl_namesOf.j0])
  | succ kj1 =>
   have H := HA.out
   clear HA
   simp only [impl_namesOf.j0] at H
   by_cases c6 : x4_1 = true
   ·subst c6
    have H1 := hp H
    clear H
    have H := H1
    clear H1
    obtain rfl := Option.some.inj H
    go_wp2
    go_ret
    exact ⟨e2z, dz⟩
   ·replace c6 := Bool.eq_false_iff.mpr c6
    subst c6
    have H1 := hq H
    clear H
    have H := H1
    clear H1
    by_cases c7 : a0 = 6
    ·rw [if_pos c7] at H
     have c7b0 : (a0 == 6) = true := beq_iff_eq.mpr c7
     have c7b1 : (a0 != 6) = false := bne_eq_false_iff_eq.mpr c7
     clear c7
     obtain rfl := Option.some.inj H
     go_wp2
     go_ret
     exact ⟨e2z, dz⟩
    ·rw [if_neg c7] at H
     have c7b0 : (a0 == 6) = false := beq_eq_false_iff_ne.mpr c7
     have c7b1 : (a0 != 6) = true := bne_iff_ne.mpr c7
     by_cases c8 : a0 = 14
     ·rw [if_pos c8] at H
      have c8b0 : (a0 == 14) = true := beq_iff_eq.mpr c8
      have c8b1 : (a0 != 14) = false := bne_eq_false_iff_eq.mpr c8
      clear c8
      obtain rfl := Option.some.inj H
      go_wp2
      go_ret
      exact ⟨e2z, dz⟩
     ·rw [if_neg c8] at H
      have c8b0 : (a0 == 14) = false := beq_eq_false_iff_ne.mpr c8
      have c8b1 : (a0 != 14) = true := bne_iff_ne.mpr c8
      obtain rfl := Option.some.inj H
      go_wp2
      go_ret
      exact ⟨e2z, dz⟩
def impl_IsWord.l0 : Nat -> ByteArray -> Int -> Option (Bool)
 | 0, _, _ => none
 | k + 1, x0, x3 => if x3 < (x0.size : Int) then (if 0 <= x3 then (if (bt x0 x3) < 97 then (some false) else (if (bt x0 x3) > 122 then (some false) else (impl_IsWord.l0 k x0 (wrap64 (x3 + 1))))) else (none)) else ((impl_in.f (x0.size : Int) 1 8).bind fun t401 => (some t401))
def impl_IsWord.f (k : Nat) (a0 : ByteArray) : Option (Bool) := impl_IsWord.l0 k a0 0
theorem impl_IsWord.mono_l : ∀ k, (∀ y0 y1, LeO (impl_IsWord.l0 k y0 y1) (impl_IsWord.l0 (k + 1) y0 y1))
 | 0 => fun _ _ r h => by simp [impl_IsWord.l0] at h
 | k + 1 => by
  have ih0 := impl_IsWord.mono_l k
  ·intro y0 y1
   unfold impl_IsWord.l0
   with_reducible repeat' first | exact ih0 _ _ | exact lrz _ | exact lnz _ | refine liz ?_ ?_ | refine lbz ?_ fun _ => ?_
theorem impl_IsWord.mono : ∀ a0 k, LeO (impl_IsWord.f k a0) (impl_IsWord.f (k + 1) a0) := by
 intro a0 k
 have ih0 := impl_IsWord.mono_l k
 unfold impl_IsWord.f
 with_reducible repeat' first | exact ih0 _ _ | exact lrz _ | exact lnz _ | refine liz ?_ ?_ | refine lbz ?_ fun _ => ?_
set_option maxHeartbeats 8000000 in
set_option maxRecDepth 100000 in
theorem impl_IsWord.calls (k : Nat) (a0 : ByteArray) (r : Bool) (w : World) (h : impl_IsWord.f k a0 = some r) :
  Calls Tryz.prog 21 #[.string a0] w fun e w' => e = .returned (.bool r) /\ Drawn0 w w' := by
 have H : (impl_IsWord.l0 k a0 0) = some r := h
 clear h
 have H' := am H
 clear H
 go_enter Tryz.func21, Tryz.ntmps21
 go_wp2
 go_loopg [3] k (fun kq v3 w' => ∃ (x3_1 : Int), v3 = .int .i64 x3_1 /\ Aside0 (impl_IsWord.l0 kq a0 x3_1 = some r) /\ Aside0 (kq <= k) /\ Drawn0 w w')
 case atStart => exact ⟨(0), ez, H', ⟨Nat.le_refl _⟩, dz⟩
 case round =>
  clear H'
  obtain ⟨x3_1, rfl, HA, HK1, ⟨m1, rfl⟩⟩ := hrel
  cases gk with
  | zero => exact absurd HA.out (by simp [impl_IsWord.l0])
  | succ k1 =>
   have H := HA.out
   clear HA
   simp only [impl_IsWord.l0] at H
   by_cases c2 : x3_1 < (a0.size : Int)
   ·rw [if_pos c2] at H
    have c2b0 := decide_eq_true c2
    clear c2
    replace H := iz H
    obtain ⟨c3, H⟩ := H
    have c3b0 := decide_eq_true c3
    clear c3
    by_cases c5 : (bt a0 x3_1) < 97
    ·rw [if_pos c5] at H
     have c5b0 := decide_eq_true c5
     clear c5
     obtain rfl := Option.some.inj H
     have p4 : 0 <= (x3_1 : Int) := oz
     have q4 : x3_1 < (a0.size : Int) := oz
     have hx4 := bt_at a0 x3_1
     replace p4 := eq_true p4
     replace q4 := eq_true q4
     go_wp2
     go_ret
     exact ⟨e2z, dz⟩
    ·rw [if_neg c5] at H
     have c5b0 := decide_eq_false c5
     clear c5
     by_cases c7 : (bt a0 x3_1) > 122
     ·rw [if_pos c7] at H
      have c7b0 : decide (122 < (bt a0 x3_1)) = true := decide_eq_true c7
      clear c7
      obtain rfl := Option.some.inj H
      have p4 : 0 <= (x3_1 : Int) := oz
      have q4 : x3_1 < (a0.size : Int) := oz
      have hx4 := bt_at a0 x3_1
      replace p4 := eq_true p4
      replace q4 := eq_true q4
      have p6 : 0 <= (x3_1 : Int) := oz
      have q6 : x3_1 < (a0.size : Int) := oz
      have hx6 := bt_at a0 x3_1
      replace p6 := eq_true p6
      replace q6 := eq_true q6
      go_wp2
      go_ret
      exact ⟨e2z, dz⟩
     ·rw [if_neg c7] at H
      have c7b0 : decide (122 < (bt a0 x3_1)) = false := decide_eq_false c7
      clear c7
      have H' := am H
      clear H
      have p4 : 0 <= (x3_1 : Int) := oz
      have q4 : x3_1 < (a0.size : Int) := oz
      have hx4 := bt_at a0 x3_1
      replace p4 := eq_true p4
      replace q4 := eq_true q4
      have p6 : 0 <= (x3_1 : Int) := oz
      have q6 : x3_1 < (a0.size : Int) := oz
      have hx6 := bt_at a0 x3_1
      replace p6 := eq_true p6
      replace q6 := eq_true q6
      go_wp2
      go_roundg k1
      case measure => have := HK1.out; omega
      case rel => exact ⟨(wrap64 (x3_1 + 1)), ez, H', ⟨by have := HK1.out; omega⟩, dz⟩
   ·rw [if_neg c2] at H
    have c2b0 := decide_eq_false c2
    clear c2
    replace H := bi H
    obtain ⟨t401, A80, H⟩ := H
    try dsimp only at H
    have A8 := am A80
    clear A80
    obtain rfl := Option.some.inj H
    go_wp2_with (first | ((with_reducible refine gate_callee (f := 47) rfl ?_); refine goesL_ (some 22) rfl rfl Tryz.func47 kr rfl #[.int .i64 (a0.size : Int), .int .i64 1, .int .i64 8] rfl lz ?_; (with_reducible refine (impl_in.calls (a0.size : Int) 1 8 t401 _ A8.out).mono ?_); rintro e w' ⟨rfl, ⟨nd, rfl⟩⟩; refine ⟨_, rfl, ?_⟩))
    go_ret
    exact ⟨e2z, dz⟩
def strings_explode.f (a0 : ByteArray) (a1 : Int) : Option (List ByteArray) := none
theorem strings_explode.calls (a0 : ByteArray) (a1 : Int) (r : List ByteArray) (w : World) (h : strings_explode.f a0 a1 = some r) :
  Calls Tryz.prog 85 #[.string a0, .int .i64 a1] w fun e w' => ∃ v0_ : Value, e = .returned (v0_) /\ Kd.R Kd.string 9 w' w.heap.size (fun _ => True) v0_ r /\ Below w.heap.size w w' := by
 cases h
def strings_Index.f (a0 : ByteArray) (a1 : ByteArray) : Option (Int) := if a1 = (⟨#[32]⟩ : ByteArray) then (some (Lib.indexByte a0.data.toList 32)) else (none)
theorem strings_Index.calls (a0 : ByteArray) (a1 : ByteArray) (r : Int) (w : World) (h : strings_Index.f a0 a1 = some r) :
  Calls Tryz.prog 87 #[.string a0, .string a1] w fun e w' => e = .returned (.int .i64 r) /\ Drawn0 w w' := by
 unfold strings_Index.f at h
 split at h
 ·rename_i e1
  subst e1
  obtain rfl := Option.some.inj h
  exact (Tryz.strings_Index_one a0 32 w).mono fun e w' ⟨h1, h2⟩ => ⟨h1, by rw [h2]; exact Drawn0.refl _⟩
 ·cases h
def strings_Count.f (a0 : ByteArray) (a1 : ByteArray) : Option (Int) := if a1 = (⟨#[32]⟩ : ByteArray) then (some (Lib.countByte a0.data.toList 32)) else (none)
theorem strings_Count.calls (a0 : ByteArray) (a1 : ByteArray) (r : Int) (w : World) (h : strings_Count.f a0 a1 = some r) :
  Calls Tryz.prog 86 #[.string a0, .string a1] w fun e w' => e = .returned (.int .i64 r) /\ Drawn0 w w' := by
 unfold strings_Count.f at h
 split at h
 ·rename_i e1
  subst e1
  obtain rfl := Option.some.inj h
  exact (Tryz.strings_Count_one a0 32 w).mono fun e w' ⟨h1, h2⟩ => ⟨h1, by rw [h2]; exact Drawn0.refl _⟩
 ·cases h
mutual
def strings_genSplit.j0 : Nat -> ByteArray -> ByteArray -> Int -> Int -> Option (List ByteArray)
 | 0, _, _, _, _ => none
 | k + 1, x0, x1, x2, x3 => if 0 <= (mn x3 (wrap64 ((x0.size : Int) + 1))) then (if (mn x3 (wrap64 ((x0.size : Int) + 1)) : Int).toNat <= 17592186044416 then (strings_genSplit.l0 k x0 x1 x2 (wrap64 ((mn x3 (wrap64 ((x0.size : Int) + 1))) - 1)) (List.replicate (mn x3 (wrap64 ((x0.size : Int) + 1)) : Int).toNat (⟨#[]⟩ : ByteArray)) 0) else (none)) else (none)
def strings_genSplit.l0 : Nat -> ByteArray -> ByteArray -> Int -> Int -> List ByteArray -> Int -> Option (List ByteArray)
 | 0, _, _, _, _, _, _ => none
 | k + 1, x0, x1, x2, x3, x9, x10 => if x10 < x3 then ((strings_Index.f x0 x1).bind fun t409 => (if t409 < 0 then (if 0 <= x10 then (if x10 < (x9.length : Int) then (if 0 <= (wrap64 (x10 + 1)) then (if (wrap64 (x10 + 1)) <= (x9.length : Int) then (some ((x9.set (x10 : Int).toNat x0).take ((wrap64 (x10 + 1)) : Int).toNat)) else (none)) else (none)) else (none)) else (none)) else (if 0 <= (wrap64 (t409 + x2)) then (if (wrap64 (t409 + x2)) <= (x0.size : Int) then (if 0 <= x10 then (if x10 < (x9.length : Int) then (if 0 <= (wrap64 (t409 + (x1.size : Int))) then (if (wrap64 (t409 + (x1.size : Int))) <= (x0.size : Int) then (strings_genSplit.l0 k (x0.extract ((wrap64 (t409 + (x1.size : Int))) : Int).toNat x0.size) x1 x2 x3 (x9.set (x10 : Int).toNat (x0.extract 0 ((wrap64 (t409 + x2)) : Int).toNat)) (wrap64 (x10 + 1))) else (none)) else (none)) else (none)) else (none)) else (none)) else (none)))) else (if 0 <= x10 then (if x10 < (x9.length : Int) then (if 0 <= (wrap64 (x10 + 1)) then (if (wrap64 (x10 + 1)) <= (x9.length : Int) then (some ((x9.set (x10 : Int).toNat x0).take ((wrap64 (x10 + 1)) : Int).toNat)) else (none)) else (none)) else (none)) else (none))
end
def strings_genSplit.f (k : Nat) (a0 : ByteArray) (a1 : ByteArray) (a2 : Int) (a3 : Int) : Option (List ByteArray) := if a3 = 0 then (some ([] : List ByteArray)) else (if a1.toList = ([] : List UInt8) then ((strings_explode.f a0 a3).bind fun t402 => (some t402)) else (if a3 < 0 then ((strings_Count.f a0 a1).bind fun t405 => (strings_genSplit.j0 k a0 a1 a2 (wrap64 (t405 + 1)))) else (strings_genSplit.j0 k a0 a1 a2 a3)))
theorem strings_genSplit.mono_l : ∀ k, (∀ y0 y1 y2 y3, LeO (strings_genSplit.j0 k y0 y1 y2 y3) (strings_genSplit.j0 (k + 1) y0 y1 y2 y3)) /\ (∀ y0 y1 y2 y3 y4 y5, LeO (strings_genSplit.l0 k y0 y1 y2 y3 y4 y5) (strings_genSplit.l0 (k + 1) y0 y1 y2 y3 y4 y5))
 | 0 => ⟨fun _ _ _ _ r h => by simp [strings_genSplit.j0] at h, fun _ _ _ _ _ _ r h => by simp [strings_genSplit.l0] at h⟩
 | k + 1 => by
  obtain ⟨ih0, ih1⟩ := strings_genSplit.mono_l k
  refine ⟨?_, ?_⟩
  ·intro y0 y1 y2 y3
   unfold strings_genSplit.j0
   with_reducible repeat' first | exact ih0 _ _ _ _ | exact ih1 _ _ _ _ _ _ | exact lrz _ | exact lnz _ | refine liz ?_ ?_ | refine lbz ?_ fun _ => ?_
  ·intro y0 y1 y2 y3 y4 y5
   unfold strings_genSplit.l0
   with_reducible repeat' first | exact ih0 _ _ _ _ | exact ih1 _ _ _ _ _ _ | exact lrz _ | exact lnz _ | refine liz ?_ ?_ | refine lbz ?_ fun _ => ?_
theorem strings_genSplit.mono : ∀ a0 a1 a2 a3 k, LeO (strings_genSplit.f k a0 a1 a2 a3) (strings_genSplit.f (k + 1) a0 a1 a2 a3) := by
 intro a0 a1 a2 a3 k
 obtain ⟨ih0, ih1⟩ := strings_genSplit.mono_l k
 unfold strings_genSplit.f
 with_reducible repeat' first | exact ih0 _ _ _ _ | exact ih1 _ _ _ _ _ _ | exact lrz _ | exact lnz _ | refine liz ?_ ?_ | refine lbz ?_ fun _ => ?_
set_option maxHeartbeats 8000000 in
set_option maxRecDepth 100000 in
theorem strings_genSplit.calls (k : Nat) (a0 : ByteArray) (a1 : ByteArray) (a2 : Int) (a3 : Int) (r : List ByteArray) (w : World) (h : strings_genSplit.f k a0 a1 a2 a3 = some r) :
  Calls Tryz.prog 68 #[.string a0, .string a1, .int .i64 a2, .int .i64 a3] w fun e w' => ∃ v0_ : Value, e = .returned (v0_) /\ Kd.R Kd.string 9 w' w.heap.size (fun _ => True) v0_ r /\ Below w.heap.size w w' := by
 have HB := am (Below.refl w.heap.size w)
 have H : (if a3 = 0 then (some ([] : List ByteArray)) else (if a1.toList = ([] : List UInt8) then ((strings_explode.f a0 a3).bind fun t402 => (some t402)) else (if a3 < 0 then ((strings_Count.f a0 a1).bind fun t405 => (strings_genSplit.j0 k a0 a1 a2 (wrap64 (t405 + 1)))) else (strings_genSplit.j0 k a0 a1 a2 a3)))) = some r := h
 clear h
 by_cases c5 : a3 = 0
 ·rw [if_pos c5] at H
  have c5b0 : (a3 == 0) = true := beq_iff_eq.mpr c5
  have c5b1 : (a3 != 0) = false := bne_eq_false_iff_eq.mpr c5
  clear c5
  obtain rfl := Option.some.inj H
  go_enter Tryz.func68, Tryz.ntmps68
  go_wp2
  go_ret
  exact ⟨_, gz, by first | exact Kd.R_nil _ _ _ _ _ | exact Kd.N_nil _ _ _ _ _ | exact Kd.V_nil _ _ _ _ _ | exact Kd.Q_nil _ _ _ _ _ | exact Kd.S_nil _ _ _ _ _, (bz0 HB.out)⟩
 ·rw [if_neg c5] at H
  have c5b0 : (a3 == 0) = false := beq_eq_false_iff_ne.mpr c5
  have c5b1 : (a3 != 0) = true := bne_iff_ne.mpr c5
  by_cases c6 : a1.toList = ([] : List UInt8)
  ·rw [if_pos c6] at H
   have c6b0 : (a1.toList == ([] : List UInt8)) = true := beq_iff_eq.mpr c6
   have c6b1 : (a1.toList != ([] : List UInt8)) = false := bne_eq_false_iff_eq.mpr c6
   clear c6
   replace H := bi H
   obtain ⟨t402, A70, H⟩ := H
   try dsimp only at H
   have A7 := am A70
   clear A70
   obtain rfl := Option.some.inj H
   go_enter Tryz.func68, Tryz.ntmps68
   go_wp2_with (first | ((with_reducible refine gate_callee (f := 85) rfl ?_); refine goesL_ (some 18) rfl rfl Tryz.func85 kr rfl #[.string a0, .int .i64 a3] rfl lz ?_; (with_reducible refine (strings_explode.calls a0 a3 t402 _ A7.out).mono ?_); rintro e w8 ⟨v403, rfl, ho0, hb⟩; refine ⟨_, rfl, ?_⟩; have HO404 := am (Kd.R_lower ho0 (below_size (bz0 HB.out))); replace HB := bs (bz0 HB.out) hb; (try clear hb); (try clear ho0)))
   go_ret
   exact ⟨_, gz, by refine rq ?_; exact HO404.out, (bz0 HB.out)⟩
  ·rw [if_neg c6] at H
   have c6b0 : (a1.toList == ([] : List UInt8)) = false := beq_eq_false_iff_ne.mpr c6
   have c6b1 : (a1.toList != ([] : List UInt8)) = true := bne_iff_ne.mpr c6
   have HC9 := am H
   clear H
   go_enter Tryz.func68, Tryz.ntmps68
   go_upto_if 20 with (fail)
   go_cut [3] (fun v3 wc => ∃ (kq : Nat) (x3_8 : Int), v3 = .int .i64 x3_8 /\ Aside0 (strings_genSplit.j0 kq a0 a1 a2 x3_8 = some r) /\ Aside0 (kq <= k) /\ Aside0 (Below w.heap.size w wc))
   case first =>
    have H := HC9.out
    clear HC9
    by_cases c10 : a3 < 0
    ·rw [if_pos c10] at H
     have c10b0 := decide_eq_true c10
     clear c10
     (first | rw [c10b0] | (simp only [i64_w, i32_w]; rw [c10b0]) | skip)
     replace H := bi H
     obtain ⟨t405, A110, H⟩ := H
     try dsimp only at H
     have A11 := am A110
     clear A110
     have H' := am H
     clear H
     go_wp2_with (first | ((with_reducible refine gate_callee (f := 86) rfl ?_); refine goesL_ (some 23) rfl rfl Tryz.func86 kr rfl #[.string a0, .string a1] rfl lz ?_; (with_reducible refine (strings_Count.calls a0 a1 t405 _ A11.out).mono ?_); rintro e w' ⟨rfl, ⟨nd, rfl⟩⟩; refine ⟨_, rfl, ?_⟩))
     go_meet
     case rel => exact ⟨_, (wrap64 (t405 + 1)), ez, H', ⟨by first | omega | exact Nat.le_refl _⟩, ⟨(bz0 HB.out)⟩⟩
    ·rw [if_neg c10] at H
     have c10b0 := decide_eq_false c10
     clear c10
     (first | rw [c10b0] | (simp only [i64_w, i32_w]; rw [c10b0]) | skip)
     have H' := am H
     clear H
     go_wp2
     go_meet
     case rel => exact ⟨_, (a3), ez, H', ⟨by first | omega | exact Nat.le_refl _⟩, ⟨(bz0 HB.out)⟩⟩
   case rest =>
    clear HC9
    try clear c1
    try clear p2
    try clear c5
    try clear c5b0
    try clear c5b1
    try clear c6
    try clear c6b0
    try clear c6b1
    try clear p6
    try clear c8
    try clear c10
    try clear c10b0
    obtain ⟨kq, x3_8, rfl, HA, HJ8, HB⟩ := hcut
    cases kq with
    | zero => exact absurd HA.out (by simp [strings_genSplit.j0])
    | succ kj8 =>
     have H := HA.out
     clear HA
     simp only [strings_genSplit.j0] at H
     obtain ⟨ji12, hji12⟩ : ∃ j_ : Int, (mn x3_8 (wrap64 ((a0.size : Int) + 1))) = j_ := ⟨_, rfl⟩
     replace H : (if 0 <= (ji12) then (if (ji12 : Int).toNat <= 17592186044416 then (strings_genSplit.l0 kj8 a0 a1 a2 (wrap64 ((ji12) - 1)) (List.replicate (ji12 : Int).toNat (⟨#[]⟩ : ByteArray)) 0) else (none)) else (none)) = some r := by first | (rw [hji12] at H; exact H) | (simp only [hji12] at H ⊢; exact H)
     have hji12_ : (if (wrap64 ((a0.size : Int) + 1)) < x3_8 then (wrap64 ((a0.size : Int) + 1)) else x3_8) = ji12 := hji12
     replace H := iz H
     obtain ⟨c13, H⟩ := H
     have c13b0 := eq_true c13
     have c13b1 : decide (0 <= (ji12)) = true := decide_eq_true c13
     clear c13
     replace H := iz H
     obtain ⟨c14, H⟩ := H
     have c14b0 := eq_true c14
     have c14b1 : decide ((ji12 : Int).toNat <= 17592186044416) = true := decide_eq_true c14
     clear c14
     obtain ⟨y406, hy406⟩ : ∃ y_ : List ByteArray, y_ = (List.replicate (ji12 : Int).toNat (⟨#[]⟩ : ByteArray)) := ⟨_, rfl⟩
     replace H : (strings_genSplit.l0 kj8 a0 a1 a2 (wrap64 ((ji12) - 1)) y406 0) = some r := yz hy406 H
     have Ny406 := am hy406
     clear hy406
     have H' := am H
     clear H
     go_wp2_with (first | ((with_reducible refine gate_dst (N := 31) rfl ?_); refine Kd.R_make Kd.string _ 9 rfl (N := 31) rfl 42 _ _ rfl ji12 rfl rfl Tryz.underlying42 (.string ⟨#[]⟩) 16 info9 rfl (by decide) (by omega) (⟨#[]⟩ : ByteArray) (ok := fun _ => True) (okp := fun _ => True) rfl (fun _ hk => hk) trivial (of_decide_eq_true az) (Nat.le_trans (Nat.mul_le_mul_right _ (of_decide_eq_true az : ji12.toNat <= 17592186044416)) (by omega)) (Below.refl _ _) (Nat.le_refl _) ?_; intro v407 w15 ho16 hb hg_ hnew_; clear hg_ hnew_; (first | rw [<- Ny406.out] at ho16 | (simp only [Int.reduceToNat] at ho16; rw [<- Ny406.out] at ho16)); have HO408 := am (Kd.R_lower ho16 (below_size (bz0 HB.out))); replace HB := bs (bz0 HB.out) hb; clear hb ho16))
     (try simp only [Act.put, sz1, sz2, sz3])
     go_loopg [0, 10] kj8 (fun kq v0 v10 w' => ∃ (x0_2 : ByteArray) (x9_2 : List ByteArray) (x10_2 : Int), v0 = .string x0_2 /\ v10 = .int .i64 x10_2 /\ Aside0 (strings_genSplit.l0 kq x0_2 a1 a2 (wrap64 ((ji12) - 1)) x9_2 x10_2 = some r) /\ Aside0 (kq <= kj8) /\ Aside0 (Kd.R Kd.string 9 w' w.heap.size (fun _ => True) v407 x9_2) /\ Aside0 (Below w.heap.size w w'))
     case atStart => exact ⟨(a0), (y406), (0), ez, ez, H', ⟨Nat.le_refl _⟩, ⟨by refine rq ?_; exact HO408.out⟩, ⟨(bz0 HB.out)⟩⟩
     case round =>
      clear H'
      try clear c1
      try clear p2
      try clear c5
      try clear c5b0
      try clear c5b1
      try clear c6
      try clear c6b0
      try clear c6b1
      try clear p6
      try clear c8
      try clear c10
      try clear c10b0
      try clear c13
      try clear c13b0
      try clear c13b1
      try clear c14
      try clear c14b0
      try clear c14b1
      try clear p2
      try clear p6
      obtain ⟨x0_2, x9_2, x10_2, rfl, rfl, HA, HK2, HO_9, HB⟩ := hrel
      cases gk with
      | zero => exact absurd HA.out (by simp [strings_genSplit.l0])
      | succ k2 =>
       have H := HA.out
       clear HA
       simp only [strings_genSplit.l0] at H
       by_cases c17 : x10_2 < (wrap64 ((ji12) - 1))
       ·rw [if_pos c17] at H
        have c17b0 := decide_eq_true c17
        clear c17
        replace H := bi H
        obtain ⟨t409, A180, H⟩ := H
        try dsimp only at H
        have A18 := am A180
        clear A180
        by_cases c19 : t409 < 0
        ·rw [if_pos c19] at H
         have c19b0 := decide_eq_true c19
         clear c19
         replace H := iz H
         obtain ⟨c20, H⟩ := H
         have c20b0 := decide_eq_true c20
         clear c20
         replace H := iz H
         obtain ⟨c21, H⟩ := H
         have c21b0 := decide_eq_true c21
         clear c21
         obtain ⟨y410, hy410⟩ : ∃ y_ : List ByteArray, y_ = (x9_2.set (x10_2 : Int).toNat x0_2) := ⟨_, rfl⟩
         replace H : (if 0 <= (wrap64 (x10_2 + 1)) then (if (wrap64 (x10_2 + 1)) <= (x9_2.length : Int) then (some (y410.take ((wrap64 (x10_2 + 1)) : Int).toNat)) else (none)) else (none)) = some r := yz hy410 H
         have Ny410 := am hy410
         clear hy410
         obtain ⟨ji23, hji23⟩ : ∃ j_ : Int, (wrap64 (x10_2 + 1)) = j_ := ⟨_, rfl⟩
         replace H : (if 0 <= (ji23) then (if (ji23) <= (x9_2.length : Int) then (some (y410.take ((ji23) : Int).toNat)) else (none)) else (none)) = some r := by first | (rw [hji23] at H; exact H) | (simp only [hji23] at H ⊢; exact H)
         (try rw [hji23] at A18)
         have hji23w : (IntKind.i64.wrap (x10_2 + 1)) = ji23 := (i64_w _).trans hji23
         replace H := iz H
         obtain ⟨c24, H⟩ := H
         have c24b0 := eq_true c24
         have c24b1 : decide (0 <= (ji23)) = true := decide_eq_true c24
         clear c24
         replace H := iz H
         obtain ⟨c25, H⟩ := H
         have c25b0 := eq_true c25
         have c25b1 : decide ((ji23) <= (x9_2.length : Int)) = true := decide_eq_true c25
         clear c25
         obtain ⟨y411, hy411⟩ : ∃ y_ : List ByteArray, y_ = (y410.take ((ji23) : Int).toNat) := ⟨_, rfl⟩
         replace H : (some y411) = some r := yz hy411 H
         have Ny411 := am hy411
         clear hy411
         obtain rfl := Option.some.inj H
         go_wp2_with (first | ((with_reducible refine gate_callee (f := 87) rfl ?_); refine goesL_ (some 39) rfl rfl Tryz.func87 kr rfl #[.string x0_2, .string a1] rfl lz ?_; (with_reducible refine (strings_Index.calls x0_2 a1 t409 _ A18.out).mono ?_); rintro e w' ⟨rfl, ⟨nd, rfl⟩⟩; refine ⟨_, rfl, ?_⟩; (try (rw [drewN_self wr]; generalize hq_ : World.drewN wr _ = wr; have n0_ : Aside0 (Kd.R Kd.string 9 wr w.heap.size (fun _ => True) v407 x9_2) := ⟨by rw [<- hq_]; exact (rz HO_9.out)⟩; have n1_ : Aside0 (Below w.heap.size w wr) := ⟨by rw [<- hq_]; exact (bz0 HB.out)⟩; clear HO_9 HB hq_; have HO_9 := n0_; have HB := n1_; clear n0_ n1_)); have p22 : 0 <= (x10_2 : Int) := oz; have q22 : (x10_2 : Int) < ((x9_2.length : Int) : Int) := oz; obtain ⟨go22, co22, eo22, gb22, gl22, cl22, HG22⟩ := Kd.R_form HO_9.out (by omega); (first | cases eo22 | (injection eo22 with ea_ en_ ec_; (first | subst ea_ | (injection ea_ with ea_; subst ea_)); subst ec_; clear en_)); have GB22 := am gb22; have GG22 := am HG22; clear gb22 gl22 HG22; obtain ⟨hx22_0, hf22_0⟩ := Kd.R_celln (⟨#[]⟩ : ByteArray) HO_9.out (x10_2 : Int) p22 q22; replace p22 := eq_true p22; replace q22 := eq_true q22; obtain ⟨hy26_, hz26_⟩ := Kd.R_celln (⟨#[]⟩ : ByteArray) HO_9.out (x10_2 : Int) (of_decide_eq_true az) (of_decide_eq_true az); have HP26 := Kd.R_putg HO_9.out (x10_2 : Int) x0_2) | ((with_reducible refine gate_store (t := 9) (p := 61) rfl ?_); refine store_event (t := 9) (p := 61) (v := ?vo_w27) (w1 := (wr.setCell ⟨go22, (x10_2 : Int).toNat, none⟩ (.string x0_2))) ?hg ?ho ?hn ?hr ?_; (case ho => rfl); (case hg => rfl); (case hn => rfl); (case hr => exact vz); intro w27 hw; have hg : wr.grownBy w27 (some go22) := (by rw [hw]; exact HP26.2); have hp_ : Kd.R Kd.string 9 w27 w.heap.size (fun _ => True) (.slice (some ⟨go22, 0, none⟩) x9_2.length co22) y410 := (by rw [hw, Ny410.out]; exact HP26.1); clear HP26; replace HO_9 := am (hp_); replace HB := am ((by rw [hw]; exact below_set (HB.out) GB22.out : Below w.heap.size w w27)); clear hg hw hp_; have q28 : ((ji23) : Int) <= ((x9_2.length : Int) : Int) := oz; obtain ⟨i028, hi028, _, hsz28, _⟩ := info_parts info9; have hcut28 := cut_to (P := Tryz.prog) 42 9 .i64 Tryz.underlying42 hi028 (some ⟨go22, 0, none⟩) x9_2.length co22 (ji23) (of_decide_eq_true az) q28 (Kd.R_reads' HO_9.out).2.1; have hlen28 : y410.length = x9_2.length := (by rw [Ny410.out, List.length_set]); have hr28 := Kd.R_take (m := ((ji23) : Int).toNat) HO_9.out (by omega); have hy28 : y411.length = ((ji23) : Int).toNat := (by rw [Ny411.out, List.length_take]; omega); rw [<- Ny411.out] at hr28; rw [<- hy28] at hr28 hcut28; clear hlen28; clear hy28 hi028 hsz28 HO_9; have HO413 := am hr28; clear hr28; replace q28 := eq_true q28))
         go_ret
         exact ⟨_, by first | rfl | (simp [errW_none, errW_some] <;> rfl) | (simp only [<- hji12, <- hji23]; first | rfl | (simp [errW_none, errW_some] <;> rfl)) | (simp [*, errW_none, errW_some] <;> rfl), by refine rq ?_; exact HO413.out, (bz0 HB.out)⟩
        ·rw [if_neg c19] at H
         have c19b0 := decide_eq_false c19
         clear c19
         obtain ⟨ji29, hji29⟩ : ∃ j_ : Int, (wrap64 (t409 + a2)) = j_ := ⟨_, rfl⟩
         replace H : (if 0 <= (ji29) then (if (ji29) <= (x0_2.size : Int) then (if 0 <= x10_2 then (if x10_2 < (x9_2.length : Int) then (if 0 <= (wrap64 (t409 + (a1.size : Int))) then (if (wrap64 (t409 + (a1.size : Int))) <= (x0_2.size : Int) then (strings_genSplit.l0 k2 (x0_2.extract ((wrap64 (t409 + (a1.size : Int))) : Int).toNat x0_2.size) a1 a2 (wrap64 ((ji12) - 1)) (x9_2.set (x10_2 : Int).toNat (x0_2.extract 0 ((ji29) : Int).toNat)) (wrap64 (x10_2 + 1))) else (none)) else (none)) else (none)) else (none)) else (none)) else (none)) = some r := by first | (rw [hji29] at H; exact H) | (simp only [hji29] at H ⊢; exact H)
         (try rw [hji29] at A18)
         have hji29w : (IntKind.i64.wrap (t409 + a2)) = ji29 := (i64_w _).trans hji29
         replace H := iz H
         obtain ⟨c30, H⟩ := H
         have c30b0 := eq_true c30
         have c30b1 : decide (0 <= (ji29)) = true := decide_eq_true c30
         clear c30
         replace H := iz H
         obtain ⟨c31, H⟩ := H
         have c31b0 := eq_true c31
         have c31b1 : decide ((ji29) <= (x0_2.size : Int)) = true := decide_eq_true c31
         clear c31
         replace H := iz H
         obtain ⟨c32, H⟩ := H
         have c32b0 := decide_eq_true c32
         clear c32
         replace H := iz H
         obtain ⟨c33, H⟩ := H
         have c33b0 := decide_eq_true c33
         clear c33
         obtain ⟨y414, hy414⟩ : ∃ y_ : List ByteArray, y_ = (x9_2.set (x10_2 : Int).toNat (x0_2.extract 0 ((ji29) : Int).toNat)) := ⟨_, rfl⟩
         replace H : (if 0 <= (wrap64 (t409 + (a1.size : Int))) then (if (wrap64 (t409 + (a1.size : Int))) <= (x0_2.size : Int) then (strings_genSplit.l0 k2 (x0_2.extract ((wrap64 (t409 + (a1.size : Int))) : Int).toNat x0_2.size) a1 a2 (wrap64 ((ji12) - 1)) y414 (wrap64 (x10_2 + 1))) else (none)) else (none)) = some r := yz hy414 H
         have Ny414 := am hy414
         clear hy414
         obtain ⟨ji35, hji35⟩ : ∃ j_ : Int, (wrap64 (t409 + (a1.size : Int))) = j_ := ⟨_, rfl⟩
         replace H : (if 0 <= (ji35) then (if (ji35) <= (x0_2.size : Int) then (strings_genSplit.l0 k2 (x0_2.extract ((ji35) : Int).toNat x0_2.size) a1 a2 (wrap64 ((ji12) - 1)) y414 (wrap64 (x10_2 + 1))) else (none)) else (none)) = some r := by first | (rw [hji35] at H; exact H) | (simp only [hji35] at H ⊢; exact H)
         (try rw [hji35] at A18)
         have hji35w : (IntKind.i64.wrap (t409 + (a1.size : Int))) = ji35 := (i64_w _).trans hji35
         replace H := iz H
         obtain ⟨c36, H⟩ := H
         have c36b0 := eq_true c36
         have c36b1 : decide (0 <= (ji35)) = true := decide_eq_true c36
         clear c36
         replace H := iz H
         obtain ⟨c37, H⟩ := H
         have c37b0 := eq_true c37
         have c37b1 : decide ((ji35) <= (x0_2.size : Int)) = true := decide_eq_true c37
         clear c37
         have H' := am H
         clear H
         go_wp2_with (first | ((with_reducible refine gate_callee (f := 87) rfl ?_); refine goesL_ (some 39) rfl rfl Tryz.func87 kr rfl #[.string x0_2, .string a1] rfl lz ?_; (with_reducible refine (strings_Index.calls x0_2 a1 t409 _ A18.out).mono ?_); rintro e w' ⟨rfl, ⟨nd, rfl⟩⟩; refine ⟨_, rfl, ?_⟩; (try (rw [drewN_self wr]; generalize hq_ : World.drewN wr _ = wr; have n0_ : Aside0 (Kd.R Kd.string 9 wr w.heap.size (fun _ => True) v407 x9_2) := ⟨by rw [<- hq_]; exact (rz HO_9.out)⟩; have n1_ : Aside0 (Below w.heap.size w wr) := ⟨by rw [<- hq_]; exact (bz0 HB.out)⟩; clear HO_9 HB hq_; have HO_9 := n0_; have HB := n1_; clear n0_ n1_)); have p34 : 0 <= (x10_2 : Int) := oz; have q34 : (x10_2 : Int) < ((x9_2.length : Int) : Int) := oz; obtain ⟨go34, co34, eo34, gb34, gl34, cl34, HG34⟩ := Kd.R_form HO_9.out (by omega); (first | cases eo34 | (injection eo34 with ea_ en_ ec_; (first | subst ea_ | (injection ea_ with ea_; subst ea_)); subst ec_; clear en_)); have GB34 := am gb34; have GG34 := am HG34; clear gb34 gl34 HG34; obtain ⟨hx34_0, hf34_0⟩ := Kd.R_celln (⟨#[]⟩ : ByteArray) HO_9.out (x10_2 : Int) p34 q34; replace p34 := eq_true p34; replace q34 := eq_true q34; obtain ⟨hy38_, hz38_⟩ := Kd.R_celln (⟨#[]⟩ : ByteArray) HO_9.out (x10_2 : Int) (of_decide_eq_true az) (of_decide_eq_true az); have HP38 := Kd.R_putg HO_9.out (x10_2 : Int) (x0_2.extract 0 ((ji29) : Int).toNat)) | ((with_reducible refine gate_store (t := 9) (p := 49) rfl ?_); refine store_event (t := 9) (p := 49) (v := ?vo_w39) (w1 := (wr.setCell ⟨go34, (x10_2 : Int).toNat, none⟩ (.string (x0_2.extract 0 ((ji29) : Int).toNat)))) ?hg ?ho ?hn ?hr ?_; (case ho => rfl); (case hg => rfl); (case hn => rfl); (case hr => exact vz); intro w39 hw; have hg : wr.grownBy w39 (some go34) := (by rw [hw]; exact HP38.2); have hp_ : Kd.R Kd.string 9 w39 w.heap.size (fun _ => True) (.slice (some ⟨go34, 0, none⟩) x9_2.length co34) y414 := (by rw [hw, Ny414.out]; exact HP38.1); clear HP38; replace HO_9 := am (hp_); replace HB := am ((by rw [hw]; exact below_set (HB.out) GB34.out : Below w.heap.size w w39)); clear hg hw hp_))
         go_roundg k2
         case measure => have := HJ8.out; have := HK2.out; omega
         case rel => exact ⟨(x0_2.extract ((ji35) : Int).toNat x0_2.size), (y414), (wrap64 (x10_2 + 1)), (by first | rfl | (simp; done) | (simp only [<- hji35] <;> (first | rfl | simp)) | (simp [*]; done)), ez, H', ⟨by have := HJ8.out; have := HK2.out; omega⟩, ⟨by refine rq ?_; exact HO_9.out⟩, ⟨(bz0 HB.out)⟩⟩
       ·rw [if_neg c17] at H
        have c17b0 := decide_eq_false c17
        clear c17
        replace H := iz H
        obtain ⟨c40, H⟩ := H
        have c40b0 := decide_eq_true c40
        clear c40
        replace H := iz H
        obtain ⟨c41, H⟩ := H
        have c41b0 := decide_eq_true c41
        clear c41
        obtain ⟨y415, hy415⟩ : ∃ y_ : List ByteArray, y_ = (x9_2.set (x10_2 : Int).toNat x0_2) := ⟨_, rfl⟩
        replace H : (if 0 <= (wrap64 (x10_2 + 1)) then (if (wrap64 (x10_2 + 1)) <= (x9_2.length : Int) then (some (y415.take ((wrap64 (x10_2 + 1)) : Int).toNat)) else (none)) else (none)) = some r := yz hy415 H
        have Ny415 := am hy415
        clear hy415
        obtain ⟨ji43, hji43⟩ : ∃ j_ : Int, (wrap64 (x10_2 + 1)) = j_ := ⟨_, rfl⟩
        replace H : (if 0 <= (ji43) then (if (ji43) <= (x9_2.length : Int) then (some (y415.take ((ji43) : Int).toNat)) else (none)) else (none)) = some r := by first | (rw [hji43] at H; exact H) | (simp only [hji43] at H ⊢; exact H)
        have hji43w : (IntKind.i64.wrap (x10_2 + 1)) = ji43 := (i64_w _).trans hji43
        replace H := iz H
        obtain ⟨c44, H⟩ := H
        have c44b0 := eq_true c44
        have c44b1 : decide (0 <= (ji43)) = true := decide_eq_true c44
        clear c44
        replace H := iz H
        obtain ⟨c45, H⟩ := H
        have c45b0 := eq_true c45
        have c45b1 : decide ((ji43) <= (x9_2.length : Int)) = true := decide_eq_true c45
        clear c45
        obtain ⟨y416, hy416⟩ : ∃ y_ : List ByteArray, y_ = (y415.take ((ji43) : Int).toNat) := ⟨_, rfl⟩
        replace H : (some y416) = some r := yz hy416 H
        have Ny416 := am hy416
        clear hy416
        obtain rfl := Option.some.inj H
        have p42 : 0 <= (x10_2 : Int) := oz
        have q42 : (x10_2 : Int) < ((x9_2.length : Int) : Int) := oz
        obtain ⟨go42, co42, eo42, gb42, gl42, cl42, HG42⟩ := Kd.R_form HO_9.out (by omega)
        (first | cases eo42 | (injection eo42 with ea_ en_ ec_; (first | subst ea_ | (injection ea_ with ea_; subst ea_)); subst ec_; clear en_))
        have GB42 := am gb42
        have GG42 := am HG42
        clear gb42 gl42 HG42
        obtain ⟨hx42_0, hf42_0⟩ := Kd.R_celln (⟨#[]⟩ : ByteArray) HO_9.out (x10_2 : Int) p42 q42
        replace p42 := eq_true p42
        replace q42 := eq_true q42
        have HP46 := Kd.R_putg HO_9.out (x10_2 : Int) x0_2
        go_wp2_with (first | ((with_reducible refine gate_store (t := 9) (p := 61) rfl ?_); refine store_event (t := 9) (p := 61) (v := ?vo_w47) (w1 := (wr.setCell ⟨go42, (x10_2 : Int).toNat, none⟩ (.string x0_2))) ?hg ?ho ?hn ?hr ?_; (case ho => rfl); (case hg => rfl); (case hn => rfl); (case hr => exact vz); intro w47 hw; have hg : wr.grownBy w47 (some go42) := (by rw [hw]; exact HP46.2); have hp_ : Kd.R Kd.string 9 w47 w.heap.size (fun _ => True) (.slice (some ⟨go42, 0, none⟩) x9_2.length co42) y415 := (by rw [hw, Ny415.out]; exact HP46.1); clear HP46; replace HO_9 := am (hp_); replace HB := am ((by rw [hw]; exact below_set (HB.out) GB42.out : Below w.heap.size w w47)); clear hg hw hp_; have q48 : ((ji43) : Int) <= ((x9_2.length : Int) : Int) := oz; obtain ⟨i048, hi048, _, hsz48, _⟩ := info_parts info9; have hcut48 := cut_to (P := Tryz.prog) 42 9 .i64 Tryz.underlying42 hi048 (some ⟨go42, 0, none⟩) x9_2.length co42 (ji43) (of_decide_eq_true az) q48 (Kd.R_reads' HO_9.out).2.1; have hlen48 : y415.length = x9_2.length := (by rw [Ny415.out, List.length_set]); have hr48 := Kd.R_take (m := ((ji43) : Int).toNat) HO_9.out (by omega); have hy48 : y416.length = ((ji43) : Int).toNat := (by rw [Ny416.out, List.length_take]; omega); rw [<- Ny416.out] at hr48; rw [<- hy48] at hr48 hcut48; clear hlen48; clear hy48 hi048 hsz48 HO_9; have HO418 := am hr48; clear hr48; replace q48 := eq_true q48))
        go_ret
        exact ⟨_, by first | rfl | (simp [errW_none, errW_some] <;> rfl) | (simp only [<- hji12, <- hji43]; first | rfl | (simp [errW_none, errW_some] <;> rfl)) | (simp [*, errW_none, errW_some] <;> rfl), by refine rq ?_; exact HO418.out, (bz0 HB.out)⟩
end Go.Proofs.YtdjamdnjkdllgaaGreatDoor.PFnExactRenameOne
