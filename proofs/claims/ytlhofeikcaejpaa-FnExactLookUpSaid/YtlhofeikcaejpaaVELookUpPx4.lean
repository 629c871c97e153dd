/- PFnExactLookUpx4, of the words and walks that the law FnExactLookUp needs; made by this session's program out of printed texts. -/

import Derived.Test.YtlhofeikcaejpaaVELookUpPx0
import Derived.Test.YtlhofeikcaejpaaVELookUpPx3
namespace Go.Proofs.Ytlhofeikcaejpaa.PFnExactLookUp
open Go.RowKit Go.Proofs.YtlhofeikcaejpaaW.PrintWords Go.Proofs.YtlhofeikcaejpaaW.PrintLast Go.Proofs.YtlhofeikcaejpaaW.PrintMore
attribute [local go_sem] max2_int min2_int max_two min_two max_three min_three max_four min_four
set_option linter.unusedVariables false
set_option linter.unusedSimpArgs false
def laws_toValS.l0 : Nat -> List (S104) -> List (S49) -> Int -> Option ((List (S49)))
 | 0, _, _, _ => none
 | k + 1, x0, x3, x4 => if x4 < (x0.length : Int) then (if 0 <= x4 then ((laws_toVal.f ((rd_T104 x0 x4).f0) ((rd_T104 x0 x4).f1)).bind fun bt186 => (if x4 < (x3.length : Int) then (laws_toValS.l0 k x0 (x3.set (x4 : Int).toNat (⟨bt186.1, bt186.2⟩ : S49)) (wrap64 (x4 + 1))) else (none))) else (none)) else (some x3)
def laws_toValS.f (k : Nat) (l0 : List (S104)) : Option ((List (S49))) := if 0 <= (l0.length : Int) then (if ((l0.length : Int) : Int).toNat <= 17592186044416 then (laws_toValS.l0 k l0 (List.replicate ((l0.length : Int) : Int).toNat z49) 0) else (none)) else (none)
theorem laws_toValS.mono_l : ∀ k, (∀ y0 y1 y2, LeO (laws_toValS.l0 k y0 y1 y2) (laws_toValS.l0 (k + 1) y0 y1 y2))
 | 0 => fun _ _ _ r h => by simp [laws_toValS.l0] at h
 | k + 1 => by
  have ih0 := laws_toValS.mono_l k
  ·intro y0 y1 y2
   unfold laws_toValS.l0
   with_reducible repeat' first | exact ih0 _ _ _ | exact lrz _ | exact lnz _ | refine liz ?_ ?_ | refine lbz ?_ fun _ => ?_
theorem laws_toValS.mono : ∀ a0 k, LeO (laws_toValS.f k a0) (laws_toValS.f (k + 1) a0) := by
 intro a0 k
 have ih0 := laws_toValS.mono_l k
 unfold laws_toValS.f
 with_reducible repeat' first | exact ih0 _ _ _ | exact lrz _ | exact lnz _ | refine liz ?_ ?_ | refine lbz ?_ fun _ => ?_
set_option maxHeartbeats 8000000 in
set_option maxRecDepth 100000 in
theorem laws_toValS.calls (k : Nat) (A0 : Option Addr) (c0 : Nat) (l0 : List (S104)) (r : List (S49)) (w : World) (hr0 : Kd.C k104 w A0 l0.length l0) (hc0 : l0.length <= c0) (h : laws_toValS.f k l0 = some r) :
  Calls Try.prog 42 #[.slice A0 l0.length c0] w fun e w' => ∃ v0_ : Value, e = .returned (v0_) /\ Kd.R k49 49 w' w.heap.size (fun _ => True) v0_ r /\ Below w.heap.size w w' := by
 have hu104 := Try.underlying104
 have hu49 := Try.underlying49
 have HR0 := Aside0.mk hr0
 have HC0 := Aside0.mk hc0
 clear hr0 hc0
 have HB := Aside0.mk (Below.refl w.heap.size w)
 have H : (if 0 <= (l0.length : Int) then (if ((l0.length : Int) : Int).toNat <= 17592186044416 then (laws_toValS.l0 k l0 (List.replicate ((l0.length : Int) : Int).toNat z49) 0) else (none)) else (none)) = some r := h
 clear h
 replace H := iz H
 obtain ⟨c2, H⟩ := H
 have c2b0 := eq_true c2
 have c2b1 : decide (0 <= (l0.length : Int)) = true := decide_eq_true c2
 clear c2
 replace H := iz H
 obtain ⟨c3, H⟩ := H
 have c3b0 := eq_true c3
 have c3b1 : decide (((l0.length : Int) : Int).toNat <= 17592186044416) = true := decide_eq_true c3
 clear c3
 obtain ⟨y182, hy182⟩ : ∃ y_ : List (S49), y_ = (List.replicate ((l0.length : Int) : Int).toNat z49) := ⟨_, rfl⟩
 replace H : (laws_toValS.l0 k l0 y182 0) = some r := yz hy182 H
 have Ny182 := Aside0.mk hy182
 clear hy182
 have H' := Aside0.mk H
 clear H
 go_enter Try.func42, Try.ntmps42
 go_wp2_with (first | ((with_reducible refine gate_dst (N := 7) rfl ?_); refine Kd.R_make k49 _ 49 rfl (N := 7) rfl 55 _ _ rfl (l0.length : Int) rfl rfl Try.underlying55 (.agg #[(.int .i64 0), (.int .i64 0)]) 16 info49 rfl (by decide) (by omega) z49 (ok := fun _ => True) (okp := fun _ => True) (k49_mkM _ _ _ z49 ) (fun _ hk => hk) trivial (of_decide_eq_true az) (Nat.le_trans (Nat.mul_le_mul_right _ (of_decide_eq_true az : (l0.length : Int).toNat <= 17592186044416)) (by omega)) (Below.refl _ _) (Nat.le_refl _) ?_; intro v183 w4 ho5 hb hg_ hnew_; clear hg_ hnew_; (first | rw [<- Ny182.out] at ho5 | (simp only [Int.reduceToNat] at ho5; rw [<- Ny182.out] at ho5)); have HO184 := Aside0.mk (Kd.R_lower ho5 (below_size (bz0 HB.out))); replace HB := Aside0.mk (below_step (bz0 HB.out) hb); clear hb ho5))
 (try simp only [Act.put, sz1, sz2, sz3])
 go_loopg [4] k (fun kq v4 w' => ∃ (x3_1 : List (S49)) (x4_1 : Int), v4 = .int .i64 x4_1 /\ Aside0 (laws_toValS.l0 kq l0 x3_1 x4_1 = some r) /\ Aside0 (kq <= k) /\ Aside0 (Kd.R k49 49 w' w.heap.size (fun _ => True) v183 x3_1) /\ Aside0 (Below w.heap.size w w'))
 case atStart => exact ⟨(y182), (0), ez, H', ⟨Nat.le_refl _⟩, ⟨by refine rq ?_; exact HO184.out⟩, ⟨(bz0 HB.out)⟩⟩
 case round =>
  clear H'
  try clear c2
  try clear c2b0
  try clear c2b1
  try clear p2
  try clear c3
  try clear c3b0
  try clear c3b1
  try clear c4
  obtain ⟨x3_1, x4_1, rfl, HA, HK1, HO_3, HB⟩ := hrel
  cases gk with
  | zero => exact absurd HA.out (by simp [laws_toValS.l0])
  | succ k1 =>
   have H := HA.out
   clear HA
   simp only [laws_toValS.l0] at H
   by_cases c6 : x4_1 < (l0.length : Int)
   ·rw [if_pos c6] at H
    have c6b0 := decide_eq_true c6
    clear c6
    replace H := iz H
    obtain ⟨c7, H⟩ := H
    have c7b0 := decide_eq_true c7
    clear c7
    replace H := bi H
    obtain ⟨⟨t186, t187⟩, A80, H⟩ := H
    try dsimp only at H
    have A8 := Aside0.mk A80
    clear A80
    replace H := iz H
    obtain ⟨c9, H⟩ := H
    have c9b0 := decide_eq_true c9
    clear c9
    obtain ⟨y188, hy188⟩ : ∃ y_ : List (S49), y_ = (x3_1.set (x4_1 : Int).toNat (⟨t186, t187⟩ : S49)) := ⟨_, rfl⟩
    replace H : (laws_toValS.l0 k1 l0 y188 (wrap64 (x4_1 + 1))) = some r := yz hy188 H
    have Ny188 := Aside0.mk hy188
    clear hy188
    have H' := Aside0.mk H
    clear H
    have p185 : 0 <= (x4_1 : Int) := oz
    have q185 : x4_1 < (l0.length : Int) := oz
    obtain ⟨ad185, e185, hx185_0, hx185_1⟩ := at_T104 (Kd.C_below HR0.out HB.out) x4_1 p185 q185
    cases e185
    replace p185 := eq_true p185
    replace q185 := eq_true q185
    go_wp2_with (first | ((with_reducible refine gate_callee (f := 55) rfl ?_); refine goesL_ (some 20) rfl rfl Try.func55 (by kernel_rfl) rfl #[.agg #[.int .i64 ((rd_T104 l0 x4_1).f0), .int .i64 ((rd_T104 l0 x4_1).f1)]] rfl lz ?_; (with_reducible refine (laws_toVal.calls ((rd_T104 l0 x4_1).f0) ((rd_T104 l0 x4_1).f1) t186 t187 _ A8.out).mono ?_); rintro e w11 ⟨rfl, hb⟩; refine ⟨_, rfl, ?_⟩; replace HO_3 := qz HO_3 hb; replace HB := Aside0.mk (below_step (bz0 HB.out) hb); (try clear hb); (try clear hk); have p10 : 0 <= (x4_1 : Int) := oz; have q10 : (x4_1 : Int) < ((x3_1.length : Int) : Int) := oz; obtain ⟨go10, co10, eo10, gb10, gl10, cl10, HG10⟩ := Kd.R_form HO_3.out (by omega); (first | cases eo10 | (injection eo10 with ea_ en_ ec_; (first | subst ea_ | (injection ea_ with ea_; subst ea_)); subst ec_; clear en_)); have GB10 := Aside0.mk gb10; have GG10 := Aside0.mk HG10; clear gb10 gl10 HG10; obtain ⟨ce10, hcl10, hM10, hcc10, hfr10⟩ := Kd.R_elem HO_3.out z49 (x4_1 : Int) p10 q10; obtain rfl := k49_openM hM10; have hx10_0 : w11.cell? ⟨go10, (x4_1 : Int).toNat * 2, none⟩ = some (.int .i64 ((rd_T49 x3_1 x4_1).f0)) := hcc10 0 _ rfl; have hx10_1 : w11.cell? ⟨go10, (x4_1 : Int).toNat * 2 + 1, none⟩ = some (.int .i64 ((rd_T49 x3_1 x4_1).f1)) := hcc10 1 _ rfl; have hf10_0 : w11.frozen? ⟨go10, (x4_1 : Int).toNat * 2, none⟩ = false := hfr10 0; have hf10_1 : w11.frozen? ⟨go10, (x4_1 : Int).toNat * 2 + 1, none⟩ = false := hfr10 1; clear hcl10 hcc10 hfr10 hM10; replace p10 := eq_true p10; replace q10 := eq_true q10; have HX12 := Aside0.mk (show Kd.R k49 49 w11 w.heap.size (fun _ => True) (.slice (some ⟨go10, 0, none⟩) x3_1.length co10) x3_1 from (rz HO_3.out)); obtain ⟨ce12, hcl12, hM12, hcc12, hfr12⟩ := Kd.R_elem HX12.out z49 (x4_1 : Int) (of_decide_eq_true az) (by have h_ : (x4_1 : Int) < ((x3_1.length : Int) : Int) := oz; first | exact h_ | (have e_ := (Kd.R_reads' HO_3.out).1; omega) | simpa using h_); obtain rfl := k49_openM hM12; have HP12 := Kd.R_seg HX12.out (x4_1 : Int) (of_decide_eq_true az) (by have h_ : (x4_1 : Int) < ((x3_1.length : Int) : Int) := oz; first | exact h_ | (have e_ := (Kd.R_reads' HO_3.out).1; omega) | simpa using h_) (seg := [.int .i64 t186, .int .i64 t187]) (j := 0) hcl12 hcc12 (show 2 <= 2 from by decide) (x' := (⟨t186, t187⟩ : S49)) (k49_mkM _ _ _ (⟨t186, t187⟩ : S49) ) (fun _ hk => hk); have hx12_0 := hcc12 0 _ rfl; (try simp only [show (k49).sz = 2 from rfl, Nat.mul_one, Nat.add_zero] at hx12_0); have hf12_0 := hfr12 0; (try simp only [show (k49).sz = 2 from rfl, Nat.mul_one, Nat.add_zero] at hf12_0); have hx12_1 := hcc12 1 _ rfl; (try simp only [show (k49).sz = 2 from rfl, Nat.mul_one, Nat.add_zero] at hx12_1); have hf12_1 := hfr12 1; (try simp only [show (k49).sz = 2 from rfl, Nat.mul_one, Nat.add_zero] at hf12_1); clear hcl12 hcc12 hfr12 hM12) | ((with_reducible refine gate_store (t := 49) (p := 21) rfl ?_); refine store_event (t := 49) (p := 21) (v := ?vo_w13) (w1 := ((w11.setCell ⟨go10, (x4_1 : Int).toNat * 2, none⟩ (.int .i64 t186)).setCell ⟨go10, (x4_1 : Int).toNat * 2 + 1, none⟩ (.int .i64 t187))) ?hg ?ho ?hn ?hr ?_; (case ho => rfl); (case hg => rfl); (case hn => rfl); (case hr => exact vz); intro w13 hw; have hg : w11.grownBy w13 (some go10) := (by rw [hw]; exact HP12.2); have hp_ : Kd.R k49 49 w13 w.heap.size (fun _ => True) (.slice (some ⟨go10, 0, none⟩) x3_1.length co10) y188 := (by rw [hw, Ny188.out]; exact HP12.1); clear HP12; replace HO_3 := Aside0.mk (hp_); replace HB := Aside0.mk ((by rw [hw]; exact below_set (below_set (HB.out) GB10.out) GB10.out : Below w.heap.size w w13)); clear hg hw hp_))
    go_roundg k1
    case measure => have := HK1.out; omega
    case rel => exact ⟨(y188), (wrap64 (x4_1 + 1)), ez, H', ⟨by have := HK1.out; omega⟩, ⟨by refine rq ?_; exact HO_3.out⟩, ⟨(bz0 HB.out)⟩⟩
   ·rw [if_neg c6] at H
    have c6b0 := decide_eq_false c6
    clear c6
    obtain rfl := Option.some.inj H
    go_wp2
    go_ret
    exact ⟨_, gz, by refine rq ?_; exact HO_3.out, (bz0 HB.out)⟩
def laws_toHeap.f (k : Nat) (l0_0 : List (S106)) (l0_1 : List (S108)) (l0_2 : List (S111)) (l0_3 : List (S104)) : Option ((List (S97)) × (List (S100)) × (List (S102)) × (List (S49))) := (laws_toEnvCellS.f k l0_0).bind fun t192 => ((laws_toCloS.f k l0_1).bind fun t195 => ((laws_toTwoS.f k l0_2).bind fun t198 => ((laws_toValS.f k l0_3).bind fun t201 => (some (t192, t195, t198, t201)))))
theorem laws_toHeap.mono : ∀ a0 a1 a2 a3 k, LeO (laws_toHeap.f k a0 a1 a2 a3) (laws_toHeap.f (k + 1) a0 a1 a2 a3) := by
 intro a0 a1 a2 a3 k
 unfold laws_toHeap.f
 with_reducible repeat' first | exact laws_toCloS.mono _ _ | exact laws_toEnvCellS.mono _ _ | exact laws_toTwoS.mono _ _ | exact laws_toValS.mono _ _ | exact lrz _ | exact lnz _ | refine liz ?_ ?_ | refine lbz ?_ fun _ => ?_
set_option maxHeartbeats 8000000 in
set_option maxRecDepth 100000 in
theorem laws_toHeap.calls (k : Nat) (A0_0 : Option Addr) (c0_0 : Nat) (l0_0 : List (S106)) (A0_1 : Option Addr) (c0_1 : Nat) (l0_1 : List (S108)) (A0_2 : Option Addr) (c0_2 : Nat) (l0_2 : List (S111)) (A0_3 : Option Addr) (c0_3 : Nat) (l0_3 : List (S104)) (r1 : List (S97)) (r2 : List (S100)) (r3 : List (S102)) (r4 : List (S49)) (w : World) (hr0_0 : Kd.C k106 w A0_0 l0_0.length l0_0) (hc0_0 : l0_0.length <= c0_0) (hr0_1 : Kd.C k108 w A0_1 l0_1.length l0_1) (hc0_1 : l0_1.length <= c0_1) (hr0_2 : Kd.C k111 w A0_2 l0_2.length l0_2) (hc0_2 : l0_2.length <= c0_2) (hr0_3 : Kd.C k104 w A0_3 l0_3.length l0_3) (hc0_3 : l0_3.length <= c0_3) (h : laws_toHeap.f k l0_0 l0_1 l0_2 l0_3 = some (r1, r2, r3, r4)) :
  Calls Try.prog 20 #[.agg #[.slice A0_0 l0_0.length c0_0, .slice A0_1 l0_1.length c0_1, .slice A0_2 l0_2.length c0_2, .slice A0_3 l0_3.length c0_3]] w fun e w' => ∃ v0_ v1_ v2_ v3_ : Value, e = .returned (.agg #[v0_, v1_, v2_, v3_]) /\ Kd.R k97 97 w' w.heap.size (fun _ => True) v0_ r1 /\ Kd.R k100 100 w' w.heap.size (fun _ => True) v1_ r2 /\ Kd.R k102 102 w' w.heap.size (fun _ => True) v2_ r3 /\ Kd.R k49 49 w' w.heap.size (fun _ => True) v3_ r4 /\ Below w.heap.size w w' := by
 have hu44 := Try.underlying44
 have hu57 := Try.underlying57
 have HR0_0 := Aside0.mk hr0_0
 have HC0_0 := Aside0.mk hc0_0
 clear hr0_0 hc0_0
 have HR0_1 := Aside0.mk hr0_1
 have HC0_1 := Aside0.mk hc0_1
 clear hr0_1 hc0_1
 have HR0_2 := Aside0.mk hr0_2
 have HC0_2 := Aside0.mk hc0_2
 clear hr0_2 hc0_2
 have HR0_3 := Aside0.mk hr0_3
 have HC0_3 := Aside0.mk hc0_3
 clear hr0_3 hc0_3
 have HB := Aside0.mk (Below.refl w.heap.size w)
 have H : ((laws_toEnvCellS.f k l0_0).bind fun t192 => ((laws_toCloS.f k l0_1).bind fun t195 => ((laws_toTwoS.f k l0_2).bind fun t198 => ((laws_toValS.f k l0_3).bind fun t201 => (some (t192, t195, t198, t201)))))) = some (r1, r2, r3, r4) := h
 clear h
 replace H := bi H
 obtain ⟨t192, A20, H⟩ := H
 try dsimp only at H
 have A2 := Aside0.mk A20
 clear A20
 replace H := bi H
 obtain ⟨t195, A30, H⟩ := H
 try dsimp only at H
 have A3 := Aside0.mk A30
 clear A30
 replace H := bi H
 obtain ⟨t198, A40, H⟩ := H
 try dsimp only at H
 have A4 := Aside0.mk A40
 clear A40
 replace H := bi H
 obtain ⟨t201, A50, H⟩ := H
 try dsimp only at H
 have A5 := Aside0.mk A50
 clear A50
 simp only [Option.some.injEq, Prod.mk.injEq] at H
 obtain ⟨rfl, rfl, rfl, rfl⟩ := H
 go_enter Try.func20, Try.ntmps20
 go_wp2_with (first | ((with_reducible refine gate_dst (N := 1) rfl ?_); refine box_event ?hg (N := 1) ?hd (cs := #[.slice A0_0 l0_0.length c0_0, .slice A0_1 l0_1.length c0_1, .slice A0_2 l0_2.length c0_2, .slice A0_3 l0_3.length c0_3]) (t := 44) ?hr ?_; (case hd => rfl); (case hg => rfl); (case hr => exact vz); intro gb189 hg w6 hbox hb; have BK189 := Aside0.mk (hbox); have GW189 := Aside0.mk ((by rw [hg]; exact (below_size (bz0 HB.out)) : w.heap.size <= gb189)); have GE189 := Aside0.mk ((by rw [hg]; exact (below_size (bz0 HB.out)) : w.heap.size <= gb189)); replace HB := Aside0.mk (below_step (bz0 HB.out) hb); clear hb hbox hg) | ((with_reducible refine gate_dst (N := 2) rfl ?_); refine box_event ?hg (N := 2) ?hd (cs := #[.slice none 0 0, .slice none 0 0, .slice none 0 0, .slice none 0 0]) (t := 57) ?hr ?_; (case hd => rfl); (case hg => rfl); (case hr => exact vz); intro gb190 hg w7 hbox hb; have BK190 := Aside0.mk (hbox); have GW190 := Aside0.mk ((by rw [hg]; exact (below_size (bz1 HB.out GE189.out)) : w.heap.size <= gb190)); have GE190 := Aside0.mk ((by rw [hg]; exact (below_size (bz1 HB.out GE189.out)) : w.heap.size <= gb190)); replace HB := Aside0.mk (below_step (bz1 HB.out GE189.out) hb); have NB189_190 := Aside0.mk ((by rw [hg]; exact Nat.ne_of_lt (blk_lt (g := gb189) (o := .cells #[.slice A0_0 l0_0.length c0_0, .slice A0_1 l0_1.length c0_1, .slice A0_2 l0_2.length c0_2, .slice A0_3 l0_3.length c0_3] 44 (0, 0)) (kz BK189.out)) : gb189 ≠ gb190)); have NB190_189 := Aside0.mk ((by rw [hg]; exact Nat.ne_of_gt (blk_lt (g := gb189) (o := .cells #[.slice A0_0 l0_0.length c0_0, .slice A0_1 l0_1.length c0_1, .slice A0_2 l0_2.length c0_2, .slice A0_3 l0_3.length c0_3] 44 (0, 0)) (kz BK189.out)) : gb190 ≠ gb189)); replace BK189 := Aside0.mk (blk_below (kz BK189.out) hb); clear hb hbox hg) | ((with_reducible refine gate_dst (N := 3) rfl ?_); refine box_event ?hg (N := 3) ?hd (cs := #[.slice none 0 0, .slice none 0 0, .slice none 0 0, .slice none 0 0]) (t := 57) ?hr ?_; (case hd => rfl); (case hg => rfl); (case hr => exact vz); intro gb191 hg w8 hbox hb; have BK191 := Aside0.mk (hbox); have GW191 := Aside0.mk ((by rw [hg]; exact (below_size (bz2 HB.out GE189.out GE190.out)) : w.heap.size <= gb191)); have GE191 := Aside0.mk ((by rw [hg]; exact (below_size (bz2 HB.out GE189.out GE190.out)) : w.heap.size <= gb191)); replace HB := Aside0.mk (below_step (bz2 HB.out GE189.out GE190.out) hb); have NB189_191 := Aside0.mk ((by rw [hg]; exact Nat.ne_of_lt (blk_lt (g := gb189) (o := .cells #[.slice A0_0 l0_0.length c0_0, .slice A0_1 l0_1.length c0_1, .slice A0_2 l0_2.length c0_2, .slice A0_3 l0_3.length c0_3] 44 (0, 0)) (kz BK189.out)) : gb189 ≠ gb191)); have NB191_189 := Aside0.mk ((by rw [hg]; exact Nat.ne_of_gt (blk_lt (g := gb189) (o := .cells #[.slice A0_0 l0_0.length c0_0, .slice A0_1 l0_1.length c0_1, .slice A0_2 l0_2.length c0_2, .slice A0_3 l0_3.length c0_3] 44 (0, 0)) (kz BK189.out)) : gb191 ≠ gb189)); replace BK189 := Aside0.mk (blk_below (kz BK189.out) hb); have NB190_191 := Aside0.mk ((by rw [hg]; exact Nat.ne_of_lt (blk_lt (g := gb190) (o := .cells #[.slice none 0 0, .slice none 0 0, .slice none 0 0, .slice none 0 0] 57 (0, 0)) (kz BK190.out)) : gb190 ≠ gb191)); have NB191_190 := Aside0.mk ((by rw [hg]; exact Nat.ne_of_gt (blk_lt (g := gb190) (o := .cells #[.slice none 0 0, .slice none 0 0, .slice none 0 0, .slice none 0 0] 57 (0, 0)) (kz BK190.out)) : gb191 ≠ gb190)); replace BK190 := Aside0.mk (blk_below (kz BK190.out) hb); clear hb hbox hg; have hnb9 := NB189_190.out; have hnc9 := NB190_189.out; have hnb10 := NB189_191.out; have hnc10 := NB191_189.out; obtain ⟨hcz11_0, hcz11_1, hcz11_2, hcz11_3⟩ := cz4 BK189.out; obtain ⟨hfz11_0, hfz11_1, hfz11_2, hfz11_3⟩ := fz4 BK189.out) | ((with_reducible refine gate_callee (f := 39) rfl ?_); refine goesL_ (some 6) rfl rfl Try.func39 (by kernel_rfl) rfl #[.slice A0_0 l0_0.length c0_0] rfl lz ?_; (with_reducible refine (laws_toEnvCellS.calls k _ _ l0_0 t192 _ ?side1 ?side2 A2.out).mono ?_); (case side1 => exact cz (Kd.C_below HR0_0.out HB.out)); (case side2 => exact HC0_0.out); rintro e w12 ⟨v193, rfl, ho0, hb⟩; refine ⟨_, rfl, ?_⟩; have HO194 := Aside0.mk (Kd.R_lower ho0 (below_size (bz3 HB.out GE189.out GE190.out GE191.out))); replace BK189 := Aside0.mk (blk_below (kz BK189.out) hb); replace BK190 := Aside0.mk (blk_below (kz BK190.out) hb); replace BK191 := Aside0.mk (blk_below (kz BK191.out) hb); replace HB := Aside0.mk (below_step (bz3 HB.out GE189.out GE190.out GE191.out) hb); (try clear hb); (try clear hk); (try clear ho0); obtain ⟨Ao13, co13, eo13⟩ := Kd.R_slice HO194.out; subst eo13; have hnb14 := NB191_190.out; have hnc14 := NB190_191.out; obtain ⟨hcz15_0, hcz15_1, hcz15_2, hcz15_3⟩ := cz4 BK191.out; obtain ⟨hfz15_0, hfz15_1, hfz15_2, hfz15_3⟩ := fz4 BK191.out; obtain ⟨hcz16_0, hcz16_1, hcz16_2, hcz16_3⟩ := cz4 BK189.out; obtain ⟨hfz16_0, hfz16_1, hfz16_2, hfz16_3⟩ := fz4 BK189.out) | ((with_reducible refine gate_callee (f := 40) rfl ?_); refine goesL_ (some 10) rfl rfl Try.func40 (by kernel_rfl) rfl #[.slice A0_1 l0_1.length c0_1] rfl lz ?_; (with_reducible refine (laws_toCloS.calls k _ _ l0_1 t195 _ ?side1 ?side2 A3.out).mono ?_); (case side1 => exact Kd.C_below HR0_1.out (bz3 HB.out GE189.out GE190.out GE191.out)); (case side2 => exact HC0_1.out); rintro e w17 ⟨v196, rfl, ho0, hb⟩; refine ⟨_, rfl, ?_⟩; replace HO194 := Aside0.mk (Kd.R_below (by refine rq ?_; exact (Kd.R_mono (Kd.R_far (p := ⟨gb191, 0, none⟩) (Kd.R_types HO194.out BK191.out (by decide)) (fun _ hk => hk.2) (.slice Ao13 t192.length co13)) (fun _ h_ => h_.1))) hb); have HO197 := Aside0.mk (Kd.R_lower ho0 (below_size (bz3 HB.out GE189.out GE190.out GE191.out))); replace BK189 := Aside0.mk (blk_below (g := gb189) (o := .cells #[.slice A0_0 l0_0.length c0_0, .slice A0_1 l0_1.length c0_1, .slice A0_2 l0_2.length c0_2, .slice A0_3 l0_3.length c0_3] 44 (0, 0)) (by refine kq ?_; refine blk_far ?_ NB189_191.out _; refine kq ?_; exact BK189.out) hb); replace BK190 := Aside0.mk (blk_below (g := gb190) (o := .cells #[.slice none 0 0, .slice none 0 0, .slice none 0 0, .slice none 0 0] 57 (0, 0)) (by refine kq ?_; refine blk_far ?_ NB190_191.out _; refine kq ?_; exact BK190.out) hb); replace BK191 := Aside0.mk (blk_below (g := gb191) (o := .cells #[.slice Ao13 t192.length co13, .slice none 0 0, .slice none 0 0, .slice none 0 0] 57 (0, 0)) (by refine kq ?_; refine blk_put (cs := #[.slice none 0 0, .slice none 0 0, .slice none 0 0, .slice none 0 0]) ?_ 0 _ rfl; refine kq ?_; exact BK191.out) hb); replace HB := Aside0.mk (below_step (bz3 HB.out GE189.out GE190.out GE191.out) hb); (try clear hb); (try clear hk); (try clear ho0); obtain ⟨Ao18, co18, eo18⟩ := Kd.R_slice HO197.out; subst eo18; obtain ⟨hcz19_0, hcz19_1, hcz19_2, hcz19_3⟩ := cz4 BK191.out; obtain ⟨hfz19_0, hfz19_1, hfz19_2, hfz19_3⟩ := fz4 BK191.out; obtain ⟨hcz20_0, hcz20_1, hcz20_2, hcz20_3⟩ := cz4 BK189.out; obtain ⟨hfz20_0, hfz20_1, hfz20_2, hfz20_3⟩ := fz4 BK189.out) | ((with_reducible refine gate_callee (f := 41) rfl ?_); refine goesL_ (some 14) rfl rfl Try.func41 (by kernel_rfl) rfl #[.slice A0_2 l0_2.length c0_2] rfl lz ?_; (with_reducible refine (laws_toTwoS.calls k _ _ l0_2 t198 _ ?side1 ?side2 A4.out).mono ?_); (case side1 => exact Kd.C_below HR0_2.out (bz3 HB.out GE189.out GE190.out GE191.out)); (case side2 => exact HC0_2.out); rintro e w21 ⟨v199, rfl, ho0, hb⟩; refine ⟨_, rfl, ?_⟩; replace HO194 := Aside0.mk (Kd.R_below (by refine rq ?_; exact (Kd.R_mono (Kd.R_far (p := ⟨gb191, 1, none⟩) (Kd.R_types HO194.out BK191.out (by decide)) (fun _ hk => hk.2) (.slice Ao18 t195.length co18)) (fun _ h_ => h_.1))) hb); replace HO197 := Aside0.mk (Kd.R_below (by refine rq ?_; exact (Kd.R_mono (Kd.R_far (p := ⟨gb191, 1, none⟩) (Kd.R_types HO197.out BK191.out (by decide)) (fun _ hk => hk.2) (.slice Ao18 t195.length co18)) (fun _ h_ => h_.1))) hb); have HO200 := Aside0.mk (Kd.R_lower ho0 (below_size (bz3 HB.out GE189.out GE190.out GE191.out))); replace BK189 := Aside0.mk (blk_below (g := gb189) (o := .cells #[.slice A0_0 l0_0.length c0_0, .slice A0_1 l0_1.length c0_1, .slice A0_2 l0_2.length c0_2, .slice A0_3 l0_3.length c0_3] 44 (0, 0)) (by refine kq ?_; refine blk_far ?_ NB189_191.out _; refine kq ?_; exact BK189.out) hb); replace BK190 := Aside0.mk (blk_below (g := gb190) (o := .cells #[.slice none 0 0, .slice none 0 0, .slice none 0 0, .slice none 0 0] 57 (0, 0)) (by refine kq ?_; refine blk_far ?_ NB190_191.out _; refine kq ?_; exact BK190.out) hb); replace BK191 := Aside0.mk (blk_below (g := gb191) (o := .cells #[.slice Ao13 t192.length co13, .slice Ao18 t195.length co18, .slice none 0 0, .slice none 0 0] 57 (0, 0)) (by refine kq ?_; refine blk_put (cs := #[.slice Ao13 t192.length co13, .slice none 0 0, .slice none 0 0, .slice none 0 0]) ?_ 1 _ rfl; refine kq ?_; exact BK191.out) hb); replace HB := Aside0.mk (below_step (bz3 HB.out GE189.out GE190.out GE191.out) hb); (try clear hb); (try clear hk); (try clear ho0); obtain ⟨Ao22, co22, eo22⟩ := Kd.R_slice HO200.out; subst eo22; obtain ⟨hcz23_0, hcz23_1, hcz23_2, hcz23_3⟩ := cz4 BK191.out; obtain ⟨hfz23_0, hfz23_1, hfz23_2, hfz23_3⟩ := fz4 BK191.out; obtain ⟨hcz24_0, hcz24_1, hcz24_2, hcz24_3⟩ := cz4 BK189.out; obtain ⟨hfz24_0, hfz24_1, hfz24_2, hfz24_3⟩ := fz4 BK189.out) | ((with_reducible refine gate_callee (f := 42) rfl ?_); refine goesL_ (some 18) rfl rfl Try.func42 (by kernel_rfl) rfl #[.slice A0_3 l0_3.length c0_3] rfl lz ?_; (with_reducible refine (laws_toValS.calls k _ _ l0_3 t201 _ ?side1 ?side2 A5.out).mono ?_); (case side1 => exact Kd.C_below HR0_3.out (bz3 HB.out GE189.out GE190.out GE191.out)); (case side2 => exact HC0_3.out); rintro e w25 ⟨v202, rfl, ho0, hb⟩; refine ⟨_, rfl, ?_⟩; replace HO194 := Aside0.mk (Kd.R_below (by refine rq ?_; exact (Kd.R_mono (Kd.R_far (p := ⟨gb191, 2, none⟩) (Kd.R_types HO194.out BK191.out (by decide)) (fun _ hk => hk.2) (.slice Ao22 t198.length co22)) (fun _ h_ => h_.1))) hb); replace HO197 := Aside0.mk (Kd.R_below (by refine rq ?_; exact (Kd.R_mono (Kd.R_far (p := ⟨gb191, 2, none⟩) (Kd.R_types HO197.out BK191.out (by decide)) (fun _ hk => hk.2) (.slice Ao22 t198.length co22)) (fun _ h_ => h_.1))) hb); replace HO200 := Aside0.mk (Kd.R_below (by refine rq ?_; exact (Kd.R_mono (Kd.R_far (p := ⟨gb191, 2, none⟩) (Kd.R_types HO200.out BK191.out (by decide)) (fun _ hk => hk.2) (.slice Ao22 t198.length co22)) (fun _ h_ => h_.1))) hb); have HO203 := Aside0.mk (Kd.R_lower ho0 (below_size (bz3 HB.out GE189.out GE190.out GE191.out))); replace BK189 := Aside0.mk (blk_below (g := gb189) (o := .cells #[.slice A0_0 l0_0.length c0_0, .slice A0_1 l0_1.length c0_1, .slice A0_2 l0_2.length c0_2, .slice A0_3 l0_3.length c0_3] 44 (0, 0)) (by refine kq ?_; refine blk_far ?_ NB189_191.out _; refine kq ?_; exact BK189.out) hb); replace BK190 := Aside0.mk (blk_below (g := gb190) (o := .cells #[.slice none 0 0, .slice none 0 0, .slice none 0 0, .slice none 0 0] 57 (0, 0)) (by refine kq ?_; refine blk_far ?_ NB190_191.out _; refine kq ?_; exact BK190.out) hb); replace BK191 := Aside0.mk (blk_below (g := gb191) (o := .cells #[.slice Ao13 t192.length co13, .slice Ao18 t195.length co18, .slice Ao22 t198.length co22, .slice none 0 0] 57 (0, 0)) (by refine kq ?_; refine blk_put (cs := #[.slice Ao13 t192.length co13, .slice Ao18 t195.length co18, .slice none 0 0, .slice none 0 0]) ?_ 2 _ rfl; refine kq ?_; exact BK191.out) hb); replace HB := Aside0.mk (below_step (bz3 HB.out GE189.out GE190.out GE191.out) hb); (try clear hb); (try clear hk); (try clear ho0); obtain ⟨Ao26, co26, eo26⟩ := Kd.R_slice HO203.out; subst eo26; obtain ⟨hcz27_0, hcz27_1, hcz27_2, hcz27_3⟩ := cz4 BK191.out; obtain ⟨hfz27_0, hfz27_1, hfz27_2, hfz27_3⟩ := fz4 BK191.out; obtain ⟨hcz28_0, hcz28_1, hcz28_2, hcz28_3⟩ := cz4 BK190.out; obtain ⟨hfz28_0, hfz28_1, hfz28_2, hfz28_3⟩ := fz4 BK190.out))
 refine bodyPost_ret (results_cell_row rfl _ _ gb190 57 #[.slice Ao13 t192.length co13, .slice Ao18 t195.length co18, .slice Ao22 t198.length co22, .slice Ao26 t201.length co26] (0, 0) _ rfl (by refine kq ?_; refine blk_put (cs := #[.slice Ao13 t192.length co13, .slice Ao18 t195.length co18, .slice Ao22 t198.length co22, .slice none 0 0]) ?_ 3 _ rfl; refine kq ?_; refine blk_put (cs := #[.slice Ao13 t192.length co13, .slice Ao18 t195.length co18, .slice none 0 0, .slice none 0 0]) ?_ 2 _ rfl; refine kq ?_; refine blk_put (cs := #[.slice Ao13 t192.length co13, .slice none 0 0, .slice none 0 0, .slice none 0 0]) ?_ 1 _ rfl; refine kq ?_; refine blk_put (cs := #[.slice none 0 0, .slice none 0 0, .slice none 0 0, .slice none 0 0]) ?_ 0 _ rfl; refine kq ?_; refine blk_far ?_ NB190_191.out _; refine kq ?_; exact BK190.out) Try.underlying57 rfl (by kernel_rfl)) rfl ?_
 exact ⟨_, _, _, _, gz, by refine rq ?_; first | (with_reducible exact Kd.R_mono (Kd.R_far (p := ⟨gb190, 3, none⟩) (Kd.R_far (p := ⟨gb190, 2, none⟩) (Kd.R_far (p := ⟨gb190, 1, none⟩) (Kd.R_far (p := ⟨gb190, 0, none⟩) (Kd.R_far (p := ⟨gb191, 3, none⟩) (Kd.R_types (Kd.R_types HO194.out BK191.out (by decide)) BK190.out (by decide)) (fun _ hk => hk.1.2) (.slice Ao26 t201.length co26)) (fun _ hk => hk.2) (.slice Ao13 t192.length co13)) (fun _ hk => hk.2) (.slice Ao18 t195.length co18)) (fun _ hk => hk.2) (.slice Ao22 t198.length co22)) (fun _ hk => hk.2) (.slice Ao26 t201.length co26)) (fun _ hk => trivial)) | (with_reducible exact Kd.R_mono (Kd.R_far (p := ⟨gb190, 3, none⟩) (Kd.R_drewN (Kd.R_far (p := ⟨gb190, 2, none⟩) (Kd.R_far (p := ⟨gb190, 1, none⟩) (Kd.R_far (p := ⟨gb190, 0, none⟩) (Kd.R_far (p := ⟨gb191, 3, none⟩) (Kd.R_types (Kd.R_types HO194.out BK191.out (by decide)) BK190.out (by decide)) (fun _ hk => hk.1.2) (.slice Ao26 t201.length co26)) (fun _ hk => hk.2) (.slice Ao13 t192.length co13)) (fun _ hk => hk.2) (.slice Ao18 t195.length co18)) (fun _ hk => hk.2) (.slice Ao22 t198.length co22)) _) (fun _ hk => hk.2) (.slice Ao26 t201.length co26)) (fun _ hk => trivial)) | exact Kd.R_mono (Kd.R_far (p := ⟨gb190, 3, none⟩) (Kd.R_drewN (Kd.R_far (p := ⟨gb190, 2, none⟩) (Kd.R_far (p := ⟨gb190, 1, none⟩) (Kd.R_far (p := ⟨gb190, 0, none⟩) (Kd.R_far (p := ⟨gb191, 3, none⟩) (Kd.R_types (Kd.R_types HO194.out BK191.out (by decide)) BK190.out (by decide)) (fun _ hk => hk.1.2) (.slice Ao26 t201.length co26)) (fun _ hk => hk.2) (.slice Ao13 t192.length co13)) (fun _ hk => hk.2) (.slice Ao18 t195.length co18)) (fun _ hk => hk.2) (.slice Ao22 t198.length co22)) _) (fun _ hk => hk.2) (.slice Ao26 t201.length co26)) (fun _ hk => trivial), by refine rq ?_; first | (with_reducible exact Kd.R_mono (Kd.R_far (p := ⟨gb190, 3, none⟩) (Kd.R_far (p := ⟨gb190, 2, none⟩) (Kd.R_far (p := ⟨gb190, 1, none⟩) (Kd.R_far (p := ⟨gb190, 0, none⟩) (Kd.R_far (p := ⟨gb191, 3, none⟩) (Kd.R_types (Kd.R_types HO197.out BK191.out (by decide)) BK190.out (by decide)) (fun _ hk => hk.1.2) (.slice Ao26 t201.length co26)) (fun _ hk => hk.2) (.slice Ao13 t192.length co13)) (fun _ hk => hk.2) (.slice Ao18 t195.length co18)) (fun _ hk => hk.2) (.slice Ao22 t198.length co22)) (fun _ hk => hk.2) (.slice Ao26 t201.length co26)) (fun _ hk => trivial)) | (with_reducible exact Kd.R_mono (Kd.R_far (p := ⟨gb190, 3, none⟩) (Kd.R_drewN (Kd.R_far (p := ⟨gb190, 2, none⟩) (Kd.R_far (p := ⟨gb190, 1, none⟩) (Kd.R_far (p := ⟨gb190, 0, none⟩) (Kd.R_far (p := ⟨gb191, 3, none⟩) (Kd.R_types (Kd.R_types HO197.out BK191.out (by decide)) BK190.out (by decide)) (fun _ hk => hk.1.2) (.slice Ao26 t201.length co26)) (fun _ hk => hk.2) (.slice Ao13 t192.length co13)) (fun _ hk => hk.2) (.slice Ao18 t195.length co18)) (fun _ hk => hk.2) (.slice Ao22 t198.length co22)) _) (fun _ hk => hk.2) (.slice Ao26 t201.length co26)) (fun _ hk => trivial)) | exact Kd.R_mono (Kd.R_far (p := ⟨gb190, 3, none⟩) (Kd.R_drewN (Kd.R_far (p := ⟨gb190, 2, none⟩) (Kd.R_far (p := ⟨gb190, 1, none⟩) (Kd.R_far (p := ⟨gb190, 0, none⟩) (Kd.R_far (p := ⟨gb191, 3, none⟩) (Kd.R_types (Kd.R_types HO197.out BK191.out (by decide)) BK190.out (by decide)) (fun _ hk => hk.1.2) (.slice Ao26 t201.length co26)) (fun _ hk => hk.2) (.slice Ao13 t192.length co13)) (fun _ hk => hk.2) (.slice Ao18 t195.length co18)) (fun _ hk => hk.2) (.slice Ao22 t198.length co22)) _) (fun _ hk => hk.2) (.slice Ao26 t201.length co26)) (fun _ hk => trivial), by refine rq ?_; first | (with_reducible exact Kd.R_mono (Kd.R_far (p := ⟨gb190, 3, none⟩) (Kd.R_far (p := ⟨gb190, 2, none⟩) (Kd.R_far (p := ⟨gb190, 1, none⟩) (Kd.R_far (p := ⟨gb190, 0, none⟩) (Kd.R_far (p := ⟨gb191, 3, none⟩) (Kd.R_types (Kd.R_types HO200.out BK191.out (by decide)) BK190.out (by decide)) (fun _ hk => hk.1.2) (.slice Ao26 t201.length co26)) (fun _ hk => hk.2) (.slice Ao13 t192.length co13)) (fun _ hk => hk.2) (.slice Ao18 t195.length co18)) (fun _ hk => hk.2) (.slice Ao22 t198.length co22)) (fun _ hk => hk.2) (.slice Ao26 t201.length co26)) (fun _ hk => trivial)) | (with_reducible exact Kd.R_mono (Kd.R_far (p := ⟨gb190, 3, none⟩) (Kd.R_drewN (Kd.R_far (p := ⟨gb190, 2, none⟩) (Kd.R_far (p := ⟨gb190, 1, none⟩) (Kd.R_far (p := ⟨gb190, 0, none⟩) (Kd.R_far (p := ⟨gb191, 3, none⟩) (Kd.R_types (Kd.R_types HO200.out BK191.out (by decide)) BK190.out (by decide)) (fun _ hk => hk.1.2) (.slice Ao26 t201.length co26)) (fun _ hk => hk.2) (.slice Ao13 t192.length co13)) (fun _ hk => hk.2) (.slice Ao18 t195.length co18)) (fun _ hk => hk.2) (.slice Ao22 t198.length co22)) _) (fun _ hk => hk.2) (.slice Ao26 t201.length co26)) (fun _ hk => trivial)) | exact Kd.R_mono (Kd.R_far (p := ⟨gb190, 3, none⟩) (Kd.R_drewN (Kd.R_far (p := ⟨gb190, 2, none⟩) (Kd.R_far (p := ⟨gb190, 1, none⟩) (Kd.R_far (p := ⟨gb190, 0, none⟩) (Kd.R_far (p := ⟨gb191, 3, none⟩) (Kd.R_types (Kd.R_types HO200.out BK191.out (by decide)) BK190.out (by decide)) (fun _ hk => hk.1.2) (.slice Ao26 t201.length co26)) (fun _ hk => hk.2) (.slice Ao13 t192.length co13)) (fun _ hk => hk.2) (.slice Ao18 t195.length co18)) (fun _ hk => hk.2) (.slice Ao22 t198.length co22)) _) (fun _ hk => hk.2) (.slice Ao26 t201.length co26)) (fun _ hk => trivial), by refine rq ?_; first | (with_reducible exact Kd.R_mono (Kd.R_far (p := ⟨gb190, 3, none⟩) (Kd.R_far (p := ⟨gb190, 2, none⟩) (Kd.R_far (p := ⟨gb190, 1, none⟩) (Kd.R_far (p := ⟨gb190, 0, none⟩) (Kd.R_far (p := ⟨gb191, 3, none⟩) (Kd.R_types (Kd.R_types HO203.out BK191.out (by decide)) BK190.out (by decide)) (fun _ hk => hk.1.2) (.slice Ao26 t201.length co26)) (fun _ hk => hk.2) (.slice Ao13 t192.length co13)) (fun _ hk => hk.2) (.slice Ao18 t195.length co18)) (fun _ hk => hk.2) (.slice Ao22 t198.length co22)) (fun _ hk => hk.2) (.slice Ao26 t201.length co26)) (fun _ hk => trivial)) | (with_reducible exact Kd.R_mono (Kd.R_far (p := ⟨gb190, 3, none⟩) (Kd.R_drewN (Kd.R_far (p := ⟨gb190, 2, none⟩) (Kd.R_far (p := ⟨gb190, 1, none⟩) (Kd.R_far (p := ⟨gb190, 0, none⟩) (Kd.R_far (p := ⟨gb191, 3, none⟩) (Kd.R_types (Kd.R_types HO203.out BK191.out (by decide)) BK190.out (by decide)) (fun _ hk => hk.1.2) (.slice Ao26 t201.length co26)) (fun _ hk => hk.2) (.slice Ao13 t192.length co13)) (fun _ hk => hk.2) (.slice Ao18 t195.length co18)) (fun _ hk => hk.2) (.slice Ao22 t198.length co22)) _) (fun _ hk => hk.2) (.slice Ao26 t201.length co26)) (fun _ hk => trivial)) | exact Kd.R_mono (Kd.R_far (p := ⟨gb190, 3, none⟩) (Kd.R_drewN (Kd.R_far (p := ⟨gb190, 2, none⟩) (Kd.R_far (p := ⟨gb190, 1, none⟩) (Kd.R_far (p := ⟨gb190, 0, none⟩) (Kd.R_far (p := ⟨gb191, 3, none⟩) (Kd.R_types (Kd.R_types HO203.out BK191.out (by decide)) BK190.out (by decide)) (fun _ hk => hk.1.2) (.slice Ao26 t201.length co26)) (fun _ hk => hk.2) (.slice Ao13 t192.length co13)) (fun _ hk => hk.2) (.slice Ao18 t195.length co18)) (fun _ hk => hk.2) (.slice Ao22 t198.length co22)) _) (fun _ hk => hk.2) (.slice Ao26 t201.length co26)) (fun _ hk => trivial), (bz3 HB.out GE189.out GE190.out GE191.out)⟩
def laws_toBind.f (a0_0 : Int) (a0_1 : Int) : Option (Int × Int) := some (a0_0, a0_1)
set_option maxHeartbeats 8000000 in
set_option maxRecDepth 100000 in
theorem laws_toBind.calls (a0_0 : Int) (a0_1 : Int) (r1 : Int) (r2 : Int) (w : World) (h : laws_toBind.f a0_0 a0_1 = some (r1, r2)) :
  Calls Try.prog 21 #[.agg #[.int .i64 a0_0, .int .i64 a0_1]] w fun e w' => e = .returned (.agg #[.int .i64 r1, .int .i64 r2]) /\ Below w.heap.size w w' := by
 have hu46 := Try.underlying46
 have hu59 := Try.underlying59
 have HB := Aside0.mk (Below.refl w.heap.size w)
 have H : (some (a0_0, a0_1)) = some (r1, r2) := h
 clear h
 simp only [Option.some.injEq, Prod.mk.injEq] at H
 obtain ⟨rfl, rfl⟩ := H
 go_enter Try.func21, Try.ntmps21
 go_wp2_with (first | ((with_reducible refine gate_dst (N := 1) rfl ?_); refine box_event ?hg (N := 1) ?hd (cs := #[.int .i64 a0_0, .int .i64 a0_1]) (t := 46) ?hr ?_; (case hd => rfl); (case hg => rfl); (case hr => exact vz); intro gb204 hg w2 hbox hb; have BK204 := Aside0.mk (hbox); have GW204 := Aside0.mk ((by rw [hg]; exact (below_size (bz0 HB.out)) : w.heap.size <= gb204)); have GE204 := Aside0.mk ((by rw [hg]; exact (below_size (bz0 HB.out)) : w.heap.size <= gb204)); replace HB := Aside0.mk (below_step (bz0 HB.out) hb); clear hb hbox hg) | ((with_reducible refine gate_dst (N := 2) rfl ?_); refine box_event ?hg (N := 2) ?hd (cs := #[.int .i64 0, .int .i64 0]) (t := 59) ?hr ?_; (case hd => rfl); (case hg => rfl); (case hr => exact vz); intro gb205 hg w3 hbox hb; have BK205 := Aside0.mk (hbox); have GW205 := Aside0.mk ((by rw [hg]; exact (below_size (bz1 HB.out GE204.out)) : w.heap.size <= gb205)); have GE205 := Aside0.mk ((by rw [hg]; exact (below_size (bz1 HB.out GE204.out)) : w.heap.size <= gb205)); replace HB := Aside0.mk (below_step (bz1 HB.out GE204.out) hb); have NB204_205 := Aside0.mk ((by rw [hg]; exact Nat.ne_of_lt (blk_lt (g := gb204) (o := .cells #[.int .i64 a0_0, .int .i64 a0_1] 46 (0, 0)) (kz BK204.out)) : gb204 ≠ gb205)); have NB205_204 := Aside0.mk ((by rw [hg]; exact Nat.ne_of_gt (blk_lt (g := gb204) (o := .cells #[.int .i64 a0_0, .int .i64 a0_1] 46 (0, 0)) (kz BK204.out)) : gb205 ≠ gb204)); replace BK204 := Aside0.mk (blk_below (kz BK204.out) hb); clear hb hbox hg) | ((with_reducible refine gate_dst (N := 3) rfl ?_); refine box_event ?hg (N := 3) ?hd (cs := #[.int .i64 0, .int .i64 0]) (t := 59) ?hr ?_; (case hd => rfl); (case hg => rfl); (case hr => exact vz); intro gb206 hg w4 hbox hb; have BK206 := Aside0.mk (hbox); have GW206 := Aside0.mk ((by rw [hg]; exact (below_size (bz2 HB.out GE204.out GE205.out)) : w.heap.size <= gb206)); have GE206 := Aside0.mk ((by rw [hg]; exact (below_size (bz2 HB.out GE204.out GE205.out)) : w.heap.size <= gb206)); replace HB := Aside0.mk (below_step (bz2 HB.out GE204.out GE205.out) hb); have NB204_206 := Aside0.mk ((by rw [hg]; exact Nat.ne_of_lt (blk_lt (g := gb204) (o := .cells #[.int .i64 a0_0, .int .i64 a0_1] 46 (0, 0)) (kz BK204.out)) : gb204 ≠ gb206)); have NB206_204 := Aside0.mk ((by rw [hg]; exact Nat.ne_of_gt (blk_lt (g := gb204) (o := .cells #[.int .i64 a0_0, .int .i64 a0_1] 46 (0, 0)) (kz BK204.out)) : gb206 ≠ gb204)); replace BK204 := Aside0.mk (blk_below (kz BK204.out) hb); have NB205_206 := Aside0.mk ((by rw [hg]; exact Nat.ne_of_lt (blk_lt (g := gb205) (o := .cells #[.int .i64 0, .int .i64 0] 59 (0, 0)) (kz BK205.out)) : gb205 ≠ gb206)); have NB206_205 := Aside0.mk ((by rw [hg]; exact Nat.ne_of_gt (blk_lt (g := gb205) (o := .cells #[.int .i64 0, .int .i64 0] 59 (0, 0)) (kz BK205.out)) : gb206 ≠ gb205)); replace BK205 := Aside0.mk (blk_below (kz BK205.out) hb); clear hb hbox hg; have hnb5 := NB204_205.out; have hnc5 := NB205_204.out; have hnb6 := NB204_206.out; have hnc6 := NB206_204.out; obtain ⟨hcz7_0, hcz7_1⟩ := cz2 BK204.out; obtain ⟨hfz7_0, hfz7_1⟩ := fz2 BK204.out; have hnb8 := NB206_205.out; have hnc8 := NB205_206.out; obtain ⟨hcz9_0, hcz9_1⟩ := cz2 BK206.out; obtain ⟨hfz9_0, hfz9_1⟩ := fz2 BK206.out; obtain ⟨hcz10_0, hcz10_1⟩ := cz2 BK205.out; obtain ⟨hfz10_0, hfz10_1⟩ := fz2 BK205.out))
 refine bodyPost_ret (results_cell_row rfl _ _ gb205 59 #[.int .i64 a0_0, .int .i64 a0_1] (0, 0) _ rfl (by refine kq ?_; refine blk_put (cs := #[.int .i64 a0_0, .int .i64 0]) ?_ 1 _ rfl; refine kq ?_; refine blk_put (cs := #[.int .i64 0, .int .i64 0]) ?_ 0 _ rfl; refine kq ?_; refine blk_far ?_ NB205_206.out _; refine kq ?_; refine blk_far ?_ NB205_206.out _; refine kq ?_; exact BK205.out) Try.underlying59 rfl (by kernel_rfl)) rfl ?_
 exact ⟨gz, (bz3 HB.out GE204.out GE205.out GE206.out)⟩
def impl_in.f (a0 : Int) (a1 : Int) (a2 : Int) : Option (Bool) := if a0 ≥ a1 then (some (decide (a0 <= a2))) else (some false)
set_option maxHeartbeats 8000000 in
set_option maxRecDepth 100000 in
theorem impl_in.calls (a0 : Int) (a1 : Int) (a2 : Int) (r : Bool) (w : World) (h : impl_in.f a0 a1 a2 = some r) :
  Calls Try.prog 44 #[.int .i64 a0, .int .i64 a1, .int .i64 a2] w fun e w' => e = .returned (.bool r) /\ Drawn0 w w' := by
 have H : (if a0 ≥ a1 then (some (decide (a0 <= a2))) else (some false)) = some r := h
 clear h
 by_cases c4 : a0 ≥ a1
 ·rw [if_pos c4] at H
  have c4b0 : decide (a1 <= a0) = true := decide_eq_true c4
  clear c4
  obtain rfl := Option.some.inj H
  go_enter Try.func44, Try.ntmps44
  go_wp2
  go_ret
  exact ⟨e2z, dz⟩
 ·rw [if_neg c4] at H
  have c4b0 : decide (a1 <= a0) = false := decide_eq_false c4
  clear c4
  obtain rfl := Option.some.inj H
  go_enter Try.func44, Try.ntmps44
  go_wp2
  go_ret
  exact ⟨e2z, dz⟩
def impl_ValOk.j0 : Nat -> Int -> Bool -> List (S97) -> List (S100) -> List (S102) -> List (S49) -> Int -> Int -> Option (Bool)
 | 0, _, _, _, _, _, _, _, _ => none
 | k + 1, x6, x26, x208000, x208001, x208002, x208003, x209000, x209001 => if x26 = true then ((impl_in.f x209001 0 (wrap64 ((x208002.length : Int) - 1))).bind fun t211 => (some t211)) else (if x6 = 5 then ((impl_in.f x209001 0 (wrap64 ((x208003.length : Int) - 1))).bind fun t212 => (some t212)) else (some false))
def impl_ValOk.f (k : Nat) (l0_0 : List (S97)) (l0_1 : List (S100)) (l0_2 : List (S102)) (l0_3 : List (S49)) (a1_0 : Int) (a1_1 : Int) : Option (Bool) := if a1_0 = 0 then ((impl_in.f a1_1 0 65535).bind fun t209 => (some t209)) else (if a1_0 = 2 then (some (a1_1 == 0)) else (if a1_0 = 1 then ((impl_in.f a1_1 0 (wrap64 ((l0_1.length : Int) - 1))).bind fun t210 => (some t210)) else (if a1_0 = 3 then (impl_ValOk.j0 k a1_0 (a1_0 == 3) l0_0 l0_1 l0_2 l0_3 a1_0 a1_1) else (impl_ValOk.j0 k a1_0 (a1_0 == 4) l0_0 l0_1 l0_2 l0_3 a1_0 a1_1))))
theorem impl_ValOk.mono_l : ∀ k, (∀ y0 y1 y2 y3 y4 y5 y6 y7, LeO (impl_ValOk.j0 k y0 y1 y2 y3 y4 y5 y6 y7) (impl_ValOk.j0 (k + 1) y0 y1 y2 y3 y4 y5 y6 y7))
 | 0 => fun _ _ _ _ _ _ _ _ r h => by simp [impl_ValOk.j0] at h
 | k + 1 => by
  have ih0 := impl_ValOk.mono_l k
  ·intro y0 y1 y2 y3 y4 y5 y6 y7
   unfold impl_ValOk.j0
   with_reducible repeat' first | exact ih0 _ _ _ _ _ _ _ _ | exact lrz _ | exact lnz _ | refine liz ?_ ?_ | refine lbz ?_ fun _ => ?_
theorem impl_ValOk.mono : ∀ a0 a1 a2 a3 a4 a5 k, LeO (impl_ValOk.f k a0 a1 a2 a3 a4 a5) (impl_ValOk.f (k + 1) a0 a1 a2 a3 a4 a5) := by
 intro a0 a1 a2 a3 a4 a5 k
 have ih0 := impl_ValOk.mono_l k
 unfold impl_ValOk.f
 with_reducible repeat' first | exact ih0 _ _ _ _ _ _ _ _ | exact lrz _ | exact lnz _ | refine liz ?_ ?_ | refine lbz ?_ fun _ => ?_
set_option maxHeartbeats 8000000 in
set_option maxRecDepth 100000 in
theorem impl_ValOk.calls (k : Nat) (A0_0 : Option Addr) (c0_0 : Nat) (l0_0 : List (S97)) (A0_1 : Option Addr) (c0_1 : Nat) (l0_1 : List (S100)) (A0_2 : Option Addr) (c0_2 : Nat) (l0_2 : List (S102)) (A0_3 : Option Addr) (c0_3 : Nat) (l0_3 : List (S49)) (a1_0 : Int) (a1_1 : Int) (r : Bool) (w : World) (hr0_0 : Kd.C k97 w A0_0 l0_0.length l0_0) (hc0_0 : l0_0.length <= c0_0) (hr0_1 : Kd.C k100 w A0_1 l0_1.length l0_1) (hc0_1 : l0_1.length <= c0_1) (hr0_2 : Kd.C k102 w A0_2 l0_2.length l0_2) (hc0_2 : l0_2.length <= c0_2) (hr0_3 : Kd.C k49 w A0_3 l0_3.length l0_3) (hc0_3 : l0_3.length <= c0_3) (h : impl_ValOk.f k l0_0 l0_1 l0_2 l0_3 a1_0 a1_1 = some r) :
  Calls Try.prog 56 #[.agg #[.slice A0_0 l0_0.length c0_0, .slice A0_1 l0_1.length c0_1, .slice A0_2 l0_2.length c0_2, .slice A0_3 l0_3.length c0_3], .agg #[.int .i64 a1_0, .int .i64 a1_1]] w fun e w' => e = .returned (.bool r) /\ Below w.heap.size w w' := by
 have hu57 := Try.underlying57
 have hu49 := Try.underlying49
 have HR0_0 := Aside0.mk hr0_0
 have HC0_0 := Aside0.mk hc0_0
 clear hr0_0 hc0_0
 have HR0_1 := Aside0.mk hr0_1
 have HC0_1 := Aside0.mk hc0_1
 clear hr0_1 hc0_1
 have HR0_2 := Aside0.mk hr0_2
 have HC0_2 := Aside0.mk hc0_2
 clear hr0_2 hc0_2
 have HR0_3 := Aside0.mk hr0_3
 have HC0_3 := Aside0.mk hc0_3
 clear hr0_3 hc0_3
 have HB := Aside0.mk (Below.refl w.heap.size w)
 have H : (if a1_0 = 0 then ((impl_in.f a1_1 0 65535).bind fun t209 => (some t209)) else (if a1_0 = 2 then (some (a1_1 == 0)) else (if a1_0 = 1 then ((impl_in.f a1_1 0 (wrap64 ((l0_1.length : Int) - 1))).bind fun t210 => (some t210)) else (if a1_0 = 3 then (impl_ValOk.j0 k a1_0 (a1_0 == 3) l0_0 l0_1 l0_2 l0_3 a1_0 a1_1) else (impl_ValOk.j0 k a1_0 (a1_0 == 4) l0_0 l0_1 l0_2 l0_3 a1_0 a1_1))))) = some r := h
 clear h
 by_cases c3 : a1_0 = 0
 ·rw [if_pos c3] at H
  have c3b0 : (a1_0 == 0) = true := beq_iff_eq.mpr c3
  have c3b1 : (a1_0 != 0) = false := bne_eq_false_iff_eq.mpr c3
  clear c3
  replace H := bi H
  obtain ⟨t209, A40, H⟩ := H
  try dsimp only at H
  have A4 := Aside0.mk A40
  clear A40
  obtain rfl := Option.some.inj H
  go_enter Try.func56, Try.ntmps56
  go_wp2_with (first | ((with_reducible refine gate_dst (N := 2) rfl ?_); refine box_event ?hg (N := 2) ?hd (cs := #[.slice A0_0 l0_0.length c0_0, .slice A0_1 l0_1.length c0_1, .slice A0_2 l0_2.length c0_2, .slice A0_3 l0_3.length c0_3]) (t := 57) ?hr ?_; (case hd => rfl); (case hg => rfl); (case hr => exact vz); intro gb207 hg w5 hbox hb; have BK207 := Aside0.mk (hbox); have GW207 := Aside0.mk ((by rw [hg]; exact (below_size (bz0 HB.out)) : w.heap.size <= gb207)); have GE207 := Aside0.mk ((by rw [hg]; exact (below_size (bz0 HB.out)) : w.heap.size <= gb207)); replace HB := Aside0.mk (below_step (bz0 HB.out) hb); clear hb hbox hg) | ((with_reducible refine gate_dst (N := 3) rfl ?_); refine box_event ?hg (N := 3) ?hd (cs := #[.int .i64 a1_0, .int .i64 a1_1]) (t := 49) ?hr ?_; (case hd => rfl); (case hg => rfl); (case hr => exact vz); intro gb208 hg w6 hbox hb; have BK208 := Aside0.mk (hbox); have GW208 := Aside0.mk ((by rw [hg]; exact (below_size (bz1 HB.out GE207.out)) : w.heap.size <= gb208)); have GE208 := Aside0.mk ((by rw [hg]; exact (below_size (bz1 HB.out GE207.out)) : w.heap.size <= gb208)); replace HB := Aside0.mk (below_step (bz1 HB.out GE207.out) hb); have NB207_208 := Aside0.mk ((by rw [hg]; exact Nat.ne_of_lt (blk_lt (g := gb207) (o := .cells #[.slice A0_0 l0_0.length c0_0, .slice A0_1 l0_1.length c0_1, .slice A0_2 l0_2.length c0_2, .slice A0_3 l0_3.length c0_3] 57 (0, 0)) (kz BK207.out)) : gb207 ≠ gb208)); have NB208_207 := Aside0.mk ((by rw [hg]; exact Nat.ne_of_gt (blk_lt (g := gb207) (o := .cells #[.slice A0_0 l0_0.length c0_0, .slice A0_1 l0_1.length c0_1, .slice A0_2 l0_2.length c0_2, .slice A0_3 l0_3.length c0_3] 57 (0, 0)) (kz BK207.out)) : gb208 ≠ gb207)); replace BK207 := Aside0.mk (blk_below (kz BK207.out) hb); clear hb hbox hg; have hnb7 := NB208_207.out; have hnc7 := NB207_208.out; obtain ⟨hcz8_0, hcz8_1⟩ := cz2 BK208.out; obtain ⟨hfz8_0, hfz8_1⟩ := fz2 BK208.out) | ((with_reducible refine gate_callee (f := 44) rfl ?_); refine goesL_ (some 11) rfl rfl Try.func44 (by kernel_rfl) rfl #[.int .i64 a1_1, .int .i64 0, .int .i64 65535] rfl lz ?_; (with_reducible refine (impl_in.calls a1_1 0 65535 t209 _ A4.out).mono ?_); rintro e w' ⟨rfl, ⟨nd, rfl⟩⟩; refine ⟨_, rfl, ?_⟩))
  go_ret
  exact ⟨gz, (bz2 HB.out GE207.out GE208.out)⟩
 ·rw [if_neg c3] at H
  have c3b0 : (a1_0 == 0) = false := beq_eq_false_iff_ne.mpr c3
  have c3b1 : (a1_0 != 0) = true := bne_iff_ne.mpr c3
  by_cases c9 : a1_0 = 2
  ·rw [if_pos c9] at H
   have c9b0 : (a1_0 == 2) = true := beq_iff_eq.mpr c9
   have c9b1 : (a1_0 != 2) = false := bne_eq_false_iff_eq.mpr c9
   clear c9
   obtain rfl := Option.some.inj H
   go_enter Try.func56, Try.ntmps56
   go_wp2_with (first | ((with_reducible refine gate_dst (N := 2) rfl ?_); refine box_event ?hg (N := 2) ?hd (cs := #[.slice A0_0 l0_0.length c0_0, .slice A0_1 l0_1.length c0_1, .slice A0_2 l0_2.length c0_2, .slice A0_3 l0_3.length c0_3]) (t := 57) ?hr ?_; (case hd => rfl); (case hg => rfl); (case hr => exact vz); intro gb207 hg w10 hbox hb; have BK207 := Aside0.mk (hbox); have GW207 := Aside0.mk ((by rw [hg]; exact (below_size (bz0 HB.out)) : w.heap.size <= gb207)); have GE207 := Aside0.mk ((by rw [hg]; exact (below_size (bz0 HB.out)) : w.heap.size <= gb207)); replace HB := Aside0.mk (below_step (bz0 HB.out) hb); clear hb hbox hg) | ((with_reducible refine gate_dst (N := 3) rfl ?_); refine box_event ?hg (N := 3) ?hd (cs := #[.int .i64 a1_0, .int .i64 a1_1]) (t := 49) ?hr ?_; (case hd => rfl); (case hg => rfl); (case hr => exact vz); intro gb208 hg w11 hbox hb; have BK208 := Aside0.mk (hbox); have GW208 := Aside0.mk ((by rw [hg]; exact (below_size (bz1 HB.out GE207.out)) : w.heap.size <= gb208)); have GE208 := Aside0.mk ((by rw [hg]; exact (below_size (bz1 HB.out GE207.out)) : w.heap.size <= gb208)); replace HB := Aside0.mk (below_step (bz1 HB.out GE207.out) hb); have NB207_208 := Aside0.mk ((by rw [hg]; exact Nat.ne_of_lt (blk_lt (g := gb207) (o := .cells #[.slice A0_0 l0_0.length c0_0, .slice A0_1 l0_1.length c0_1, .slice A0_2 l0_2.length c0_2, .slice A0_3 l0_3.length c0_3] 57 (0, 0)) (kz BK207.out)) : gb207 ≠ gb208)); have NB208_207 := Aside0.mk ((by rw [hg]; exact Nat.ne_of_gt (blk_lt (g := gb207) (o := .cells #[.slice A0_0 l0_0.length c0_0, .slice A0_1 l0_1.length c0_1, .slice A0_2 l0_2.length c0_2, .slice A0_3 l0_3.length c0_3] 57 (0, 0)) (kz BK207.out)) : gb208 ≠ gb207)); replace BK207 := Aside0.mk (blk_below (kz BK207.out) hb); clear hb hbox hg; have hnb12 := NB208_207.out; have hnc12 := NB207_208.out; obtain ⟨hcz13_0, hcz13_1⟩ := cz2 BK208.out; obtain ⟨hfz13_0, hfz13_1⟩ := fz2 BK208.out))
   go_ret
   exact ⟨gz, (bz2 HB.out GE207.out GE208.out)⟩
  ·rw [if_neg c9] at H
   have c9b0 : (a1_0 == 2) = false := beq_eq_false_iff_ne.mpr c9
   have c9b1 : (a1_0 != 2) = true := bne_iff_ne.mpr c9
   by_cases c14 : a1_0 = 1
   ·rw [if_pos c14] at H
    have c14b0 : (a1_0 == 1) = true := beq_iff_eq.mpr c14
    have c14b1 : (a1_0 != 1) = false := bne_eq_false_iff_eq.mpr c14
    clear c14
    replace H := bi H
    obtain ⟨t210, A150, H⟩ := H
    try dsimp only at H
    have A15 := Aside0.mk A150
    clear A150
    obtain rfl := Option.some.inj H
    go_enter Try.func56, Try.ntmps56
    go_wp2_with (first | ((with_reducible refine gate_dst (N := 2) rfl ?_); refine box_event ?hg (N := 2) ?hd (cs := #[.slice A0_0 l0_0.length c0_0, .slice A0_1 l0_1.length c0_1, .slice A0_2 l0_2.length c0_2, .slice A0_3 l0_3.length c0_3]) (t := 57) ?hr ?_; (case hd => rfl); (case hg => rfl); (case hr => exact vz); intro gb207 hg w16 hbox hb; have BK207 := Aside0.mk (hbox); have GW207 := Aside0.mk ((by rw [hg]; exact (below_size (bz0 HB.out)) : w.heap.size <= gb207)); have GE207 := Aside0.mk ((by rw [hg]; exact (below_size (bz0 HB.out)) : w.heap.size <= gb207)); replace HB := Aside0.mk (below_step (bz0 HB.out) hb); clear hb hbox hg) | ((with_reducible refine gate_dst (N := 3) rfl ?_); refine box_event ?hg (N := 3) ?hd (cs := #[.int .i64 a1_0, .int .i64 a1_1]) (t := 49) ?hr ?_; (case hd => rfl); (case hg => rfl); (case hr => exact vz); intro gb208 hg w17 hbox hb; have BK208 := Aside0.mk (hbox); have GW208 := Aside0.mk ((by rw [hg]; exact (below_size (bz1 HB.out GE207.out)) : w.heap.size <= gb208)); have GE208 := Aside0.mk ((by rw [hg]; exact (below_size (bz1 HB.out GE207.out)) : w.heap.size <= gb208)); replace HB := Aside0.mk (below_step (bz1 HB.out GE207.out) hb); have NB207_208 := Aside0.mk ((by rw [hg]; exact Nat.ne_of_lt (blk_lt (g := gb207) (o := .cells #[.slice A0_0 l0_0.length c0_0, .slice A0_1 l0_1.length c0_1, .slice A0_2 l0_2.length c0_2, .slice A0_3 l0_3.length c0_3] 57 (0, 0)) (kz BK207.out)) : gb207 ≠ gb208)); have NB208_207 := Aside0.mk ((by rw [hg]; exact Nat.ne_of_gt (blk_lt (g := gb207) (o := .cells #[.slice A0_0 l0_0.length c0_0, .slice A0_1 l0_1.length c0_1, .slice A0_2 l0_2.length c0_2, .slice A0_3 l0_3.length c0_3] 57 (0, 0)) (kz BK207.out)) : gb208 ≠ gb207)); replace BK207 := Aside0.mk (blk_below (kz BK207.out) hb); clear hb hbox hg; have hnb18 := NB208_207.out; have hnc18 := NB207_208.out; obtain ⟨hcz19_0, hcz19_1⟩ := cz2 BK208.out; obtain ⟨hfz19_0, hfz19_1⟩ := fz2 BK208.out; obtain ⟨hcz20_0, hcz20_1, hcz20_2, hcz20_3⟩ := cz4 BK207.out; obtain ⟨hfz20_0, hfz20_1, hfz20_2, hfz20_3⟩ := fz4 BK207.out) | ((with_reducible refine gate_callee (f := 44) rfl ?_); refine goesL_ (some 25) rfl rfl Try.func44 (by kernel_rfl) rfl #[.int .i64 a1_1, .int .i64 0, .int .i64 (wrap64 ((l0_1.length : Int) - 1))] rfl lz ?_; (with_reducible refine (impl_in.calls a1_1 0 (wrap64 ((l0_1.length : Int) - 1)) t210 _ A15.out).mono ?_); rintro e w' ⟨rfl, ⟨nd, rfl⟩⟩; refine ⟨_, rfl, ?_⟩))
    go_ret
    exact ⟨gz, (bz2 HB.out GE207.out GE208.out)⟩
   ·rw [if_neg c14] at H
    have c14b0 : (a1_0 == 1) = false := beq_eq_false_iff_ne.mpr c14
    have c14b1 : (a1_0 != 1) = true := bne_iff_ne.mpr c14
    have HC21 := Aside0.mk H
    clear H
    go_enter Try.func56, Try.ntmps56
    go_upto_if 26 with (first | ((with_reducible refine gate_dst (N := 2) rfl ?_); refine box_event ?hg (N := 2) ?hd (cs := #[.slice A0_0 l0_0.length c0_0, .slice A0_1 l0_1.length c0_1, .slice A0_2 l0_2.length c0_2, .slice A0_3 l0_3.length c0_3]) (t := 57) ?hr ?_; (case hd => rfl); (case hg => rfl); (case hr => exact vz); intro gb207 hg w22 hbox hb; have BK207 := Aside0.mk (hbox); have GW207 := Aside0.mk ((by rw [hg]; exact (below_size (bz0 HB.out)) : w.heap.size <= gb207)); have GE207 := Aside0.mk ((by rw [hg]; exact (below_size (bz0 HB.out)) : w.heap.size <= gb207)); replace HB := Aside0.mk (below_step (bz0 HB.out) hb); clear hb hbox hg) | ((with_reducible refine gate_dst (N := 3) rfl ?_); refine box_event ?hg (N := 3) ?hd (cs := #[.int .i64 a1_0, .int .i64 a1_1]) (t := 49) ?hr ?_; (case hd => rfl); (case hg => rfl); (case hr => exact vz); intro gb208 hg w23 hbox hb; have BK208 := Aside0.mk (hbox); have GW208 := Aside0.mk ((by rw [hg]; exact (below_size (bz1 HB.out GE207.out)) : w.heap.size <= gb208)); have GE208 := Aside0.mk ((by rw [hg]; exact (below_size (bz1 HB.out GE207.out)) : w.heap.size <= gb208)); replace HB := Aside0.mk (below_step (bz1 HB.out GE207.out) hb); have NB207_208 := Aside0.mk ((by rw [hg]; exact Nat.ne_of_lt (blk_lt (g := gb207) (o := .cells #[.slice A0_0 l0_0.length c0_0, .slice A0_1 l0_1.length c0_1, .slice A0_2 l0_2.length c0_2, .slice A0_3 l0_3.length c0_3] 57 (0, 0)) (kz BK207.out)) : gb207 ≠ gb208)); have NB208_207 := Aside0.mk ((by rw [hg]; exact Nat.ne_of_gt (blk_lt (g := gb207) (o := .cells #[.slice A0_0 l0_0.length c0_0, .slice A0_1 l0_1.length c0_1, .slice A0_2 l0_2.length c0_2, .slice A0_3 l0_3.length c0_3] 57 (0, 0)) (kz BK207.out)) : gb208 ≠ gb207)); replace BK207 := Aside0.mk (blk_below (kz BK207.out) hb); clear hb hbox hg; have hnb24 := NB208_207.out; have hnc24 := NB207_208.out; obtain ⟨hcz25_0, hcz25_1⟩ := cz2 BK208.out; obtain ⟨hfz25_0, hfz25_1⟩ := fz2 BK208.out))
    (try simp only [Act.put, sz1, sz2, sz3])
    go_cut [26] (fun v26 wc => ∃ (kq : Nat) (x26_20 : Bool), v26 = .bool x26_20 /\ Aside0 (impl_ValOk.j0 kq a1_0 x26_20 l0_0 l0_1 l0_2 l0_3 a1_0 a1_1 = some r) /\ Aside0 (kq <= k) /\ Aside0 (wc.heap[gb207]? = some (.cells #[(.slice A0_0 l0_0.length c0_0), (.slice A0_1 l0_1.length c0_1), (.slice A0_2 l0_2.length c0_2), (.slice A0_3 l0_3.length c0_3)] 57 (0, 0))) /\ Aside0 (wc.heap[gb208]? = some (.cells #[.int .i64 a1_0, .int .i64 a1_1] 49 (0, 0))) /\ Aside0 (Below w.heap.size w wc))
    case first =>
     have H := HC21.out
     clear HC21
     by_cases c26 : a1_0 = 3
     ·rw [if_pos c26] at H
      have c26b0 : (a1_0 == 3) = true := beq_iff_eq.mpr c26
      have c26b1 : (a1_0 != 3) = false := bne_eq_false_iff_eq.mpr c26
      clear c26
      (first | rw [c26b0] | (simp only [i64_w, i32_w]; rw [c26b0]) | skip)
      have H' := Aside0.mk H
      clear H
      go_wp2
      go_meet
      case rel => exact ⟨_, ((a1_0 == 3)), ez, H', ⟨by first | omega | exact Nat.le_refl _⟩, ⟨by refine kq ?_; exact BK207.out⟩, ⟨by refine kq ?_; exact BK208.out⟩, ⟨(bz2 HB.out GE207.out GE208.out)⟩⟩
     ·rw [if_neg c26] at H
      have c26b0 : (a1_0 == 3) = false := beq_eq_false_iff_ne.mpr c26
      have c26b1 : (a1_0 != 3) = true := bne_iff_ne.mpr c26
      (first | rw [c26b0] | (simp only [i64_w, i32_w]; rw [c26b0]) | skip)
      have H' := Aside0.mk H
      clear H
      go_wp2
      go_meet
      case rel => exact ⟨_, ((a1_0 == 4)), ez, H', ⟨by first | omega | exact Nat.le_refl _⟩, ⟨by refine kq ?_; exact BK207.out⟩, ⟨by refine kq ?_; exact BK208.out⟩, ⟨(bz2 HB.out GE207.out GE208.out)⟩⟩
    case rest =>
     clear HC21
     try clear c1
     try clear c2
     try clear p2
     try clear c3
     try clear c3b0
     try clear c3b1
     try clear c4
     try clear c5
     try clear p6
     try clear c7
     try clear c9
     try clear c9b0
     try clear c9b1
     try clear c12
     try clear c14
     try clear c14b0
     try clear c14b1
     try clear c18
     try clear c24
     try clear c26
     try clear c26b0
     try clear c26b1
     try clear hcz13_0 hcz13_1
     try clear hcz19_0 hcz19_1
     try clear hcz20_0 hcz20_1 hcz20_2 hcz20_3
     try clear hcz25_0 hcz25_1
     try clear hcz8_0 hcz8_1
     try clear hfz13_0 hfz13_1
     try clear hfz19_0 hfz19_1
     try clear hfz20_0 hfz20_1 hfz20_2 hfz20_3
     try clear hfz25_0 hfz25_1
     try clear hfz8_0 hfz8_1
     obtain ⟨kq, x26_20, rfl, HA, HJ20, BK207, BK208, HB⟩ := hcut
     cases kq with
     | zero => exact absurd HA.out (by simp [impl_ValOk.j0])
     | succ kj20 =>
      have H := HA.out
      clear HA
      simp only [impl_ValOk.j0] at H
      by_cases c27 : x26_20 = true
      ·subst c27
       have H1 := hp H
       clear H
       have H := H1
       clear H1
       replace H := bi H
       obtain ⟨t211, A280, H⟩ := H
       try dsimp only at H
       have A28 := Aside0.mk A280
       clear A280
       obtain rfl := Option.some.inj H
       have hnb29 := NB208_207.out
       have hnc29 := NB207_208.out
       obtain ⟨hcz30_0, hcz30_1⟩ := cz2 BK208.out
       obtain ⟨hfz30_0, hfz30_1⟩ := fz2 BK208.out
       obtain ⟨hcz31_0, hcz31_1, hcz31_2, hcz31_3⟩ := cz4 BK207.out
       obtain ⟨hfz31_0, hfz31_1, hfz31_2, hfz31_3⟩ := fz4 BK207.out
       go_wp2_with (first | ((with_reducible refine gate_callee (f := 44) rfl ?_); refine goesL_ (some 35) rfl rfl Try.func44 (by kernel_rfl) rfl #[.int .i64 a1_1, .int .i64 0, .int .i64 (wrap64 ((l0_2.length : Int) - 1))] rfl lz ?_; (with_reducible refine (impl_in.calls a1_1 0 (wrap64 ((l0_2.length : Int) - 1)) t211 _ A28.out).mono ?_); rintro e w' ⟨rfl, ⟨nd, rfl⟩⟩; refine ⟨_, rfl, ?_⟩))
       go_ret
       exact ⟨gz, (bz2 HB.out GE207.out GE208.out)⟩
      ·replace c27 := Bool.eq_false_iff.mpr c27
       subst c27
       have H1 := hq H
       clear H
       have H := H1
       clear H1
       by_cases c32 : a1_0 = 5
       ·rw [if_pos c32] at H
        have c32b0 : (a1_0 == 5) = true := beq_iff_eq.mpr c32
        have c32b1 : (a1_0 != 5) = false := bne_eq_false_iff_eq.mpr c32
        clear c32
        replace H := bi H
        obtain ⟨t212, A330, H⟩ := H
        try dsimp only at H
        have A33 := Aside0.mk A330
        clear A330
        obtain rfl := Option.some.inj H
        have hnb34 := NB208_207.out
        have hnc34 := NB207_208.out
        obtain ⟨hcz35_0, hcz35_1⟩ := cz2 BK208.out
        obtain ⟨hfz35_0, hfz35_1⟩ := fz2 BK208.out
        obtain ⟨hcz36_0, hcz36_1, hcz36_2, hcz36_3⟩ := cz4 BK207.out
        obtain ⟨hfz36_0, hfz36_1, hfz36_2, hfz36_3⟩ := fz4 BK207.out
        go_wp2_with (first | ((with_reducible refine gate_callee (f := 44) rfl ?_); refine goesL_ (some 44) rfl rfl Try.func44 (by kernel_rfl) rfl #[.int .i64 a1_1, .int .i64 0, .int .i64 (wrap64 ((l0_3.length : Int) - 1))] rfl lz ?_; (with_reducible refine (impl_in.calls a1_1 0 (wrap64 ((l0_3.length : Int) - 1)) t212 _ A33.out).mono ?_); rintro e w' ⟨rfl, ⟨nd, rfl⟩⟩; refine ⟨_, rfl, ?_⟩))
        go_ret
        exact ⟨gz, (bz2 HB.out GE207.out GE208.out)⟩
       ·rw [if_neg c32] at H
        have c32b0 : (a1_0 == 5) = false := beq_eq_false_iff_ne.mpr c32
        have c32b1 : (a1_0 != 5) = true := bne_iff_ne.mpr c32
        obtain rfl := Option.some.inj H
        go_wp2
        go_ret
        exact ⟨gz, (bz2 HB.out GE207.out GE208.out)⟩
end Go.Proofs.Ytlhofeikcaejpaa.PFnExactLookUp
