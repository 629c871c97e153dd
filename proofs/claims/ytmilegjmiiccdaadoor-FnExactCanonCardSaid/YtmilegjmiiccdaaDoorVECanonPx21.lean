/- PFnExactCanonx21, of the words and walks that the law FnExactCanon needs; made by this session's program out of printed texts. -/

import Derived.Test.YtmilegjmiiccdaaDoorVECanonPx0
import Derived.Test.YtmilegjmiiccdaaDoorVECanonPx1
import Derived.Test.YtmilegjmiiccdaaDoorVECanonPx16
import Derived.Test.YtmilegjmiiccdaaDoorVECanonPx19
import Derived.Test.YtmilegjmiiccdaaDoorVECanonPx20
namespace Go.Proofs.YtmilegjmiiccdaaDoor.PFnExactCanon
open Go.RowKit Go.Proofs.YtmilegjmiiccdaaDoorW.PrintWords Go.Proofs.YtmilegjmiiccdaaDoorW.PrintLast Go.Proofs.YtmilegjmiiccdaaDoorW.PrintMore
attribute [local go_sem] max2_int min2_int max_two min_two max_three min_three max_four min_four
set_option linter.unusedVariables false
set_option linter.unusedSimpArgs false
attribute [local go_sem high] eqA55
mutual
def impl_rename.j0 : Nat -> List (S43) -> List (S55) -> ByteArray -> Int -> Int -> Option ((List (S43)))
 | 0, _, _, _, _, _ => none
 | k + 1, x0, x1, x3, x539000, x539001 => impl_rename.l0 k x0 x3 x1 (x1.length : Int) 0 x539000 x539001
def impl_rename.l0 : Nat -> List (S43) -> ByteArray -> List (S55) -> Int -> Int -> Int -> Int -> Option ((List (S43)))
 | 0, _, _, _, _, _, _, _ => none
 | k + 1, x0, x3, x25, x26, x27, x539000, x539001 => if x27 < x26 then (if 0 <= x27 then (if x27 < (x25.length : Int) then (if (((rd_T55 x25 x27).f0) == x539000 && (((rd_T55 x25 x27).f1) == x539001)) = true then (if x27 < (x0.length : Int) then (impl_rename.l0 k (x0.set (x27 : Int).toNat (⟨(rd_T43 x0 x27).f0, (rd_T43 x0 x27).f1, (rd_T43 x0 x27).f2, (rd_T43 x0 x27).f3, (rd_T43 x0 x27).f4, x3, (rd_T43 x0 x27).f6⟩ : S43)) x3 x25 x26 (wrap64 (x27 + 1)) x539000 x539001) else (none)) else (impl_rename.l0 k x0 x3 x25 x26 (wrap64 (x27 + 1)) x539000 x539001)) else (none)) else (none)) else (some x0)
end
def impl_rename.f (k : Nat) (l0 : List (S43)) (l1 : List (S55)) (a2_0 : Int) (a2_1 : Int) (a3 : ByteArray) : Option ((List (S43))) := if a2_1 = 0 then (if 0 <= a2_0 then (if a2_0 < (l0.length : Int) then (impl_rename.j0 k (l0.set (a2_0 : Int).toNat (⟨(rd_T43 l0 a2_0).f0, (rd_T43 l0 a2_0).f1, (rd_T43 l0 a2_0).f2, (rd_T43 l0 a2_0).f3, (rd_T43 l0 a2_0).f4, a3, (rd_T43 l0 a2_0).f6⟩ : S43)) l1 a3 a2_0 a2_1) else (none)) else (none)) else (if 0 <= a2_0 then (if a2_0 < (l0.length : Int) then (impl_rename.j0 k (l0.set (a2_0 : Int).toNat (⟨(rd_T43 l0 a2_0).f0, (rd_T43 l0 a2_0).f1, (rd_T43 l0 a2_0).f2, (rd_T43 l0 a2_0).f3, (rd_T43 l0 a2_0).f4, (rd_T43 l0 a2_0).f5, a3⟩ : S43)) l1 a3 a2_0 a2_1) else (none)) else (none))
theorem impl_rename.mono_l : ∀ k, (∀ y0 y1 y2 y3 y4, LeO (impl_rename.j0 k y0 y1 y2 y3 y4) (impl_rename.j0 (k + 1) y0 y1 y2 y3 y4)) /\ (∀ y0 y1 y2 y3 y4 y5 y6, LeO (impl_rename.l0 k y0 y1 y2 y3 y4 y5 y6) (impl_rename.l0 (k + 1) y0 y1 y2 y3 y4 y5 y6))
 | 0 => ⟨fun _ _ _ _ _ r h => by simp [impl_rename.j0] at h, fun _ _ _ _ _ _ _ r h => by simp [impl_rename.l0] at h⟩
 | k + 1 => by
  obtain ⟨ih0, ih1⟩ := impl_rename.mono_l k
  refine ⟨?_, ?_⟩
  ·intro y0 y1 y2 y3 y4
   unfold impl_rename.j0
   with_reducible repeat' first | exact ih0 _ _ _ _ _ | exact ih1 _ _ _ _ _ _ _ | exact lrz _ | exact lnz _ | refine liz ?_ ?_ | refine lbz ?_ fun _ => ?_
  ·intro y0 y1 y2 y3 y4 y5 y6
   unfold impl_rename.l0
   with_reducible repeat' first | exact ih0 _ _ _ _ _ | exact ih1 _ _ _ _ _ _ _ | exact lrz _ | exact lnz _ | refine liz ?_ ?_ | refine lbz ?_ fun _ => ?_
theorem impl_rename.mono : ∀ a0 a1 a2 a3 a4 k, LeO (impl_rename.f k a0 a1 a2 a3 a4) (impl_rename.f (k + 1) a0 a1 a2 a3 a4) := by
 intro a0 a1 a2 a3 a4 k
 obtain ⟨ih0, ih1⟩ := impl_rename.mono_l k
 unfold impl_rename.f
 with_reducible repeat' first | exact ih0 _ _ _ _ _ | exact ih1 _ _ _ _ _ _ _ | exact lrz _ | exact lnz _ | refine liz ?_ ?_ | refine lbz ?_ fun _ => ?_
set_option maxHeartbeats 8000000 in
set_option maxRecDepth 100000 in
theorem impl_rename.calls (k : Nat) (P0_ : Nat -> Prop) (u9000_ : Value) (l0 : List (S43)) (A1 : Option Addr) (c1 : Nat) (l1 : List (S55)) (a2_0 : Int) (a2_1 : Int) (a3 : ByteArray) (r : List (S43)) (w0 w : World) (hB : Below w0.heap.size w0 w) (ho0 : Kd.R k43 43 w w0.heap.size P0_ u9000_ l0) (hr1 : ∀ W_, Kept w W_ (fun k_ => P0_ k_) -> Kd.C k55 W_ A1 l1.length l1) (hc1 : l1.length <= c1) (h : impl_rename.f k l0 l1 a2_0 a2_1 a3 = some r) :
  Calls Tryd.prog 62 #[u9000_, .slice A1 l1.length c1, .agg #[.int .i64 a2_0, .int .i64 a2_1], .string a3] w fun e w' => e = .returned (.tuple #[]) /\ Kd.R k43 43 w' w0.heap.size (fun k_ => (P0_ k_ \/ w.heap.size <= k_)) u9000_ r /\ Below w0.heap.size w0 w' /\ Kept w w' (fun k_ => P0_ k_) := by
 have hu55 := Tryd.underlying55
 have HO0 := Aside0.mk (show Kd.R k43 43 w w0.heap.size (fun k_ => (P0_ k_ \/ w.heap.size <= k_)) u9000_ l0 from Kd.R_mono ho0 (fun k_ hk => (.inl hk)))
 have HR1 := Aside0.mk hr1
 have HC1 := Aside0.mk hc1
 clear hr1 hc1
 have HK := Aside0.mk (Kept.refl w (fun k_ => P0_ k_))
 have HW0 := Aside0.mk hB.size
 have HB := Aside0.mk hB
 clear hB
 have H : (if a2_1 = 0 then (if 0 <= a2_0 then (if a2_0 < (l0.length : Int) then (impl_rename.j0 k (l0.set (a2_0 : Int).toNat (⟨(rd_T43 l0 a2_0).f0, (rd_T43 l0 a2_0).f1, (rd_T43 l0 a2_0).f2, (rd_T43 l0 a2_0).f3, (rd_T43 l0 a2_0).f4, a3, (rd_T43 l0 a2_0).f6⟩ : S43)) l1 a3 a2_0 a2_1) else (none)) else (none)) else (if 0 <= a2_0 then (if a2_0 < (l0.length : Int) then (impl_rename.j0 k (l0.set (a2_0 : Int).toNat (⟨(rd_T43 l0 a2_0).f0, (rd_T43 l0 a2_0).f1, (rd_T43 l0 a2_0).f2, (rd_T43 l0 a2_0).f3, (rd_T43 l0 a2_0).f4, (rd_T43 l0 a2_0).f5, a3⟩ : S43)) l1 a3 a2_0 a2_1) else (none)) else (none))) = some r := h
 clear h
 have HC5 := Aside0.mk H
 clear H
 go_enter Tryd.func62, Tryd.ntmps62
 go_upto_if 12 with (first | ((with_reducible refine gate_dst (N := 6) rfl ?_); refine box_event ?hg (N := 6) ?hd (cs := #[.int .i64 a2_0, .int .i64 a2_1]) (t := 55) ?hr ?_; (case hd => rfl); (case hg => rfl); (case hr => exact vz); intro gb538 hg w6 hbox hb; replace HO0 := qz HO0 hb; have BK538 := Aside0.mk (hbox); have GW538 := Aside0.mk ((by rw [hg]; exact (by first | exact HK.out.1 | exact (show Kept w _ (fun k_ => P0_ k_) from by repeat (first | (with_reducible first | exact HK.out | apply Kept.alloc | apply Kept.drewN | apply Kept.drew) | exact HK.out)).1) : w.heap.size <= gb538)); replace HK := Aside0.mk (Kept.below (S := (fun k_ => P0_ k_)) (by repeat (first | (with_reducible first | exact HK.out | apply Kept.alloc | apply Kept.drewN | apply Kept.drew) | exact HK.out)) hb); have GE538 := Aside0.mk ((by rw [hg]; exact (below_size (bz0 HB.out)) : w0.heap.size <= gb538)); replace HB := Aside0.mk (below_step (bz0 HB.out) hb); clear hb hbox hg; obtain ⟨hcz7_0, hcz7_1⟩ := cz2 BK538.out; obtain ⟨hfz7_0, hfz7_1⟩ := fz2 BK538.out))
 (try simp only [Act.put, sz1, sz2, sz3])
 go_cut [] (fun wc => ∃ (kq : Nat) (x0_4 : List (S43)), Aside0 (impl_rename.j0 kq x0_4 l1 a3 a2_0 a2_1 = some r) /\ Aside0 (kq <= k) /\ Aside0 (Kd.R k43 43 wc w0.heap.size (fun k_ => (P0_ k_ \/ w.heap.size <= k_)) u9000_ x0_4) /\ Aside0 (wc.heap[gb538]? = some (.cells #[.int .i64 a2_0, .int .i64 a2_1] 55 (0, 0))) /\ Aside0 (Kept w wc (fun k_ => P0_ k_)) /\ Aside0 (Below w0.heap.size w0 wc))
 case first =>
  have H := HC5.out
  clear HC5
  by_cases c8 : a2_1 = 0
  ·rw [if_pos c8] at H
   have c8b0 : (a2_1 == 0) = true := beq_iff_eq.mpr c8
   have c8b1 : (a2_1 != 0) = false := bne_eq_false_iff_eq.mpr c8
   clear c8
   (first | rw [c8b0] | (simp only [i64_w, i32_w]; rw [c8b0]) | skip)
   replace H := iz H
   obtain ⟨c9, H⟩ := H
   have c9b0 := decide_eq_true c9
   clear c9
   replace H := iz H
   obtain ⟨c10, H⟩ := H
   have c10b0 := decide_eq_true c10
   clear c10
   obtain ⟨y539, hy539⟩ : ∃ y_ : List (S43), y_ = (l0.set (a2_0 : Int).toNat (⟨(rd_T43 l0 a2_0).f0, (rd_T43 l0 a2_0).f1, (rd_T43 l0 a2_0).f2, (rd_T43 l0 a2_0).f3, (rd_T43 l0 a2_0).f4, a3, (rd_T43 l0 a2_0).f6⟩ : S43)) := ⟨_, rfl⟩
   replace H : (impl_rename.j0 k y539 l1 a3 a2_0 a2_1) = some r := yz hy539 H
   have Ny539 := Aside0.mk hy539
   clear hy539
   have H' := Aside0.mk H
   clear H
   obtain ⟨hcz12_0, hcz12_1⟩ := cz2 BK538.out
   obtain ⟨hfz12_0, hfz12_1⟩ := fz2 BK538.out
   have p11 : 0 <= (a2_0 : Int) := oz
   have q11 : (a2_0 : Int) < ((l0.length : Int) : Int) := oz
   obtain ⟨go11, co11, eo11, gb11, gl11, cl11, HG11⟩ := Kd.R_form HO0.out (by omega)
   (first | cases eo11 | (injection eo11 with ea_ en_ ec_; (first | subst ea_ | (injection ea_ with ea_; subst ea_)); subst ec_; clear en_))
   have GB11 := Aside0.mk gb11
   have GG11 := Aside0.mk HG11
   clear gb11 gl11 HG11
   have HMgo11 := Aside0.mk (show (P0_ go11 \/ w.heap.size <= go11) from (HO0.out.1 _ rfl))
   obtain ⟨ce11, hcl11, hM11, hcc11, hfr11⟩ := Kd.R_elem HO0.out z43 (a2_0 : Int) p11 q11
   obtain rfl := k43_openM hM11
   have hx11_0 : w6.cell? ⟨go11, (a2_0 : Int).toNat * 7, none⟩ = some (.int .i64 ((rd_T43 l0 a2_0).f0)) := hcc11 0 _ rfl
   have hx11_1 : w6.cell? ⟨go11, (a2_0 : Int).toNat * 7 + 1, none⟩ = some (.int .i64 ((rd_T43 l0 a2_0).f1)) := hcc11 1 _ rfl
   have hx11_2 : w6.cell? ⟨go11, (a2_0 : Int).toNat * 7 + 2, none⟩ = some (.int .i64 ((rd_T43 l0 a2_0).f2)) := hcc11 2 _ rfl
   have hx11_3 : w6.cell? ⟨go11, (a2_0 : Int).toNat * 7 + 3, none⟩ = some (.int .i64 ((rd_T43 l0 a2_0).f3)) := hcc11 3 _ rfl
   have hx11_4 : w6.cell? ⟨go11, (a2_0 : Int).toNat * 7 + 4, none⟩ = some (.int .i64 ((rd_T43 l0 a2_0).f4)) := hcc11 4 _ rfl
   have hx11_5 : w6.cell? ⟨go11, (a2_0 : Int).toNat * 7 + 5, none⟩ = some (.string ((rd_T43 l0 a2_0).f5)) := hcc11 5 _ rfl
   have hx11_6 : w6.cell? ⟨go11, (a2_0 : Int).toNat * 7 + 6, none⟩ = some (.string ((rd_T43 l0 a2_0).f6)) := hcc11 6 _ rfl
   have hf11_0 : w6.frozen? ⟨go11, (a2_0 : Int).toNat * 7, none⟩ = false := hfr11 0
   have hf11_1 : w6.frozen? ⟨go11, (a2_0 : Int).toNat * 7 + 1, none⟩ = false := hfr11 1
   have hf11_2 : w6.frozen? ⟨go11, (a2_0 : Int).toNat * 7 + 2, none⟩ = false := hfr11 2
   have hf11_3 : w6.frozen? ⟨go11, (a2_0 : Int).toNat * 7 + 3, none⟩ = false := hfr11 3
   have hf11_4 : w6.frozen? ⟨go11, (a2_0 : Int).toNat * 7 + 4, none⟩ = false := hfr11 4
   have hf11_5 : w6.frozen? ⟨go11, (a2_0 : Int).toNat * 7 + 5, none⟩ = false := hfr11 5
   have hf11_6 : w6.frozen? ⟨go11, (a2_0 : Int).toNat * 7 + 6, none⟩ = false := hfr11 6
   clear hcl11 hcc11 hfr11 hM11
   replace p11 := eq_true p11
   replace q11 := eq_true q11
   have HX13 := Aside0.mk (show Kd.R k43 43 w6 w0.heap.size (fun k_ => (P0_ k_ \/ w.heap.size <= k_)) (.slice (some ⟨go11, 0, none⟩) l0.length co11) l0 from (rz HO0.out))
   obtain ⟨ce13, hcl13, hM13, hcc13, hfr13⟩ := Kd.R_elem HX13.out z43 (a2_0 : Int) (of_decide_eq_true az) (by have h_ : (a2_0 : Int) < ((l0.length : Int) : Int) := oz; first | exact h_ | (have e_ := (Kd.R_reads' HO0.out).1; omega) | simpa using h_)
   obtain rfl := k43_openM hM13
   have HP13 := Kd.R_seg HX13.out (a2_0 : Int) (of_decide_eq_true az) (by have h_ : (a2_0 : Int) < ((l0.length : Int) : Int) := oz; first | exact h_ | (have e_ := (Kd.R_reads' HO0.out).1; omega) | simpa using h_) (seg := [.string a3]) (j := 5) hcl13 hcc13 (show 6 <= 7 from by decide) (x' := (⟨(rd_T43 l0 a2_0).f0, (rd_T43 l0 a2_0).f1, (rd_T43 l0 a2_0).f2, (rd_T43 l0 a2_0).f3, (rd_T43 l0 a2_0).f4, a3, (rd_T43 l0 a2_0).f6⟩ : S43)) (k43_mkM _ _ _ (⟨(rd_T43 l0 a2_0).f0, (rd_T43 l0 a2_0).f1, (rd_T43 l0 a2_0).f2, (rd_T43 l0 a2_0).f3, (rd_T43 l0 a2_0).f4, a3, (rd_T43 l0 a2_0).f6⟩ : S43) ) (fun _ hk => hk)
   have hx13_5 := hcc13 5 _ rfl
   (try simp only [show (k43).sz = 7 from rfl, Nat.mul_one, Nat.add_zero] at hx13_5)
   have hf13_5 := hfr13 5
   (try simp only [show (k43).sz = 7 from rfl, Nat.mul_one, Nat.add_zero] at hf13_5)
   clear hcl13 hcc13 hfr13 hM13
   go_wp2_with (first | ((with_reducible refine gate_store (t := 9) (p := 18) rfl ?_); refine store_event (t := 9) (p := 18) (v := ?vo_w14) (w1 := (w6.setCell ⟨go11, (a2_0 : Int).toNat * 7 + 5, none⟩ (.string a3))) ?hg ?ho ?hn ?hr ?_; (case ho => rfl); (case hg => rfl); (case hn => rfl); (case hr => exact vz); intro w14 hw; have hg : w6.grownBy w14 (some go11) := (by rw [hw]; exact HP13.2); have hp_ : Kd.R k43 43 w14 w0.heap.size (fun k_ => (P0_ k_ \/ w.heap.size <= k_)) (.slice (some ⟨go11, 0, none⟩) l0.length co11) y539 := (by rw [hw, Ny539.out]; exact HP13.1); clear HP13; replace BK538 := Aside0.mk (blk_grown (g := gb538) (o := .cells #[.int .i64 a2_0, .int .i64 a2_1] 55 (0, 0)) (kz BK538.out) hg (Kd.R_ne HO0.out BK538.out (by decide))); replace HB := Aside0.mk ((by rw [hw]; exact below_set (HB.out) GB11.out : Below w0.heap.size w0 w14)); replace HK := Aside0.mk (Kept.of_grown (S := (fun k_ => P0_ k_)) hg (by repeat (first | (with_reducible first | exact HK.out | apply Kept.alloc | apply Kept.drewN | apply Kept.drew | refine Kept.setCell ?_ (.inr GW538.out) _) | exact HK.out)) (fun k_ e_ => (HO0.out.1 k_ e_))); replace HO0 := Aside0.mk (hp_); clear hg hw hp_))
   go_meet
   case rel => exact ⟨_, (y539), H', ⟨by first | omega | exact Nat.le_refl _⟩, ⟨by refine rq ?_; exact HO0.out⟩, ⟨by refine kq ?_; exact BK538.out⟩, ⟨by repeat (first | (with_reducible first | exact HK.out | apply Kept.alloc | apply Kept.drewN | apply Kept.drew | refine Kept.setCell ?_ (.inr GW538.out) _) | exact HK.out)⟩, ⟨(bz1 HB.out GE538.out)⟩⟩
  ·rw [if_neg c8] at H
   have c8b0 : (a2_1 == 0) = false := beq_eq_false_iff_ne.mpr c8
   have c8b1 : (a2_1 != 0) = true := bne_iff_ne.mpr c8
   (first | rw [c8b0] | (simp only [i64_w, i32_w]; rw [c8b0]) | skip)
   replace H := iz H
   obtain ⟨c15, H⟩ := H
   have c15b0 := decide_eq_true c15
   clear c15
   replace H := iz H
   obtain ⟨c16, H⟩ := H
   have c16b0 := decide_eq_true c16
   clear c16
   obtain ⟨y540, hy540⟩ : ∃ y_ : List (S43), y_ = (l0.set (a2_0 : Int).toNat (⟨(rd_T43 l0 a2_0).f0, (rd_T43 l0 a2_0).f1, (rd_T43 l0 a2_0).f2, (rd_T43 l0 a2_0).f3, (rd_T43 l0 a2_0).f4, (rd_T43 l0 a2_0).f5, a3⟩ : S43)) := ⟨_, rfl⟩
   replace H : (impl_rename.j0 k y540 l1 a3 a2_0 a2_1) = some r := yz hy540 H
   have Ny540 := Aside0.mk hy540
   clear hy540
   have H' := Aside0.mk H
   clear H
   obtain ⟨hcz18_0, hcz18_1⟩ := cz2 BK538.out
   obtain ⟨hfz18_0, hfz18_1⟩ := fz2 BK538.out
   have p17 : 0 <= (a2_0 : Int) := oz
   have q17 : (a2_0 : Int) < ((l0.length : Int) : Int) := oz
   obtain ⟨go17, co17, eo17, gb17, gl17, cl17, HG17⟩ := Kd.R_form HO0.out (by omega)
   (first | cases eo17 | (injection eo17 with ea_ en_ ec_; (first | subst ea_ | (injection ea_ with ea_; subst ea_)); subst ec_; clear en_))
   have GB17 := Aside0.mk gb17
   have GG17 := Aside0.mk HG17
   clear gb17 gl17 HG17
   have HMgo17 := Aside0.mk (show (P0_ go17 \/ w.heap.size <= go17) from (HO0.out.1 _ rfl))
   obtain ⟨ce17, hcl17, hM17, hcc17, hfr17⟩ := Kd.R_elem HO0.out z43 (a2_0 : Int) p17 q17
   obtain rfl := k43_openM hM17
   have hx17_0 : w6.cell? ⟨go17, (a2_0 : Int).toNat * 7, none⟩ = some (.int .i64 ((rd_T43 l0 a2_0).f0)) := hcc17 0 _ rfl
   have hx17_1 : w6.cell? ⟨go17, (a2_0 : Int).toNat * 7 + 1, none⟩ = some (.int .i64 ((rd_T43 l0 a2_0).f1)) := hcc17 1 _ rfl
   have hx17_2 : w6.cell? ⟨go17, (a2_0 : Int).toNat * 7 + 2, none⟩ = some (.int .i64 ((rd_T43 l0 a2_0).f2)) := hcc17 2 _ rfl
   have hx17_3 : w6.cell? ⟨go17, (a2_0 : Int).toNat * 7 + 3, none⟩ = some (.int .i64 ((rd_T43 l0 a2_0).f3)) := hcc17 3 _ rfl
   have hx17_4 : w6.cell? ⟨go17, (a2_0 : Int).toNat * 7 + 4, none⟩ = some (.int .i64 ((rd_T43 l0 a2_0).f4)) := hcc17 4 _ rfl
   have hx17_5 : w6.cell? ⟨go17, (a2_0 : Int).toNat * 7 + 5, none⟩ = some (.string ((rd_T43 l0 a2_0).f5)) := hcc17 5 _ rfl
   have hx17_6 : w6.cell? ⟨go17, (a2_0 : Int).toNat * 7 + 6, none⟩ = some (.string ((rd_T43 l0 a2_0).f6)) := hcc17 6 _ rfl
   have hf17_0 : w6.frozen? ⟨go17, (a2_0 : Int).toNat * 7, none⟩ = false := hfr17 0
   have hf17_1 : w6.frozen? ⟨go17, (a2_0 : Int).toNat * 7 + 1, none⟩ = false := hfr17 1
   have hf17_2 : w6.frozen? ⟨go17, (a2_0 : Int).toNat * 7 + 2, none⟩ = false := hfr17 2
   have hf17_3 : w6.frozen? ⟨go17, (a2_0 : Int).toNat * 7 + 3, none⟩ = false := hfr17 3
   have hf17_4 : w6.frozen? ⟨go17, (a2_0 : Int).toNat * 7 + 4, none⟩ = false := hfr17 4
   have hf17_5 : w6.frozen? ⟨go17, (a2_0 : Int).toNat * 7 + 5, none⟩ = false := hfr17 5
   have hf17_6 : w6.frozen? ⟨go17, (a2_0 : Int).toNat * 7 + 6, none⟩ = false := hfr17 6
   clear hcl17 hcc17 hfr17 hM17
   replace p17 := eq_true p17
   replace q17 := eq_true q17
   have HX19 := Aside0.mk (show Kd.R k43 43 w6 w0.heap.size (fun k_ => (P0_ k_ \/ w.heap.size <= k_)) (.slice (some ⟨go17, 0, none⟩) l0.length co17) l0 from (rz HO0.out))
   obtain ⟨ce19, hcl19, hM19, hcc19, hfr19⟩ := Kd.R_elem HX19.out z43 (a2_0 : Int) (of_decide_eq_true az) (by have h_ : (a2_0 : Int) < ((l0.length : Int) : Int) := oz; first | exact h_ | (have e_ := (Kd.R_reads' HO0.out).1; omega) | simpa using h_)
   obtain rfl := k43_openM hM19
   have HP19 := Kd.R_seg HX19.out (a2_0 : Int) (of_decide_eq_true az) (by have h_ : (a2_0 : Int) < ((l0.length : Int) : Int) := oz; first | exact h_ | (have e_ := (Kd.R_reads' HO0.out).1; omega) | simpa using h_) (seg := [.string a3]) (j := 6) hcl19 hcc19 (show 7 <= 7 from by decide) (x' := (⟨(rd_T43 l0 a2_0).f0, (rd_T43 l0 a2_0).f1, (rd_T43 l0 a2_0).f2, (rd_T43 l0 a2_0).f3, (rd_T43 l0 a2_0).f4, (rd_T43 l0 a2_0).f5, a3⟩ : S43)) (k43_mkM _ _ _ (⟨(rd_T43 l0 a2_0).f0, (rd_T43 l0 a2_0).f1, (rd_T43 l0 a2_0).f2, (rd_T43 l0 a2_0).f3, (rd_T43 l0 a2_0).f4, (rd_T43 l0 a2_0).f5, a3⟩ : S43) ) (fun _ hk => hk)
   have hx19_6 := hcc19 6 _ rfl
   (try simp only [show (k43).sz = 7 from rfl, Nat.mul_one, Nat.add_zero] at hx19_6)
   have hf19_6 := hfr19 6
   (try simp only [show (k43).sz = 7 from rfl, Nat.mul_one, Nat.add_zero] at hf19_6)
   clear hcl19 hcc19 hfr19 hM19
   go_wp2_with (first | ((with_reducible refine gate_store (t := 9) (p := 24) rfl ?_); refine store_event (t := 9) (p := 24) (v := ?vo_w20) (w1 := (w6.setCell ⟨go17, (a2_0 : Int).toNat * 7 + 6, none⟩ (.string a3))) ?hg ?ho ?hn ?hr ?_; (case ho => rfl); (case hg => rfl); (case hn => rfl); (case hr => exact vz); intro w20 hw; have hg : w6.grownBy w20 (some go17) := (by rw [hw]; exact HP19.2); have hp_ : Kd.R k43 43 w20 w0.heap.size (fun k_ => (P0_ k_ \/ w.heap.size <= k_)) (.slice (some ⟨go17, 0, none⟩) l0.length co17) y540 := (by rw [hw, Ny540.out]; exact HP19.1); clear HP19; replace BK538 := Aside0.mk (blk_grown (g := gb538) (o := .cells #[.int .i64 a2_0, .int .i64 a2_1] 55 (0, 0)) (kz BK538.out) hg (Kd.R_ne HO0.out BK538.out (by decide))); replace HB := Aside0.mk ((by rw [hw]; exact below_set (HB.out) GB17.out : Below w0.heap.size w0 w20)); replace HK := Aside0.mk (Kept.of_grown (S := (fun k_ => P0_ k_)) hg (by repeat (first | (with_reducible first | exact HK.out | apply Kept.alloc | apply Kept.drewN | apply Kept.drew | refine Kept.setCell ?_ (.inr GW538.out) _) | exact HK.out)) (fun k_ e_ => (HO0.out.1 k_ e_))); replace HO0 := Aside0.mk (hp_); clear hg hw hp_))
   go_meet
   case rel => exact ⟨_, (y540), H', ⟨by first | omega | exact Nat.le_refl _⟩, ⟨by refine rq ?_; exact HO0.out⟩, ⟨by refine kq ?_; exact BK538.out⟩, ⟨by repeat (first | (with_reducible first | exact HK.out | apply Kept.alloc | apply Kept.drewN | apply Kept.drew | refine Kept.setCell ?_ (.inr GW538.out) _) | exact HK.out)⟩, ⟨(bz1 HB.out GE538.out)⟩⟩
 case rest =>
  clear HC5
  try clear c1
  try clear p1
  try clear q1
  try clear hx1
  try clear p2
  try clear c6
  try clear c8
  try clear c8b0
  try clear c8b1
  try clear c9
  try clear c9b0
  try clear c10
  try clear c10b0
  try clear c11
  try clear p11
  try clear q11
  try clear hx11
  try clear hf11
  try clear c13
  try clear hx13
  try clear hf13
  try clear c15
  try clear c15b0
  try clear c16
  try clear c16b0
  try clear c17
  try clear p17
  try clear q17
  try clear hx17
  try clear hf17
  try clear c19
  try clear hx19
  try clear hf19
  try clear hcz12_0 hcz12_1
  try clear hcz18_0 hcz18_1
  try clear hcz7_0 hcz7_1
  try clear hfz12_0 hfz12_1
  try clear hfz18_0 hfz18_1
  try clear hfz7_0 hfz7_1
  try clear hx11_0
  try clear hx11_1
  try clear hx11_2
  try clear hx11_3
  try clear hx11_4
  try clear hx11_5
  try clear hx11_6
  try clear hx13_5
  try clear hx17_0
  try clear hx17_1
  try clear hx17_2
  try clear hx17_3
  try clear hx17_4
  try clear hx17_5
  try clear hx17_6
  try clear hx19_6
  try clear p11
  try clear p17
  try clear q11
  try clear q17
  obtain ⟨kq, x0_4, HA, HJ4, HO_0, BK538, HK, HB⟩ := hcut
  cases kq with
  | zero => exact absurd HA.out (by simp [impl_rename.j0])
  | succ kj4 =>
   have H := HA.out
   clear HA
   simp only [impl_rename.j0] at H
   have H' := Aside0.mk H
   clear H
   go_wp2
   go_loopg [27] kj4 (fun kq v27 w' => ∃ (x0_2 : List (S43)) (x27_2 : Int), v27 = .int .i64 x27_2 /\ Aside0 (impl_rename.l0 kq x0_2 a3 l1 (l1.length : Int) x27_2 a2_0 a2_1 = some r) /\ Aside0 (kq <= kj4) /\ Aside0 (Kd.R k43 43 w' w0.heap.size (fun k_ => (P0_ k_ \/ w.heap.size <= k_)) u9000_ x0_2) /\ Aside0 (w'.heap[gb538]? = some (.cells #[.int .i64 a2_0, .int .i64 a2_1] 55 (0, 0))) /\ Aside0 (Kept w w' (fun k_ => P0_ k_)) /\ Aside0 (Below w0.heap.size w0 w'))
   case atStart => exact ⟨(x0_4), (0), ez, H', ⟨Nat.le_refl _⟩, ⟨by refine rq ?_; exact HO_0.out⟩, ⟨by refine kq ?_; exact BK538.out⟩, ⟨by repeat (first | (with_reducible first | exact HK.out | apply Kept.alloc | apply Kept.drewN | apply Kept.drew | refine Kept.setCell ?_ (.inr GW538.out) _) | exact HK.out)⟩, ⟨(bz1 HB.out GE538.out)⟩⟩
   case round =>
    clear H'
    try clear c1
    try clear p1
    try clear q1
    try clear hx1
    try clear p2
    try clear c6
    try clear c8
    try clear c8b0
    try clear c8b1
    try clear c9
    try clear c9b0
    try clear c10
    try clear c10b0
    try clear c11
    try clear p11
    try clear q11
    try clear hx11
    try clear hf11
    try clear c13
    try clear hx13
    try clear hf13
    try clear c15
    try clear c15b0
    try clear c16
    try clear c16b0
    try clear c17
    try clear p17
    try clear q17
    try clear hx17
    try clear hf17
    try clear c19
    try clear hx19
    try clear hf19
    try clear hcz12_0 hcz12_1
    try clear hcz18_0 hcz18_1
    try clear hcz7_0 hcz7_1
    try clear hfz12_0 hfz12_1
    try clear hfz18_0 hfz18_1
    try clear hfz7_0 hfz7_1
    try clear hx11_0
    try clear hx11_1
    try clear hx11_2
    try clear hx11_3
    try clear hx11_4
    try clear hx11_5
    try clear hx11_6
    try clear hx13_5
    try clear hx17_0
    try clear hx17_1
    try clear hx17_2
    try clear hx17_3
    try clear hx17_4
    try clear hx17_5
    try clear hx17_6
    try clear hx19_6
    try clear p1
    try clear p11
    try clear p17
    try clear p2
    try clear q1
    try clear q11
    try clear q17
    obtain ⟨x0_2, x27_2, rfl, HA, HK2, HO_0, BK538, HK, HB⟩ := hrel
    cases gk with
    | zero => exact absurd HA.out (by simp [impl_rename.l0])
    | succ k2 =>
     have H := HA.out
     clear HA
     simp only [impl_rename.l0] at H
     by_cases c21 : x27_2 < (l1.length : Int)
     ·rw [if_pos c21] at H
      have c21b0 := decide_eq_true c21
      clear c21
      replace H := iz H
      obtain ⟨c22, H⟩ := H
      have c22b0 := decide_eq_true c22
      clear c22
      replace H := iz H
      obtain ⟨c23, H⟩ := H
      have c23b0 := decide_eq_true c23
      clear c23
      by_cases c24 : (((rd_T55 l1 x27_2).f0) == a2_0 && (((rd_T55 l1 x27_2).f1) == a2_1)) = true
      ·rw [if_pos c24] at H
       have c24b0 : (((rd_T55 l1 x27_2).f0) == a2_0 && (((rd_T55 l1 x27_2).f1) == a2_1)) = true := c24
       (try (have c24b1 : decide (((rd_T55 l1 x27_2).f0) = a2_0 && (((rd_T55 l1 x27_2).f1) == a2_1)) = true := by simpa using c24))
       (try (have c24b2 : (((rd_T55 l1 x27_2).f0) == a2_0 && (((rd_T55 l1 x27_2).f1) == a2_1)) = true := by simpa using c24))
       clear c24
       replace H := iz H
       obtain ⟨c25, H⟩ := H
       have c25b0 := decide_eq_true c25
       clear c25
       obtain ⟨y543, hy543⟩ : ∃ y_ : List (S43), y_ = (x0_2.set (x27_2 : Int).toNat (⟨(rd_T43 x0_2 x27_2).f0, (rd_T43 x0_2 x27_2).f1, (rd_T43 x0_2 x27_2).f2, (rd_T43 x0_2 x27_2).f3, (rd_T43 x0_2 x27_2).f4, a3, (rd_T43 x0_2 x27_2).f6⟩ : S43)) := ⟨_, rfl⟩
       replace H : (impl_rename.l0 k2 y543 a3 l1 (l1.length : Int) (wrap64 (x27_2 + 1)) a2_0 a2_1) = some r := yz hy543 H
       have Ny543 := Aside0.mk hy543
       clear hy543
       have H' := Aside0.mk H
       clear H
       have p541 : 0 <= (x27_2 : Int) := oz
       have q541 : x27_2 < (l1.length : Int) := oz
       obtain ⟨ad541, e541, hx541_0, hx541_1⟩ := at_T55 (Kd.C_kept_now HR1.out HK.out) x27_2 p541 q541
       cases e541
       replace p541 := eq_true p541
       replace q541 := eq_true q541
       go_wp2_with (first | ((with_reducible refine gate_dst (N := 9) rfl ?_); refine box_event ?hg (N := 9) ?hd (cs := #[.int .i64 0, .int .i64 0]) (t := 55) ?hr ?_; (case hd => rfl); (case hg => rfl); (case hr => exact vz); intro gb542 hg w27 hbox hb; replace HO_0 := qz HO_0 hb; have BK542 := Aside0.mk (hbox); have GW542 := Aside0.mk ((by rw [hg]; exact (by first | exact HK.out.1 | exact (show Kept w _ (fun k_ => P0_ k_) from by repeat (first | (with_reducible first | exact HK.out | apply Kept.alloc | apply Kept.drewN | apply Kept.drew | refine Kept.setCell ?_ (.inr GW538.out) _) | exact HK.out)).1) : w.heap.size <= gb542)); replace HK := Aside0.mk (Kept.below (S := (fun k_ => P0_ k_)) (by repeat (first | (with_reducible first | exact HK.out | apply Kept.alloc | apply Kept.drewN | apply Kept.drew | refine Kept.setCell ?_ (.inr GW538.out) _) | exact HK.out)) hb); have GE542 := Aside0.mk ((by rw [hg]; exact (below_size (bz1 HB.out GE538.out)) : w0.heap.size <= gb542)); replace HB := Aside0.mk (below_step (bz1 HB.out GE538.out) hb); have NB538_542 := Aside0.mk ((by rw [hg]; exact Nat.ne_of_lt (blk_lt (g := gb538) (o := .cells #[.int .i64 a2_0, .int .i64 a2_1] 55 (0, 0)) (kz BK538.out)) : gb538 ≠ gb542)); have NB542_538 := Aside0.mk ((by rw [hg]; exact Nat.ne_of_gt (blk_lt (g := gb538) (o := .cells #[.int .i64 a2_0, .int .i64 a2_1] 55 (0, 0)) (kz BK538.out)) : gb542 ≠ gb538)); replace BK538 := Aside0.mk (blk_below (kz BK538.out) hb); clear hb hbox hg; have hnb28 := NB542_538.out; have hnc28 := NB538_542.out; obtain ⟨hcz29_0, hcz29_1⟩ := cz2 BK542.out; obtain ⟨hfz29_0, hfz29_1⟩ := fz2 BK542.out) | ((with_reducible refine gate_store (t := 55) (p := 9) rfl ?_); refine store_event (t := 55) (p := 9) (v := ?vo_w30) (w1 := ((w27.setCell ⟨gb542, 0, none⟩ (.int .i64 ((rd_T55 l1 x27_2).f0))).setCell ⟨gb542, 1, none⟩ (.int .i64 ((rd_T55 l1 x27_2).f1)))) ?hg ?ho ?hn ?hr ?_; (case ho => rfl); (case hg => rfl); (case hn => rfl); (case hr => exact vz); intro w30 hw; have n0_ : Aside0 (Kd.R k43 43 w30 w0.heap.size (fun k_ => (P0_ k_ \/ w.heap.size <= k_)) u9000_ x0_2) := ⟨(by rw [hw]; exact (by refine rq ?_; first | (with_reducible exact Kd.R_mono (Kd.R_far (p := ⟨gb542, 1, none⟩) (Kd.R_far (p := ⟨gb542, 0, none⟩) (Kd.R_types HO_0.out BK542.out (by decide)) (fun _ hk => hk.2) (.int .i64 ((rd_T55 l1 x27_2).f0))) (fun _ hk => hk.2) (.int .i64 ((rd_T55 l1 x27_2).f1))) (fun _ hk => hk.1)) | (with_reducible exact Kd.R_mono (Kd.R_far (p := ⟨gb542, 1, none⟩) (Kd.R_drewN (Kd.R_far (p := ⟨gb542, 0, none⟩) (Kd.R_types HO_0.out BK542.out (by decide)) (fun _ hk => hk.2) (.int .i64 ((rd_T55 l1 x27_2).f0))) _) (fun _ hk => hk.2) (.int .i64 ((rd_T55 l1 x27_2).f1))) (fun _ hk => hk.1)) | exact Kd.R_mono (Kd.R_far (p := ⟨gb542, 1, none⟩) (Kd.R_drewN (Kd.R_far (p := ⟨gb542, 0, none⟩) (Kd.R_types HO_0.out BK542.out (by decide)) (fun _ hk => hk.2) (.int .i64 ((rd_T55 l1 x27_2).f0))) _) (fun _ hk => hk.2) (.int .i64 ((rd_T55 l1 x27_2).f1))) (fun _ hk => hk.1)))⟩; have n1_ : Aside0 (w30.heap[gb538]? = some (.cells #[.int .i64 a2_0, .int .i64 a2_1] 55 (0, 0))) := ⟨(by rw [hw]; exact (by refine kq ?_; refine blk_far ?_ NB538_542.out _; refine kq ?_; refine blk_far ?_ NB538_542.out _; refine kq ?_; exact BK538.out))⟩; have n2_ : Aside0 (w30.heap[gb542]? = some (.cells #[.int .i64 ((rd_T55 l1 x27_2).f0), .int .i64 ((rd_T55 l1 x27_2).f1)] 55 (0, 0))) := ⟨(by rw [hw]; exact (by refine kq ?_; refine blk_put (cs := #[.int .i64 ((rd_T55 l1 x27_2).f0), .int .i64 0]) ?_ 1 _ rfl; refine kq ?_; refine blk_put (cs := #[.int .i64 0, .int .i64 0]) ?_ 0 _ rfl; refine kq ?_; exact BK542.out))⟩; have n3_ : Aside0 (Kept w w30 (fun k_ => P0_ k_)) := ⟨(by rw [hw]; exact (by repeat (first | (with_reducible first | exact HK.out | apply Kept.alloc | apply Kept.drewN | apply Kept.drew | refine Kept.setCell ?_ (.inr GW538.out) _ | refine Kept.setCell ?_ (.inr GW542.out) _) | exact HK.out)))⟩; have n4_ : Aside0 (Below w0.heap.size w0 w30) := ⟨(by rw [hw]; exact (bz2 HB.out GE538.out GE542.out))⟩; clear hw; clear HO_0; clear BK538; clear BK542; clear HK; clear HB; have HO_0 := n0_; have BK538 := n1_; have BK542 := n2_; have HK := n3_; have HB := n4_; clear n0_ n1_ n2_ n3_ n4_; obtain ⟨hcz31_0, hcz31_1⟩ := cz2 BK542.out; obtain ⟨hfz31_0, hfz31_1⟩ := fz2 BK542.out; obtain ⟨hcz32_0, hcz32_1⟩ := cz2 BK538.out; obtain ⟨hfz32_0, hfz32_1⟩ := fz2 BK538.out; have p26 : 0 <= (x27_2 : Int) := oz; have q26 : (x27_2 : Int) < ((x0_2.length : Int) : Int) := oz; obtain ⟨go26, co26, eo26, gb26, gl26, cl26, HG26⟩ := Kd.R_form HO_0.out (by omega); (first | cases eo26 | (injection eo26 with ea_ en_ ec_; (first | subst ea_ | (injection ea_ with ea_; subst ea_)); subst ec_; clear en_)); have GB26 := Aside0.mk gb26; have GG26 := Aside0.mk HG26; clear gb26 gl26 HG26; have HMgo26 := Aside0.mk (show (P0_ go26 \/ w.heap.size <= go26) from (HO_0.out.1 _ rfl)); obtain ⟨ce26, hcl26, hM26, hcc26, hfr26⟩ := Kd.R_elem HO_0.out z43 (x27_2 : Int) p26 q26; obtain rfl := k43_openM hM26; have hx26_0 : w30.cell? ⟨go26, (x27_2 : Int).toNat * 7, none⟩ = some (.int .i64 ((rd_T43 x0_2 x27_2).f0)) := hcc26 0 _ rfl; have hx26_1 : w30.cell? ⟨go26, (x27_2 : Int).toNat * 7 + 1, none⟩ = some (.int .i64 ((rd_T43 x0_2 x27_2).f1)) := hcc26 1 _ rfl; have hx26_2 : w30.cell? ⟨go26, (x27_2 : Int).toNat * 7 + 2, none⟩ = some (.int .i64 ((rd_T43 x0_2 x27_2).f2)) := hcc26 2 _ rfl; have hx26_3 : w30.cell? ⟨go26, (x27_2 : Int).toNat * 7 + 3, none⟩ = some (.int .i64 ((rd_T43 x0_2 x27_2).f3)) := hcc26 3 _ rfl; have hx26_4 : w30.cell? ⟨go26, (x27_2 : Int).toNat * 7 + 4, none⟩ = some (.int .i64 ((rd_T43 x0_2 x27_2).f4)) := hcc26 4 _ rfl; have hx26_5 : w30.cell? ⟨go26, (x27_2 : Int).toNat * 7 + 5, none⟩ = some (.string ((rd_T43 x0_2 x27_2).f5)) := hcc26 5 _ rfl; have hx26_6 : w30.cell? ⟨go26, (x27_2 : Int).toNat * 7 + 6, none⟩ = some (.string ((rd_T43 x0_2 x27_2).f6)) := hcc26 6 _ rfl; have hf26_0 : w30.frozen? ⟨go26, (x27_2 : Int).toNat * 7, none⟩ = false := hfr26 0; have hf26_1 : w30.frozen? ⟨go26, (x27_2 : Int).toNat * 7 + 1, none⟩ = false := hfr26 1; have hf26_2 : w30.frozen? ⟨go26, (x27_2 : Int).toNat * 7 + 2, none⟩ = false := hfr26 2; have hf26_3 : w30.frozen? ⟨go26, (x27_2 : Int).toNat * 7 + 3, none⟩ = false := hfr26 3; have hf26_4 : w30.frozen? ⟨go26, (x27_2 : Int).toNat * 7 + 4, none⟩ = false := hfr26 4; have hf26_5 : w30.frozen? ⟨go26, (x27_2 : Int).toNat * 7 + 5, none⟩ = false := hfr26 5; have hf26_6 : w30.frozen? ⟨go26, (x27_2 : Int).toNat * 7 + 6, none⟩ = false := hfr26 6; clear hcl26 hcc26 hfr26 hM26; replace p26 := eq_true p26; replace q26 := eq_true q26; have HX33 := Aside0.mk (show Kd.R k43 43 w30 w0.heap.size (fun k_ => (P0_ k_ \/ w.heap.size <= k_)) (.slice (some ⟨go26, 0, none⟩) x0_2.length co26) x0_2 from (rz HO_0.out)); obtain ⟨ce33, hcl33, hM33, hcc33, hfr33⟩ := Kd.R_elem HX33.out z43 (x27_2 : Int) (of_decide_eq_true az) (by have h_ : (x27_2 : Int) < ((x0_2.length : Int) : Int) := oz; first | exact h_ | (have e_ := (Kd.R_reads' HO_0.out).1; omega) | simpa using h_); obtain rfl := k43_openM hM33; have HP33 := Kd.R_seg HX33.out (x27_2 : Int) (of_decide_eq_true az) (by have h_ : (x27_2 : Int) < ((x0_2.length : Int) : Int) := oz; first | exact h_ | (have e_ := (Kd.R_reads' HO_0.out).1; omega) | simpa using h_) (seg := [.string a3]) (j := 5) hcl33 hcc33 (show 6 <= 7 from by decide) (x' := (⟨(rd_T43 x0_2 x27_2).f0, (rd_T43 x0_2 x27_2).f1, (rd_T43 x0_2 x27_2).f2, (rd_T43 x0_2 x27_2).f3, (rd_T43 x0_2 x27_2).f4, a3, (rd_T43 x0_2 x27_2).f6⟩ : S43)) (k43_mkM _ _ _ (⟨(rd_T43 x0_2 x27_2).f0, (rd_T43 x0_2 x27_2).f1, (rd_T43 x0_2 x27_2).f2, (rd_T43 x0_2 x27_2).f3, (rd_T43 x0_2 x27_2).f4, a3, (rd_T43 x0_2 x27_2).f6⟩ : S43) ) (fun _ hk => hk); have hx33_5 := hcc33 5 _ rfl; (try simp only [show (k43).sz = 7 from rfl, Nat.mul_one, Nat.add_zero] at hx33_5); have hf33_5 := hfr33 5; (try simp only [show (k43).sz = 7 from rfl, Nat.mul_one, Nat.add_zero] at hf33_5); clear hcl33 hcc33 hfr33 hM33) | ((with_reducible refine gate_store (t := 9) (p := 39) rfl ?_); refine store_event (t := 9) (p := 39) (v := ?vo_w34) (w1 := (w30.setCell ⟨go26, (x27_2 : Int).toNat * 7 + 5, none⟩ (.string a3))) ?hg ?ho ?hn ?hr ?_; (case ho => rfl); (case hg => rfl); (case hn => rfl); (case hr => exact vz); intro w34 hw; have hg : w30.grownBy w34 (some go26) := (by rw [hw]; exact HP33.2); have hp_ : Kd.R k43 43 w34 w0.heap.size (fun k_ => (P0_ k_ \/ w.heap.size <= k_)) (.slice (some ⟨go26, 0, none⟩) x0_2.length co26) y543 := (by rw [hw, Ny543.out]; exact HP33.1); clear HP33; replace BK538 := Aside0.mk (blk_grown (g := gb538) (o := .cells #[.int .i64 a2_0, .int .i64 a2_1] 55 (0, 0)) (kz BK538.out) hg (Kd.R_ne HO_0.out BK538.out (by decide))); replace BK542 := Aside0.mk (blk_grown (g := gb542) (o := .cells #[.int .i64 ((rd_T55 l1 x27_2).f0), .int .i64 ((rd_T55 l1 x27_2).f1)] 55 (0, 0)) (kz BK542.out) hg (Kd.R_ne HO_0.out BK542.out (by decide))); replace HB := Aside0.mk ((by rw [hw]; exact below_set (HB.out) GB26.out : Below w0.heap.size w0 w34)); replace HK := Aside0.mk (Kept.of_grown (S := (fun k_ => P0_ k_)) hg (by repeat (first | (with_reducible first | exact HK.out | apply Kept.alloc | apply Kept.drewN | apply Kept.drew | refine Kept.setCell ?_ (.inr GW538.out) _ | refine Kept.setCell ?_ (.inr GW542.out) _) | exact HK.out)) (fun k_ e_ => (HO_0.out.1 k_ e_))); replace HO_0 := Aside0.mk (hp_); clear hg hw hp_))
       go_roundg k2
       case measure => have := HJ4.out; have := HK2.out; omega
       case rel => exact ⟨(y543), (wrap64 (x27_2 + 1)), ez, H', ⟨by have := HJ4.out; have := HK2.out; omega⟩, ⟨by refine rq ?_; exact HO_0.out⟩, ⟨by refine kq ?_; exact BK538.out⟩, ⟨by repeat (first | (with_reducible first | exact HK.out | apply Kept.alloc | apply Kept.drewN | apply Kept.drew | refine Kept.setCell ?_ (.inr GW538.out) _ | refine Kept.setCell ?_ (.inr GW542.out) _) | exact HK.out)⟩, ⟨(bz2 HB.out GE538.out GE542.out)⟩⟩
      ·rw [if_neg c24] at H
       have c24b0 : (((rd_T55 l1 x27_2).f0) == a2_0 && (((rd_T55 l1 x27_2).f1) == a2_1)) = false := by simpa using c24
       (try (have c24b1 : decide (((rd_T55 l1 x27_2).f0) = a2_0 && (((rd_T55 l1 x27_2).f1) == a2_1)) = false := by simpa using c24))
       (try (have c24b2 : (((rd_T55 l1 x27_2).f0) == a2_0 && (((rd_T55 l1 x27_2).f1) == a2_1)) = false := by simpa using c24))
       (try (have c24b3 : ¬ (((rd_T55 l1 x27_2).f0) = a2_0 && (((rd_T55 l1 x27_2).f1) == a2_1)) := by simpa using c24))
       clear c24
       have H' := Aside0.mk H
       clear H
       have p541 : 0 <= (x27_2 : Int) := oz
       have q541 : x27_2 < (l1.length : Int) := oz
       obtain ⟨ad541, e541, hx541_0, hx541_1⟩ := at_T55 (Kd.C_kept_now HR1.out HK.out) x27_2 p541 q541
       cases e541
       replace p541 := eq_true p541
       replace q541 := eq_true q541
       go_wp2_with (first | ((with_reducible refine gate_dst (N := 9) rfl ?_); refine box_event ?hg (N := 9) ?hd (cs := #[.int .i64 0, .int .i64 0]) (t := 55) ?hr ?_; (case hd => rfl); (case hg => rfl); (case hr => exact vz); intro gb542 hg w35 hbox hb; replace HO_0 := qz HO_0 hb; have BK542 := Aside0.mk (hbox); have GW542 := Aside0.mk ((by rw [hg]; exact (by first | exact HK.out.1 | exact (show Kept w _ (fun k_ => P0_ k_) from by repeat (first | (with_reducible first | exact HK.out | apply Kept.alloc | apply Kept.drewN | apply Kept.drew | refine Kept.setCell ?_ (.inr GW538.out) _) | exact HK.out)).1) : w.heap.size <= gb542)); replace HK := Aside0.mk (Kept.below (S := (fun k_ => P0_ k_)) (by repeat (first | (with_reducible first | exact HK.out | apply Kept.alloc | apply Kept.drewN | apply Kept.drew | refine Kept.setCell ?_ (.inr GW538.out) _) | exact HK.out)) hb); have GE542 := Aside0.mk ((by rw [hg]; exact (below_size (bz1 HB.out GE538.out)) : w0.heap.size <= gb542)); replace HB := Aside0.mk (below_step (bz1 HB.out GE538.out) hb); have NB538_542 := Aside0.mk ((by rw [hg]; exact Nat.ne_of_lt (blk_lt (g := gb538) (o := .cells #[.int .i64 a2_0, .int .i64 a2_1] 55 (0, 0)) (kz BK538.out)) : gb538 ≠ gb542)); have NB542_538 := Aside0.mk ((by rw [hg]; exact Nat.ne_of_gt (blk_lt (g := gb538) (o := .cells #[.int .i64 a2_0, .int .i64 a2_1] 55 (0, 0)) (kz BK538.out)) : gb542 ≠ gb538)); replace BK538 := Aside0.mk (blk_below (kz BK538.out) hb); clear hb hbox hg; have hnb36 := NB542_538.out; have hnc36 := NB538_542.out; obtain ⟨hcz37_0, hcz37_1⟩ := cz2 BK542.out; obtain ⟨hfz37_0, hfz37_1⟩ := fz2 BK542.out; obtain ⟨hcz38_0, hcz38_1⟩ := cz2 BK538.out; obtain ⟨hfz38_0, hfz38_1⟩ := fz2 BK538.out))
       go_roundg k2
       case measure => have := HJ4.out; have := HK2.out; omega
       case rel => exact ⟨(x0_2), (wrap64 (x27_2 + 1)), ez, H', ⟨by have := HJ4.out; have := HK2.out; omega⟩, ⟨by refine rq ?_; first | (with_reducible exact Kd.R_mono (Kd.R_far (p := ⟨gb542, 1, none⟩) (Kd.R_far (p := ⟨gb542, 0, none⟩) (Kd.R_types HO_0.out BK542.out (by decide)) (fun _ hk => hk.2) (.int .i64 ((rd_T55 l1 x27_2).f0))) (fun _ hk => hk.2) (.int .i64 ((rd_T55 l1 x27_2).f1))) (fun _ hk => hk.1)) | (with_reducible exact Kd.R_mono (Kd.R_far (p := ⟨gb542, 1, none⟩) (Kd.R_drewN (Kd.R_far (p := ⟨gb542, 0, none⟩) (Kd.R_types HO_0.out BK542.out (by decide)) (fun _ hk => hk.2) (.int .i64 ((rd_T55 l1 x27_2).f0))) _) (fun _ hk => hk.2) (.int .i64 ((rd_T55 l1 x27_2).f1))) (fun _ hk => hk.1)) | exact Kd.R_mono (Kd.R_far (p := ⟨gb542, 1, none⟩) (Kd.R_drewN (Kd.R_far (p := ⟨gb542, 0, none⟩) (Kd.R_types HO_0.out BK542.out (by decide)) (fun _ hk => hk.2) (.int .i64 ((rd_T55 l1 x27_2).f0))) _) (fun _ hk => hk.2) (.int .i64 ((rd_T55 l1 x27_2).f1))) (fun _ hk => hk.1)⟩, ⟨by refine kq ?_; refine blk_far ?_ NB538_542.out _; refine kq ?_; refine blk_far ?_ NB538_542.out _; refine kq ?_; exact BK538.out⟩, ⟨by repeat (first | (with_reducible first | exact HK.out | apply Kept.alloc | apply Kept.drewN | apply Kept.drew | refine Kept.setCell ?_ (.inr GW538.out) _ | refine Kept.setCell ?_ (.inr GW542.out) _) | exact HK.out)⟩, ⟨(bz2 HB.out GE538.out GE542.out)⟩⟩
     ·rw [if_neg c21] at H
      have c21b0 := decide_eq_false c21
      clear c21
      obtain rfl := Option.some.inj H
      go_wp2
      first | go_end0 | ((try simp only [Exit.inBlock, Exit.then]); refine bodyPost_ret (results_none rfl _ _ _) rfl ?_)
      exact ⟨gz, by refine rq ?_; exact HO_0.out, (bz1 HB.out GE538.out), by repeat (first | (with_reducible first | exact HK.out | apply Kept.alloc | apply Kept.drewN | apply Kept.drew | refine Kept.setCell ?_ (.inr GW538.out) _) | exact HK.out)⟩
mutual
def impl_Canon.l0 : Nat -> List (S43) -> List (S55) -> List ByteArray -> Int -> List (S55) -> Int -> Int -> Option ((List (S43)))
 | 0, _, _, _, _, _, _, _ => none
 | k + 1, x3, x4, x5, x6, x19, x20, x21 => if x21 < x20 then (if 0 <= x21 then (if x21 < (x19.length : Int) then (impl_Canon.l1 k x3 x4 x5 x6 x19 x20 x21 ((rd_T55 x19 x21).f0) ((rd_T55 x19 x21).f1)) else (none)) else (none)) else (some x3)
def impl_Canon.l1 : Nat -> List (S43) -> List (S55) -> List ByteArray -> Int -> List (S55) -> Int -> Int -> Int -> Int -> Option ((List (S43)))
 | 0, _, _, _, _, _, _, _, _, _ => none
 | k + 1, x3, x4, x5, x6, x19, x20, x21, x559000, x559001 => (impl_FreshName.f k x6).bind fun t559 => ((impl_hasText.f k x5 t559).bind fun t560 => (if t560 = true then (impl_Canon.l1 k x3 x4 x5 (wrap64 (x6 + 1)) x19 x20 x21 x559000 x559001) else ((impl_FreshName.f k x6).bind fun t561 => ((impl_rename.f k x3 x4 x559000 x559001 t561).bind fun t562 => (impl_Canon.l0 k t562 x4 x5 (wrap64 (x6 + 1)) x19 x20 (wrap64 (x21 + 1)))))))
end
def impl_Canon.f (k : Nat) (l0 : List (S43)) : Option ((List (S43))) := (impl_NodesOk.f k l0).bind fun t544 => (if t544 = true then ((impl_copyNodes.f l0).bind fun t545 => ((impl_binders.f k l0).bind fun t548 => ((impl_FreeNames.f k l0).bind fun t551 => ((impl_Sites.f k l0).bind fun t554 => (impl_Canon.l0 k t545 t548 t551 0 t554 (t554.length : Int) 0))))) else (some ([] : List (S43))))
theorem impl_Canon.mono_l : ∀ k, (∀ y0 y1 y2 y3 y4 y5 y6, LeO (impl_Canon.l0 k y0 y1 y2 y3 y4 y5 y6) (impl_Canon.l0 (k + 1) y0 y1 y2 y3 y4 y5 y6)) /\ (∀ y0 y1 y2 y3 y4 y5 y6 y7 y8, LeO (impl_Canon.l1 k y0 y1 y2 y3 y4 y5 y6 y7 y8) (impl_Canon.l1 (k + 1) y0 y1 y2 y3 y4 y5 y6 y7 y8))
 | 0 => ⟨fun _ _ _ _ _ _ _ r h => by simp [impl_Canon.l0] at h, fun _ _ _ _ _ _ _ _ _ r h => by simp [impl_Canon.l1] at h⟩
 | k + 1 => by
  obtain ⟨ih0, ih1⟩ := impl_Canon.mono_l k
  refine ⟨?_, ?_⟩
  ·intro y0 y1 y2 y3 y4 y5 y6
   unfold impl_Canon.l0
   with_reducible repeat' first | exact ih0 _ _ _ _ _ _ _ | exact ih1 _ _ _ _ _ _ _ _ _ | exact impl_FreeNames.mono _ _ | exact impl_FreshName.mono _ _ | exact impl_NodesOk.mono _ _ | exact impl_Sites.mono _ _ | exact impl_binders.mono _ _ | exact impl_hasText.mono _ _ _ | exact impl_rename.mono _ _ _ _ _ _ | exact lrz _ | exact lnz _ | refine liz ?_ ?_ | refine lbz ?_ fun _ => ?_
  ·intro y0 y1 y2 y3 y4 y5 y6 y7 y8
   unfold impl_Canon.l1
   with_reducible repeat' first | exact ih0 _ _ _ _ _ _ _ | exact ih1 _ _ _ _ _ _ _ _ _ | exact impl_FreeNames.mono _ _ | exact impl_FreshName.mono _ _ | exact impl_NodesOk.mono _ _ | exact impl_Sites.mono _ _ | exact impl_binders.mono _ _ | exact impl_hasText.mono _ _ _ | exact impl_rename.mono _ _ _ _ _ _ | exact lrz _ | exact lnz _ | refine liz ?_ ?_ | refine lbz ?_ fun _ => ?_
theorem impl_Canon.mono : ∀ a0 k, LeO (impl_Canon.f k a0) (impl_Canon.f (k + 1) a0) := by
 intro a0 k
 obtain ⟨ih0, ih1⟩ := impl_Canon.mono_l k
 unfold impl_Canon.f
 with_reducible repeat' first | exact ih0 _ _ _ _ _ _ _ | exact ih1 _ _ _ _ _ _ _ _ _ | exact impl_FreeNames.mono _ _ | exact impl_FreshName.mono _ _ | exact impl_NodesOk.mono _ _ | exact impl_Sites.mono _ _ | exact impl_binders.mono _ _ | exact impl_hasText.mono _ _ _ | exact impl_rename.mono _ _ _ _ _ _ | exact lrz _ | exact lnz _ | refine liz ?_ ?_ | refine lbz ?_ fun _ => ?_
set_option maxHeartbeats 8000000 in
set_option maxRecDepth 100000 in
theorem impl_Canon.calls (k : Nat) (A0 : Option Addr) (c0 : Nat) (l0 : List (S43)) (r : List (S43)) (w : World) (hr0 : Kd.C k43 w A0 l0.length l0) (hc0 : l0.length <= c0) (h : impl_Canon.f k l0 = some r) :
  Calls Tryd.prog 30 #[.slice A0 l0.length c0] w fun e w' => ∃ v0_ : Value, e = .returned (v0_) /\ Kd.R k43 43 w' w.heap.size (fun _ => True) v0_ r /\ Below w.heap.size w w' := by
 have hu55 := Tryd.underlying55
 have HR0 := Aside0.mk hr0
 have HC0 := Aside0.mk hc0
 clear hr0 hc0
 have HB := Aside0.mk (Below.refl w.heap.size w)
 have H : ((impl_NodesOk.f k l0).bind fun t544 => (if t544 = true then ((impl_copyNodes.f l0).bind fun t545 => ((impl_binders.f k l0).bind fun t548 => ((impl_FreeNames.f k l0).bind fun t551 => ((impl_Sites.f k l0).bind fun t554 => (impl_Canon.l0 k t545 t548 t551 0 t554 (t554.length : Int) 0))))) else (some ([] : List (S43))))) = some r := h
 clear h
 replace H := bi H
 obtain ⟨t544, A20, H⟩ := H
 try dsimp only at H
 have A2 := Aside0.mk A20
 clear A20
 by_cases c3 : t544 = true
 ·subst c3
  have H1 := hp H
  clear H
  have H := H1
  clear H1
  replace H := bi H
  obtain ⟨t545, A40, H⟩ := H
  try dsimp only at H
  have A4 := Aside0.mk A40
  clear A40
  replace H := bi H
  obtain ⟨t548, A50, H⟩ := H
  try dsimp only at H
  have A5 := Aside0.mk A50
  clear A50
  replace H := bi H
  obtain ⟨t551, A60, H⟩ := H
  try dsimp only at H
  have A6 := Aside0.mk A60
  clear A60
  replace H := bi H
  obtain ⟨t554, A70, H⟩ := H
  try dsimp only at H
  have A7 := Aside0.mk A70
  clear A70
  have H' := Aside0.mk H
  clear H
  go_enter Tryd.func30, Tryd.ntmps30
  go_wp2_with (first | ((with_reducible refine gate_callee (f := 36) rfl ?_); refine goesL_ (some 10) rfl rfl Tryd.func36 (by kernel_rfl) rfl #[.slice A0 l0.length c0] rfl lz ?_; (with_reducible refine (impl_NodesOk.calls k _ _ l0 true _ ?side1 ?side2 A2.out).mono ?_); (case side1 => repeat (first | exact HR0.out | (with_reducible refine Kd.C_alloc ?_ _) | (with_reducible refine Kd.C_drewN ?_ _) | (with_reducible refine Kd.C_drew ?_))); (case side2 => exact HC0.out); rintro e w8 ⟨rfl, hb⟩; refine ⟨_, rfl, ?_⟩; replace HB := Aside0.mk (below_step (bz0 HB.out) hb); (try clear hb); (try clear hi)) | ((with_reducible refine gate_callee (f := 58) rfl ?_); refine goesL_ (some 13) rfl rfl Tryd.func58 (by kernel_rfl) rfl #[.slice A0 l0.length c0] rfl lz ?_; (with_reducible refine (impl_copyNodes.calls _ _ l0 t545 _ ?side1 ?side2 A4.out).mono ?_); (case side1 => exact cz (Kd.C_below HR0.out HB.out)); (case side2 => exact HC0.out); rintro e w9 ⟨v546, rfl, ho0, hb⟩; refine ⟨_, rfl, ?_⟩; have HO547 := Aside0.mk (Kd.R_lower ho0 (below_size (bz0 HB.out))); replace HB := Aside0.mk (below_step (bz0 HB.out) hb); (try clear hb); (try clear ho0)) | ((with_reducible refine gate_callee (f := 50) rfl ?_); refine goesL_ (some 15) rfl rfl Tryd.func50 (by kernel_rfl) rfl #[.slice A0 l0.length c0] rfl lz ?_; (with_reducible refine (impl_binders.calls k _ _ l0 t548 _ ?side1 ?side2 A5.out).mono ?_); (case side1 => exact cz (Kd.C_below HR0.out HB.out)); (case side2 => exact HC0.out); rintro e w10 ⟨v549, rfl, ho0, hb⟩; refine ⟨_, rfl, ?_⟩; replace HO547 := qz HO547 hb; have HO550 := Aside0.mk (Kd.R_lower ho0 (below_size (bz0 HB.out))); replace HB := Aside0.mk (below_step (bz0 HB.out) hb); (try clear hb); (try clear ho0)) | ((with_reducible refine gate_callee (f := 26) rfl ?_); refine goesL_ (some 17) rfl rfl Tryd.func26 (by kernel_rfl) rfl #[.slice A0 l0.length c0] rfl lz ?_; (with_reducible refine (impl_FreeNames.calls k _ _ l0 t551 _ ?side1 ?side2 A6.out).mono ?_); (case side1 => exact cz (Kd.C_below HR0.out HB.out)); (case side2 => exact HC0.out); rintro e w11 ⟨v552, rfl, ho0, hb⟩; refine ⟨_, rfl, ?_⟩; replace HO547 := qz HO547 hb; replace HO550 := qz HO550 hb; have HO553 := Aside0.mk (Kd.R_lower ho0 (below_size (bz0 HB.out))); replace HB := Aside0.mk (below_step (bz0 HB.out) hb); (try clear hb); (try clear ho0)) | ((with_reducible refine gate_callee (f := 59) rfl ?_); refine goesL_ (some 19) rfl rfl Tryd.func59 (by kernel_rfl) rfl #[.slice A0 l0.length c0] rfl lz ?_; (with_reducible refine (impl_Sites.calls k _ _ l0 t554 _ ?side1 ?side2 A7.out).mono ?_); (case side1 => exact cz (Kd.C_below HR0.out HB.out)); (case side2 => exact HC0.out); rintro e w12 ⟨v555, rfl, ho0, hb⟩; refine ⟨_, rfl, ?_⟩; replace HO547 := qz HO547 hb; replace HO553 := qz HO553 hb; have HO556 := Aside0.mk (Kd.R_lower (Kd.R_new' ho0 (Kd.R_lt (rz HO550.out))) (below_size (bz0 HB.out))); replace HO550 := Aside0.mk (Kd.R_elder' (rz HO550.out) (Kd.R_base ho0) hb); replace HB := Aside0.mk (below_step (bz0 HB.out) hb); (try clear hb); (try clear ho0); obtain ⟨Ao13, co13, eo13⟩ := Kd.R_slice HO556.out; subst eo13))
  go_loopg [6, 21] k (fun kq v6 v21 w' => ∃ (x3_1 : List (S43)) (x6_1 : Int) (x21_1 : Int), v6 = .int .i64 x6_1 /\ v21 = .int .i64 x21_1 /\ Aside0 (impl_Canon.l0 kq x3_1 t548 t551 x6_1 t554 (t554.length : Int) x21_1 = some r) /\ Aside0 (kq <= k) /\ Aside0 (Kd.R k43 43 w' w.heap.size (fun _ => True) v546 x3_1) /\ Aside0 (Kd.R k55 55 w' w.heap.size (fun k_ => some k_ ≠ ((.slice Ao13 t554.length co13) : Value).ownBlock) v549 t548) /\ Aside0 (Kd.R Kd.string 9 w' w.heap.size (fun _ => True) v552 t551) /\ Aside0 (Kd.R k55 55 w' w.heap.size (fun k_ => some k_ ≠ (v549 : Value).ownBlock) (.slice Ao13 t554.length co13) t554) /\ Aside0 (Below w.heap.size w w'))
  case atStart => exact ⟨(t545), (0), (0), ez, ez, H', ⟨Nat.le_refl _⟩, ⟨by refine rq ?_; exact HO547.out⟩, ⟨by refine rq ?_; exact Kd.R_mono HO550.out (fun _ hk => hk.2)⟩, ⟨by refine rq ?_; exact HO553.out⟩, ⟨by refine rq ?_; exact Kd.R_mono HO556.out (fun _ hk => hk.2)⟩, ⟨(bz0 HB.out)⟩⟩
  case round =>
   clear H'
   try clear c2
   try clear p2
   try clear c3
   try clear c5
   obtain ⟨x3_1, x6_1, x21_1, rfl, rfl, HA, HK1, HO_3, HO_4, HO_5, HO_19, HB⟩ := hrel
   cases gk with
   | zero => exact absurd HA.out (by simp [impl_Canon.l0])
   | succ k1 =>
    have H := HA.out
    clear HA
    simp only [impl_Canon.l0] at H
    by_cases c14 : x21_1 < (t554.length : Int)
    ·rw [if_pos c14] at H
     have c14b0 := decide_eq_true c14
     clear c14
     replace H := iz H
     obtain ⟨c15, H⟩ := H
     have c15b0 := decide_eq_true c15
     clear c15
     replace H := iz H
     obtain ⟨c16, H⟩ := H
     have c16b0 := decide_eq_true c16
     clear c16
     have H' := Aside0.mk H
     clear H
     have p557 : 0 <= (x21_1 : Int) := oz
     have q557 : x21_1 < (t554.length : Int) := oz
     obtain ⟨ad557, e557, hx557_0, hx557_1⟩ := at_T55 (Kd.R_reads' HO_19.out).2.2 x21_1 p557 q557
     cases e557
     replace p557 := eq_true p557
     replace q557 := eq_true q557
     go_wp2_with (first | ((with_reducible refine gate_dst (N := 8) rfl ?_); refine box_event ?hg (N := 8) ?hd (cs := #[.int .i64 0, .int .i64 0]) (t := 55) ?hr ?_; (case hd => rfl); (case hg => rfl); (case hr => exact vz); intro gb558 hg w17 hbox hb; replace HO_3 := qz HO_3 hb; replace HO_4 := Aside0.mk (Kd.R_below (Kd.R_elderB (rz HO_4.out) gb558 (Nat.le_of_eq hg.symm)) hb); replace HO_5 := qz HO_5 hb; replace HO_19 := Aside0.mk (Kd.R_below (Kd.R_elderB (rz HO_19.out) gb558 (Nat.le_of_eq hg.symm)) hb); have BK558 := Aside0.mk (hbox); have GW558 := Aside0.mk ((by rw [hg]; exact (below_size (bz0 HB.out)) : w.heap.size <= gb558)); have GE558 := Aside0.mk ((by rw [hg]; exact (below_size (bz0 HB.out)) : w.heap.size <= gb558)); replace HB := Aside0.mk (below_step (bz0 HB.out) hb); clear hb hbox hg; obtain ⟨hcz18_0, hcz18_1⟩ := cz2 BK558.out; obtain ⟨hfz18_0, hfz18_1⟩ := fz2 BK558.out))
     (try simp only [Act.put, sz1, sz2, sz3])
     go_loopg [6] k1 (fun kq v6 w' => ∃ (x6_2 : Int), v6 = .int .i64 x6_2 /\ Aside0 (impl_Canon.l1 kq x3_1 t548 t551 x6_2 t554 (t554.length : Int) x21_1 ((rd_T55 t554 x21_1).f0) ((rd_T55 t554 x21_1).f1) = some r) /\ Aside0 (kq <= k1) /\ Aside0 (Kd.R k43 43 w' w.heap.size (fun _ => True) v546 x3_1) /\ Aside0 (Kd.R k55 55 w' w.heap.size (fun k_ => some k_ ≠ ((.slice (some ad557) t554.length co13) : Value).ownBlock /\ k_ ≠ gb558) v549 t548) /\ Aside0 (Kd.R Kd.string 9 w' w.heap.size (fun _ => True) v552 t551) /\ Aside0 (Kd.R k55 55 w' w.heap.size (fun k_ => some k_ ≠ (v549 : Value).ownBlock /\ k_ ≠ gb558) (.slice (some ad557) t554.length co13) t554) /\ Aside0 (w'.heap[gb558]? = some (.cells #[.int .i64 ((rd_T55 t554 x21_1).f0), .int .i64 ((rd_T55 t554 x21_1).f1)] 55 (0, 0))) /\ Aside0 (Below w.heap.size w w'))
     case atStart => exact ⟨(x6_1), ez, H', ⟨Nat.le_refl _⟩, ⟨by refine rq ?_; first | (with_reducible exact Kd.R_mono (Kd.R_far (p := ⟨gb558, 1, none⟩) (Kd.R_far (p := ⟨gb558, 0, none⟩) (Kd.R_types HO_3.out BK558.out (by decide)) (fun _ hk => hk.2) (.int .i64 ((rd_T55 t554 x21_1).f0))) (fun _ hk => hk.2) (.int .i64 ((rd_T55 t554 x21_1).f1))) (fun _ hk => trivial)) | (with_reducible exact Kd.R_mono (Kd.R_far (p := ⟨gb558, 1, none⟩) (Kd.R_drewN (Kd.R_far (p := ⟨gb558, 0, none⟩) (Kd.R_types HO_3.out BK558.out (by decide)) (fun _ hk => hk.2) (.int .i64 ((rd_T55 t554 x21_1).f0))) _) (fun _ hk => hk.2) (.int .i64 ((rd_T55 t554 x21_1).f1))) (fun _ hk => trivial)) | exact Kd.R_mono (Kd.R_far (p := ⟨gb558, 1, none⟩) (Kd.R_drewN (Kd.R_far (p := ⟨gb558, 0, none⟩) (Kd.R_types HO_3.out BK558.out (by decide)) (fun _ hk => hk.2) (.int .i64 ((rd_T55 t554 x21_1).f0))) _) (fun _ hk => hk.2) (.int .i64 ((rd_T55 t554 x21_1).f1))) (fun _ hk => trivial)⟩, ⟨by refine rq ?_; first | (with_reducible exact Kd.R_mono (Kd.R_far (p := ⟨gb558, 1, none⟩) (Kd.R_far (p := ⟨gb558, 0, none⟩) (Kd.R_mono HO_4.out (fun k_ hk => (⟨hk, hk.2⟩ : _ /\ k_ ≠ gb558))) (fun _ hk => hk.2) (.int .i64 ((rd_T55 t554 x21_1).f0))) (fun _ hk => hk.2) (.int .i64 ((rd_T55 t554 x21_1).f1))) (fun _ hk => ⟨hk.1.1, hk.1.2⟩)) | (with_reducible exact Kd.R_mono (Kd.R_far (p := ⟨gb558, 1, none⟩) (Kd.R_drewN (Kd.R_far (p := ⟨gb558, 0, none⟩) (Kd.R_mono HO_4.out (fun k_ hk => (⟨hk, hk.2⟩ : _ /\ k_ ≠ gb558))) (fun _ hk => hk.2) (.int .i64 ((rd_T55 t554 x21_1).f0))) _) (fun _ hk => hk.2) (.int .i64 ((rd_T55 t554 x21_1).f1))) (fun _ hk => ⟨hk.1.1, hk.1.2⟩)) | exact Kd.R_mono (Kd.R_far (p := ⟨gb558, 1, none⟩) (Kd.R_drewN (Kd.R_far (p := ⟨gb558, 0, none⟩) (Kd.R_mono HO_4.out (fun k_ hk => (⟨hk, hk.2⟩ : _ /\ k_ ≠ gb558))) (fun _ hk => hk.2) (.int .i64 ((rd_T55 t554 x21_1).f0))) _) (fun _ hk => hk.2) (.int .i64 ((rd_T55 t554 x21_1).f1))) (fun _ hk => ⟨hk.1.1, hk.1.2⟩)⟩, ⟨by refine rq ?_; first | (with_reducible exact Kd.R_mono (Kd.R_far (p := ⟨gb558, 1, none⟩) (Kd.R_far (p := ⟨gb558, 0, none⟩) (Kd.R_types HO_5.out BK558.out (by decide)) (fun _ hk => hk.2) (.int .i64 ((rd_T55 t554 x21_1).f0))) (fun _ hk => hk.2) (.int .i64 ((rd_T55 t554 x21_1).f1))) (fun _ hk => trivial)) | (with_reducible exact Kd.R_mono (Kd.R_far (p := ⟨gb558, 1, none⟩) (Kd.R_drewN (Kd.R_far (p := ⟨gb558, 0, none⟩) (Kd.R_types HO_5.out BK558.out (by decide)) (fun _ hk => hk.2) (.int .i64 ((rd_T55 t554 x21_1).f0))) _) (fun _ hk => hk.2) (.int .i64 ((rd_T55 t554 x21_1).f1))) (fun _ hk => trivial)) | exact Kd.R_mono (Kd.R_far (p := ⟨gb558, 1, none⟩) (Kd.R_drewN (Kd.R_far (p := ⟨gb558, 0, none⟩) (Kd.R_types HO_5.out BK558.out (by decide)) (fun _ hk => hk.2) (.int .i64 ((rd_T55 t554 x21_1).f0))) _) (fun _ hk => hk.2) (.int .i64 ((rd_T55 t554 x21_1).f1))) (fun _ hk => trivial)⟩, ⟨by refine rq ?_; first | (with_reducible exact Kd.R_mono (Kd.R_far (p := ⟨gb558, 1, none⟩) (Kd.R_far (p := ⟨gb558, 0, none⟩) (Kd.R_mono HO_19.out (fun k_ hk => (⟨hk, hk.2⟩ : _ /\ k_ ≠ gb558))) (fun _ hk => hk.2) (.int .i64 ((rd_T55 t554 x21_1).f0))) (fun _ hk => hk.2) (.int .i64 ((rd_T55 t554 x21_1).f1))) (fun _ hk => ⟨hk.1.1, hk.1.2⟩)) | (with_reducible exact Kd.R_mono (Kd.R_far (p := ⟨gb558, 1, none⟩) (Kd.R_drewN (Kd.R_far (p := ⟨gb558, 0, none⟩) (Kd.R_mono HO_19.out (fun k_ hk => (⟨hk, hk.2⟩ : _ /\ k_ ≠ gb558))) (fun _ hk => hk.2) (.int .i64 ((rd_T55 t554 x21_1).f0))) _) (fun _ hk => hk.2) (.int .i64 ((rd_T55 t554 x21_1).f1))) (fun _ hk => ⟨hk.1.1, hk.1.2⟩)) | exact Kd.R_mono (Kd.R_far (p := ⟨gb558, 1, none⟩) (Kd.R_drewN (Kd.R_far (p := ⟨gb558, 0, none⟩) (Kd.R_mono HO_19.out (fun k_ hk => (⟨hk, hk.2⟩ : _ /\ k_ ≠ gb558))) (fun _ hk => hk.2) (.int .i64 ((rd_T55 t554 x21_1).f0))) _) (fun _ hk => hk.2) (.int .i64 ((rd_T55 t554 x21_1).f1))) (fun _ hk => ⟨hk.1.1, hk.1.2⟩)⟩, ⟨by refine kq ?_; refine blk_put (cs := #[.int .i64 ((rd_T55 t554 x21_1).f0), .int .i64 0]) ?_ 1 _ rfl; refine kq ?_; refine blk_put (cs := #[.int .i64 0, .int .i64 0]) ?_ 0 _ rfl; refine kq ?_; exact BK558.out⟩, ⟨(bz1 HB.out GE558.out)⟩⟩
     case round =>
      clear H'
      try clear c1
      try clear c2
      try clear p2
      try clear c3
      try clear c5
      try clear p5
      try clear q5
      try clear hx5
      try clear c14
      try clear c14b0
      try clear c15
      try clear c15b0
      try clear c16
      try clear c16b0
      try clear hcz18_0 hcz18_1
      try clear hfz18_0 hfz18_1
      try clear hx557_0
      try clear hx557_1
      try clear p2
      try clear p557
      try clear q557
      obtain ⟨x6_2, rfl, HA, HK2, HO_3, HO_4, HO_5, HO_19, BK558, HB⟩ := hrel
      cases gk with
      | zero => exact absurd HA.out (by simp [impl_Canon.l1])
      | succ k2 =>
       have H := HA.out
       clear HA
       simp only [impl_Canon.l1] at H
       replace H := bi H
       obtain ⟨t559, A190, H⟩ := H
       try dsimp only at H
       have A19 := Aside0.mk A190
       clear A190
       replace H := bi H
       obtain ⟨t560, A200, H⟩ := H
       try dsimp only at H
       have A20 := Aside0.mk A200
       clear A200
       by_cases c21 : t560 = true
       ·subst c21
        have H1 := hp H
        clear H
        have H := H1
        clear H1
        have H' := Aside0.mk H
        clear H
        go_wp2_with (first | ((with_reducible refine gate_callee (f := 61) rfl ?_); refine goesL_ (some 27) rfl rfl Tryd.func61 (by kernel_rfl) rfl #[.int .i64 x6_2] rfl lz ?_; (with_reducible refine (impl_FreshName.calls k2 x6_2 t559 _ A19.out).mono ?_); rintro e w22 ⟨rfl, hb⟩; refine ⟨_, rfl, ?_⟩; replace HO_3 := qz HO_3 hb; replace HO_4 := qz HO_4 hb; replace HO_5 := qz HO_5 hb; replace HO_19 := qz HO_19 hb; replace BK558 := Aside0.mk (blk_below (kz BK558.out) hb); replace HB := Aside0.mk (below_step (bz1 HB.out GE558.out) hb); (try clear hb); obtain ⟨Ao23, co23, eo23⟩ := Kd.R_slice HO_5.out; subst eo23) | ((with_reducible refine gate_callee (f := 60) rfl ?_); refine goesL_ (some 28) rfl rfl Tryd.func60 (by kernel_rfl) rfl #[.slice Ao23 t551.length co23, .string t559] rfl lz ?_; (with_reducible refine (impl_hasText.calls k2 _ _ t551 t559 true _ ?side1 ?side2 A20.out).mono ?_); (case side1 => exact cz (Kd.R_reads' HO_5.out).2.2); (case side2 => exact (Kd.R_reads' HO_5.out).2.1); rintro e w' ⟨rfl, ⟨nd, rfl⟩⟩; refine ⟨_, rfl, ?_⟩))
        go_roundg k2
        case measure => have := HK1.out; have := HK2.out; omega
        case rel => exact ⟨(wrap64 (x6_2 + 1)), ez, H', ⟨by have := HK1.out; have := HK2.out; omega⟩, ⟨by refine rq ?_; exact HO_3.out⟩, ⟨by refine rq ?_; exact HO_4.out⟩, ⟨by refine rq ?_; exact HO_5.out⟩, ⟨by refine rq ?_; exact HO_19.out⟩, ⟨by refine kq ?_; exact BK558.out⟩, ⟨(bz1 HB.out GE558.out)⟩⟩
       ·replace c21 := Bool.eq_false_iff.mpr c21
        subst c21
        have H1 := hq H
        clear H
        have H := H1
        clear H1
        replace H := bi H
        obtain ⟨t561, A240, H⟩ := H
        try dsimp only at H
        have A24 := Aside0.mk A240
        clear A240
        replace H := bi H
        obtain ⟨t562, A250, H⟩ := H
        try dsimp only at H
        have A25 := Aside0.mk A250
        clear A250
        have H' := Aside0.mk H
        clear H
        try go_wp2_with (first | ((with_reducible refine gate_callee (f := 61) rfl ?_); refine goesL_ (some 27) rfl rfl Tryd.func61 (by kernel_rfl) rfl #[.int .i64 x6_2] rfl lz ?_; (with_reducible refine (impl_FreshName.calls k2 x6_2 t559 _ A19.out).mono ?_); rintro e w26 ⟨rfl, hb⟩; refine ⟨_, rfl, ?_⟩; replace HO_3 := qz HO_3 hb; replace HO_4 := qz HO_4 hb; replace HO_5 := qz HO_5 hb; replace HO_19 := qz HO_19 hb; replace BK558 := Aside0.mk (blk_below (kz BK558.out) hb); replace HB := Aside0.mk (below_step (bz1 HB.out GE558.out) hb); (try clear hb); obtain ⟨Ao27, co27, eo27⟩ := Kd.R_slice HO_5.out; subst eo27) | ((with_reducible refine gate_callee (f := 60) rfl ?_); refine goesL_ (some 28) rfl rfl Tryd.func60 (by kernel_rfl) rfl #[.slice Ao27 t551.length co27, .string t559] rfl lz ?_; (with_reducible refine (impl_hasText.calls k2 _ _ t551 t559 false _ ?side1 ?side2 A20.out).mono ?_); (case side1 => exact cz (Kd.R_reads' HO_5.out).2.2); (case side2 => exact (Kd.R_reads' HO_5.out).2.1); rintro e w' ⟨rfl, ⟨nd, rfl⟩⟩; refine ⟨_, rfl, ?_⟩))
        (try (rw [drewN_self w26]; generalize hq_ : World.drewN w26 _ = w26; have n0_ : Aside0 (Kd.R k55 55 w26 w.heap.size (fun k_ => some k_ ≠ (v549 : Value).ownBlock /\ k_ ≠ gb558) (.slice (some ad557) t554.length co13) t554) := ⟨by rw [<- hq_]; exact (rz HO_19.out)⟩; have n1_ : Aside0 (Kd.R k43 43 w26 w.heap.size (fun _ => True) v546 x3_1) := ⟨by rw [<- hq_]; exact (rz HO_3.out)⟩; have n2_ : Aside0 (Kd.R k55 55 w26 w.heap.size (fun k_ => some k_ ≠ (.slice (some ad557) t554.length co13 : Value).ownBlock /\ k_ ≠ gb558) v549 t548) := ⟨by rw [<- hq_]; exact (rz HO_4.out)⟩; have n3_ : Aside0 (Kd.R Kd.string 9 w26 w.heap.size (fun _ => True) (.slice Ao27 t551.length co27) t551) := ⟨by rw [<- hq_]; exact (rz HO_5.out)⟩; have n4_ : Aside0 (w26.heap[gb558]? = some (.cells #[.int .i64 ((rd_T55 t554 x21_1).f0), .int .i64 ((rd_T55 t554 x21_1).f1)] 55 (0, 0))) := ⟨by rw [<- hq_]; exact (kz BK558.out)⟩; have n5_ : Aside0 (Below w.heap.size w w26) := ⟨by rw [<- hq_]; exact (bz1 HB.out GE558.out)⟩; clear HO_19 HO_3 HO_4 HO_5 BK558 HB hq_; have HO_19 := n0_; have HO_3 := n1_; have HO_4 := n2_; have HO_5 := n3_; have BK558 := n4_; have HB := n5_; clear n0_ n1_ n2_ n3_ n4_ n5_))
        have n0_ := Aside0.mk (Kd.R_drew HO_3.out)
        have n1_ := Aside0.mk (Kd.R_drew HO_4.out)
        have n2_ := Aside0.mk (Kd.R_drew HO_5.out)
        have n3_ := Aside0.mk (Kd.R_drew HO_19.out)
        have n4_ := Aside0.mk (blk_drew BK558.out)
        have n5_ := Aside0.mk (below_drew1 HB.out)
        clear HO_3
        clear HO_4
        clear HO_5
        clear HO_19
        clear BK558
        clear HB
        have HO_3 := n0_
        have HO_4 := n1_
        have HO_5 := n2_
        have HO_19 := n3_
        have BK558 := n4_
        have HB := n5_
        clear n0_ n1_ n2_ n3_ n4_ n5_
        refine start_ (n := 6) (S := fun w' => w'.cell? ⟨gb558, 0, none⟩ = some (.int .i64 ((rd_T55 t554 x21_1).f0)) /\ w'.cell? ⟨gb558, 1, none⟩ = some (.int .i64 ((rd_T55 t554 x21_1).f1))) (ds := []) #[ff, ff, ff, ff, ff, ff] (by kernel_rfl) rfl rfl ⟨(blk_cell BK558.out 0).trans rfl, (blk_cell BK558.out 1).trans rfl⟩ (fun hHeld => ?_)
        generalize w26.drew = w28 at HO_3 HO_4 HO_5 HO_19 BK558 HB hHeld ⊢
        refine pure_ (i := 0) (N := some 31) (v := ?_) (a' := ?_) #[tt, ff, ff, ff, ff, ff] rfl rfl (by kernel_rfl) (fun _ _ _ h => h) (Or.inl ⟨by rfl, ?_⟩) ?_ ?_
        rotate_left
        ·intro w'
         go_simp
         with_reducible rfl
        rotate_left
        ·simp only [Act.put, sz1, sz2, sz3, i64_w, i32_w]
         rfl
        refine pure_ (i := 1) (N := some 32) (v := ?_) (a' := ?_) #[tt, tt, ff, ff, ff, ff] rfl rfl (by kernel_rfl) (fun _ _ _ h => h) (Or.inl ⟨by rfl, ?_⟩) ?_ ?_
        rotate_left
        ·intro w'
         go_simp
         with_reducible rfl
        rotate_left
        ·simp only [Act.put, sz1, sz2, sz3, i64_w, i32_w]
         rfl
        refine pure_ (i := 3) (N := some 34) (v := ?_) (a' := ?_) #[tt, tt, ff, tt, ff, ff] rfl rfl (by kernel_rfl) (fun _ _ _ h => h) (Or.inl ⟨by rfl, ?_⟩) ?_ ?_
        rotate_left
        ·intro w'
         go_simp
         with_reducible rfl
        rotate_left
        ·simp only [Act.put, sz1, sz2, sz3, i64_w, i32_w]
         rfl
        refine take_ (i := 2) (N := some 33) (v := ?_) (a' := ?_) #[tt, tt, tt, tt, ff, ff] rfl rfl (by kernel_rfl) (fun _ _ _ h => h) (Or.inl ⟨by rfl, ?_⟩) hHeld ?_ ?_
        rotate_left
        ·rintro w' ⟨s0, s1⟩
         go_simp
         with_reducible rfl
        rotate_left
        ·simp only [Act.put, sz1, sz2, sz3, i64_w, i32_w]
         rfl
        refine one_ (i := 4) (N := some 35) #[tt, tt, tt, tt, tt, ff] rfl rfl (by kernel_rfl) (by decide) (fun K hK => ?_)
        refine goes_ Tryd.func61 (by kernel_rfl) rfl #[.int .i64 x6_2] (by rfl) rfl rfl lz ?_
        with_reducible refine (impl_FreshName.calls k2 x6_2 t561 _ A24.out).mono ?_
        rintro e w29 ⟨rfl, hb⟩
        refine ⟨_, rfl, ?_⟩
        have n0_ := qz HO_3 hb
        have n1_ := qz HO_4 hb
        have n2_ := qz HO_5 hb
        have n3_ := qz HO_19 hb
        have n4_ := Aside0.mk (blk_below (kz BK558.out) hb)
        have n5_ := Aside0.mk (below_step (bz1 HB.out GE558.out) hb)
        clear HO_3
        clear HO_4
        clear HO_5
        clear HO_19
        clear BK558
        clear HB
        have HO_3 := n0_
        have HO_4 := n1_
        have HO_5 := n2_
        have HO_19 := n3_
        have BK558 := n4_
        have HB := n5_
        clear n0_ n1_ n2_ n3_ n4_ n5_
        (try clear hb)
        (try clear hb2)
        (try clear hk)
        (try clear hi)
        obtain ⟨Ao30, co30, eo30⟩ := Kd.R_slice HO_3.out
        (first | subst eo30 | (injection eo30 with f1_ f2_ f3_; have f4_ := f1_.symm; have f5_ := f3_.symm; clear f1_ f2_ f3_; subst f4_; subst f5_))
        obtain ⟨Ao31, co31, eo31⟩ := Kd.R_slice HO_4.out
        (first | subst eo31 | (injection eo31 with f1_ f2_ f3_; have f4_ := f1_.symm; have f5_ := f3_.symm; clear f1_ f2_ f3_; subst f4_; subst f5_))
        refine hK.out _ _ ⟨(blk_cell BK558.out 0).trans rfl, (blk_cell BK558.out 1).trans rfl⟩ (fun hHeld => ?_)
        clear hK K
        refine norm_ (a' := ?_) ?_ ?_
        rotate_left
        ·show Act.put _ (some 35) _ = _
         simp only [Act.put, sz1, sz2, sz3, i64_w, i32_w]
         rfl
        refine one_ (i := 5) (N := some 36) #[tt, tt, tt, tt, tt, tt] rfl rfl (by kernel_rfl) (by decide) (fun K hK => ?_)
        refine goes_ Tryd.func62 (by kernel_rfl) rfl #[.slice Ao30 x3_1.length co30, .slice Ao31 t548.length co31, .agg #[.int .i64 ((rd_T55 t554 x21_1).f0), .int .i64 ((rd_T55 t554 x21_1).f1)], .string t561] (by rfl) rfl rfl lz ?_
        with_reducible refine (impl_rename.calls k2 (fun k_ => some k_ = (.slice Ao30 x3_1.length co30 : Value).ownBlock) (.slice Ao30 x3_1.length co30) x3_1 _ _ t548 ((rd_T55 t554 x21_1).f0) ((rd_T55 t554 x21_1).f1) t561 t562 w _ ?side1 ?side2 ?side3 ?side4 A25.out).mono ?_
        (case side1 => repeat (first | (with_reducible first | exact HB.out | apply below_alloc | apply pw_below_drewN | apply below_drew1 | refine below_set ?_ GE558.out) | exact HB.out))
        (case side2 => exact Kd.R_tight rfl HO_3.out)
        (case side3 => exact Kd.C_kept_own ((Kd.R_apart' HO_4.out (Kd.R_typed HO_3.out) (by decide))) (fun k_ hk_ hs_ => (hk_.2) hs_))
        (case side4 => exact (Kd.R_reads' HO_4.out).2.1)
        rintro e w32 ⟨rfl, hy0, hb, hkp⟩
        refine ⟨_, rfl, ?_⟩
        have n0_ := Aside0.mk (Kd.R_reok rfl hy0 (fun k_ e_ => HO_3.out.1 k_ e_))
        have n1_ := Aside0.mk (Kd.R_mono (ok' := fun k_ => some k_ ≠ (.slice (some ad557) t554.length co13 : Value).ownBlock /\ k_ ≠ gb558) (Kd.R_keptB ((Kd.R_apart' HO_4.out (Kd.R_typed HO_3.out) (by decide))) hkp (fun k_ hk_ hs_ => (hk_.2) hs_)) (fun k_ hk_ => ⟨hk_.1.1.1, hk_.1.1.2⟩))
        have n2_ := Aside0.mk (Kd.R_mono (ok' := fun k_ => True) (Kd.R_keptB ((Kd.R_apart' HO_5.out (Kd.R_typed HO_3.out) (by decide))) hkp (fun k_ hk_ hs_ => (hk_.2) hs_)) (fun k_ hk_ => trivial))
        have n3_ := Aside0.mk (Kd.R_mono (ok' := fun k_ => some k_ ≠ (.slice Ao31 t548.length co31 : Value).ownBlock /\ k_ ≠ gb558) (Kd.R_keptB ((Kd.R_apart' HO_19.out (Kd.R_typed HO_3.out) (by decide))) hkp (fun k_ hk_ hs_ => (hk_.2) hs_)) (fun k_ hk_ => ⟨hk_.1.1.1, hk_.1.1.2⟩))
        have n4_ := Aside0.mk (blk_kept (kz BK558.out) hkp (fun hs_ => (fun e_ => (Kd.R_ne HO_3.out BK558.out (by decide)) e_) hs_))
        have n5_ := Aside0.mk (hb)
        clear HO_3
        clear HO_4
        clear HO_5
        clear HO_19
        clear BK558
        clear HB
        have HO_3 := n0_
        have HO_4 := n1_
        have HO_5 := n2_
        have HO_19 := n3_
        have BK558 := n4_
        have HB := n5_
        clear n0_ n1_ n2_ n3_ n4_ n5_
        (try clear hb)
        (try clear hkp)
        (try clear hy0)
        refine hK.out _ _ ⟨(blk_cell BK558.out 0).trans rfl, (blk_cell BK558.out 1).trans rfl⟩ (fun hHeld => ?_)
        clear hK K
        refine norm_ (a' := ?_) ?_ ?_
        rotate_left
        ·show Act.put _ (some 36) _ = _
         simp only [Act.put, sz1, sz2, sz3, i64_w, i32_w]
         rfl
        refine done_ (by kernel_rfl) ?_
        try go_wp2
        go_roundg k2
        case measure => have := HK1.out; have := HK2.out; omega
        case rel => exact ⟨(t562), (wrap64 (x6_2 + 1)), (wrap64 (x21_1 + 1)), ez, ez, H', ⟨by have := HK1.out; have := HK2.out; omega⟩, ⟨by refine rq ?_; exact HO_3.out⟩, ⟨by refine rq ?_; exact Kd.R_mono HO_4.out (fun _ hk => hk.1)⟩, ⟨by refine rq ?_; exact HO_5.out⟩, ⟨by refine rq ?_; exact Kd.R_mono HO_19.out (fun _ hk => hk.1)⟩, ⟨(bz1 HB.out GE558.out)⟩⟩
    ·rw [if_neg c14] at H
     have c14b0 := decide_eq_false c14
     clear c14
     obtain rfl := Option.some.inj H
     go_wp2
     go_ret
     exact ⟨_, gz, by refine rq ?_; exact HO_3.out, (bz0 HB.out)⟩
 ·replace c3 := Bool.eq_false_iff.mpr c3
  subst c3
  have H1 := hq H
  clear H
  have H := H1
  clear H1
  obtain rfl := Option.some.inj H
  go_enter Tryd.func30, Tryd.ntmps30
  go_wp2_with (first | ((with_reducible refine gate_callee (f := 36) rfl ?_); refine goesL_ (some 10) rfl rfl Tryd.func36 (by kernel_rfl) rfl #[.slice A0 l0.length c0] rfl lz ?_; (with_reducible refine (impl_NodesOk.calls k _ _ l0 false _ ?side1 ?side2 A2.out).mono ?_); (case side1 => repeat (first | exact HR0.out | (with_reducible refine Kd.C_alloc ?_ _) | (with_reducible refine Kd.C_drewN ?_ _) | (with_reducible refine Kd.C_drew ?_))); (case side2 => exact HC0.out); rintro e w33 ⟨rfl, hb⟩; refine ⟨_, rfl, ?_⟩; replace HB := Aside0.mk (below_step (bz0 HB.out) hb); (try clear hb); (try clear hi)))
  go_ret
  exact ⟨_, gz, by first | exact Kd.R_nil _ _ _ _ _ | exact Kd.N_nil _ _ _ _ _ | exact Kd.V_nil _ _ _ _ _ | exact Kd.Q_nil _ _ _ _ _ | exact Kd.S_nil _ _ _ _ _, (bz0 HB.out)⟩
end Go.Proofs.YtmilegjmiiccdaaDoor.PFnExactCanon
