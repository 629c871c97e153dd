/- PFnExactUnifiedx6, of the words and walks that the law FnExactUnified needs; made by this session's program out of printed texts. -/

import Derived.Test.YtlhofeikcaejpaaDoorVEUnifiedPx0
import Derived.Test.YtlhofeikcaejpaaDoorVEUnifiedPx1
import Derived.Test.YtlhofeikcaejpaaDoorVEUnifiedPx4
import Derived.Test.YtlhofeikcaejpaaDoorVEUnifiedPx5
namespace Go.Proofs.YtlhofeikcaejpaaDoor.PFnExactUnified
open Go.RowKit Go.Proofs.YtlhofeikcaejpaaDoorW.PrintWords Go.Proofs.YtlhofeikcaejpaaDoorW.PrintLast Go.Proofs.YtlhofeikcaejpaaDoorW.PrintMore
attribute [local go_sem] max2_int min2_int max_two min_two max_three min_three max_four min_four
set_option linter.unusedVariables false
set_option linter.unusedSimpArgs false
set_option maxHeartbeats 8000000 in
set_option maxRecDepth 100000 in
theorem solver_root.calls (k : Nat) (A0 : Option Addr) (c0 : Nat) (l0 : List S55) (b : Nat) (i r : Int) (w : World) (hbk : w.heap[b]? = some (.cells #[.slice A0 l0.length c0] 103 (0, 0))) (hr0 : Kd.C k55 w A0 l0.length l0) (h : chase k l0 i = some r) :
  Calls Tryd.prog 84 #[.pointer (some ⟨b, 0, none⟩), .int .i64 i] w fun e w' => e = .returned (.int .i64 r) /\ Drawn0 w w' := by
 have hu55 := Tryd.underlying55
 have HR0 := Aside0.mk hr0
 have hsc : w.cell? ⟨b, 0, none⟩ = some (.slice A0 l0.length c0) := (blk_cell hbk 0).trans rfl
 clear hr0 hbk
 have H' := Aside0.mk h
 clear h
 go_enter Tryd.func84, Tryd.ntmps84
 go_wp2
 go_loopg [1] k (fun kq v1 w' => ∃ (x : Int), v1 = .int .i64 x /\ Aside0 (chase kq l0 x = some r) /\ Aside0 (kq <= k) /\ Drawn0 w w')
 case atStart => exact ⟨i, rfl, H', ⟨Nat.le_refl _⟩, dz⟩
 case round =>
  clear H'
  obtain ⟨x, rfl, HA, HK1, ⟨m1, rfl⟩⟩ := hrel
  cases gk with
  | zero => exact absurd HA.out (by simp [chase])
  | succ k1 =>
   have H := HA.out
   clear HA
   simp only [chase] at H
   by_cases c3 : 0 <= x
   ·rw [if_pos c3] at H
    by_cases c4 : x < (l0.length : Int)
    ·rw [if_pos c4] at H
     obtain ⟨ad, e_, hx0, hx1, hx2⟩ := at_T55 HR0.out x c3 c4
     cases e_
     have c3t := eq_true c3
     have c4t := eq_true c4
     by_cases c5 : ((rd_T55 l0 x).f0) = 0
     ·rw [if_pos c5] at H
      have c5b0 : (((rd_T55 l0 x).f0) == 0) = true := beq_iff_eq.mpr c5
      clear c5
      by_cases c6 : ((rd_T55 l0 x).f1) ≥ 0
      ·rw [if_pos c6] at H
       have c6b0 : decide (0 <= ((rd_T55 l0 x).f1)) = true := decide_eq_true c6
       clear c6
       have H' := Aside0.mk H
       clear H
       go_wp2
       go_roundg k1
       case measure => have := HK1.out; omega
       case rel => exact ⟨_, rfl, H', ⟨by have := HK1.out; omega⟩, dz⟩
      ·rw [if_neg c6] at H
       have c6b0 : decide (0 <= ((rd_T55 l0 x).f1)) = false := decide_eq_false c6
       clear c6
       obtain rfl := Option.some.inj H
       go_wp2
       go_ret
       exact ⟨rfl, dz⟩
     ·rw [if_neg c5] at H
      have c5b0 : (((rd_T55 l0 x).f0) == 0) = false := beq_eq_false_iff_ne.mpr c5
      obtain rfl := Option.some.inj H
      go_wp2
      go_ret
      exact ⟨rfl, dz⟩
    ·rw [if_neg c4] at H
     cases H
   ·rw [if_neg c3] at H
    cases H
set_option maxHeartbeats 8000000 in
set_option maxRecDepth 100000 in
theorem solver_fits.calls (k : Nat) (A0 : Option Addr) (c0 : Nat) (l0 : List S55) (b : Nat) (i r : Int) (w : World) (hbk : w.heap[b]? = some (.cells #[.slice A0 l0.length c0] 103 (0, 0))) (hr0 : Kd.C k55 w A0 l0.length l0) (hc0 : l0.length <= c0) (h : impl_sizeOf.f k l0 i = some r) :
  Calls Tryd.prog 61 #[.pointer (some ⟨b, 0, none⟩), .int .i64 i] w fun e w' => e = .returned (.bool (decide (r <= 60))) /\ Below w.heap.size w w' := by
 have HR0 := Aside0.mk hr0
 have HC0 := Aside0.mk hc0
 have hsc : w.cell? ⟨b, 0, none⟩ = some (.slice A0 l0.length c0) := (blk_cell hbk 0).trans rfl
 clear hr0 hbk hc0
 have HB := Aside0.mk (Below.refl w.heap.size w)
 have A1 := Aside0.mk h
 clear h
 go_enter Tryd.func61, Tryd.ntmps61
 go_wp2_with (first | ((with_reducible refine gate_callee (f := 53) rfl ?_); refine goesL_ (some 10) rfl rfl Tryd.func53 (by kernel_rfl) rfl #[.slice A0 l0.length c0, .int .i64 i] rfl (by (try simp only [List.map_toArray, List.map_cons, List.map_nil]); first | done | rfl) ?_; (with_reducible refine (impl_sizeOf.calls k _ _ l0 i r _ ?side1 ?side2 A1.out).mono ?_); (case side1 => repeat (first | exact HR0.out | (with_reducible refine Kd.C_alloc ?_ _) | (with_reducible refine Kd.C_drewN ?_ _) | (with_reducible refine Kd.C_drew ?_))); (case side2 => exact HC0.out); rintro e w' ⟨rfl, hb⟩; refine ⟨_, rfl, ?_⟩; have n1_ := Aside0.mk (below_step (bz0 HB.out) hb); clear HB hb; have HB := n1_; clear n1_))
 go_ret
 exact ⟨rfl, (bz0 HB.out)⟩
mutual
def slvInL : Nat -> List S55 -> Int -> List Int -> Int -> Option Bool
 | 0, _, _, _, _ => none
 | k + 1, l, v, ks, j => if j < (ks.length : Int) then (if 0 <= j then ((slvIn k l v (rd ks j)).bind fun t => (if t = true then (some true) else (slvInL k l v ks (wrap64 (j + 1))))) else (none)) else (some false)
def slvIn : Nat -> List S55 -> Int -> Int -> Option Bool
 | 0, _, _, _ => none
 | k + 1, l, v, i => (chase k l i).bind fun j => (if j = v then (some true) else ((impl_partsOf.f k (rd_T55 l j).f0 (rd_T55 l j).f1 (rd_T55 l j).f2).bind fun ks => (slvInL k l v ks 0)))
end
set_option maxHeartbeats 8000000 in
set_option maxRecDepth 100000 in
theorem slvIn.calls (k : Nat) : ∀ (A0 : Option Addr) (c0 : Nat) (l0 : List S55) (b : Nat) (v i : Int) (r : Bool) (w : World) (hbk : w.heap[b]? = some (.cells #[.slice A0 l0.length c0] 103 (0, 0))) (hr0 : Kd.C k55 w A0 l0.length l0) (h : slvIn k l0 v i = some r),
  Calls Tryd.prog 85 #[.pointer (some ⟨b, 0, none⟩), .int .i64 v, .int .i64 i] w fun e w' => e = .returned (.bool r) /\ Below w.heap.size w w' := by
 induction k using Nat.strongRecOn with
 | _ k ih =>
 intro A0 c0 l0 b v i r w hbk hr0 h
 cases k with
 | zero => exact absurd h (by simp [slvIn])
 | succ k =>
 simp only [slvIn] at h
 have hu55 := Tryd.underlying55
 have HR0 := Aside0.mk hr0
 have BK := Aside0.mk hbk
 have hsc : w.cell? ⟨b, 0, none⟩ = some (.slice A0 l0.length c0) := (blk_cell hbk 0).trans rfl
 have HB := Aside0.mk (Below.refl w.heap.size w)
 clear hr0 hbk
 obtain ⟨j, hch, H⟩ := Option.bind_eq_some_iff.mp h
 have A1 := Aside0.mk hch
 obtain ⟨c3, c4⟩ := chase_in hch
 clear h hch
 by_cases c5 : j = v
 ·rw [if_pos c5] at H
  obtain rfl := Option.some.inj H
  have c5b : (j == v) = true := beq_iff_eq.mpr c5
  clear c5
  go_enter Tryd.func85, Tryd.ntmps85
  go_wp2_with (first | ((with_reducible refine gate_callee (f := 84) rfl ?_); refine goesL_ (some 11) rfl rfl Tryd.func84 (by kernel_rfl) rfl #[.pointer (some ⟨b, 0, none⟩), .int .i64 i] rfl (by (try simp only [List.map_toArray, List.map_cons, List.map_nil]); first | done | rfl) ?_; (with_reducible refine (solver_root.calls k A0 c0 l0 b i j _ ?side1 ?side2 A1.out).mono ?_); (case side1 => exact BK.out); (case side2 => repeat (first | exact HR0.out | (with_reducible refine Kd.C_alloc ?_ _) | (with_reducible refine Kd.C_drewN ?_ _) | (with_reducible refine Kd.C_drew ?_))); rintro e w' ⟨rfl, ⟨nd, rfl⟩⟩; refine ⟨_, rfl, ?_⟩))
  go_ret
  exact ⟨rfl, (bz0 HB.out)⟩
 ·rw [if_neg c5] at H
  have c5b : (j == v) = false := beq_eq_false_iff_ne.mpr c5
  clear c5
  obtain ⟨ks, hks, H⟩ := bi H
  have A2 := Aside0.mk hks
  clear hks
  have H' := Aside0.mk H
  clear H
  obtain ⟨ad, e_, hx0, hx1, hx2⟩ := at_T55 HR0.out j c3 c4
  cases e_
  have c3t := eq_true c3
  have c4t := eq_true c4
  go_enter Tryd.func85, Tryd.ntmps85
  go_wp2_with (first | ((with_reducible refine gate_callee (f := 84) rfl ?_); refine goesL_ (some 11) rfl rfl Tryd.func84 (by kernel_rfl) rfl #[.pointer (some ⟨b, 0, none⟩), .int .i64 i] rfl (by (try simp only [List.map_toArray, List.map_cons, List.map_nil]); first | done | rfl) ?_; (with_reducible refine (solver_root.calls k (some ad) c0 l0 b i j _ ?side1 ?side2 A1.out).mono ?_); (case side1 => exact BK.out); (case side2 => repeat (first | exact HR0.out | (with_reducible refine Kd.C_alloc ?_ _) | (with_reducible refine Kd.C_drewN ?_ _) | (with_reducible refine Kd.C_drew ?_))); rintro e w' ⟨rfl, ⟨nd, rfl⟩⟩; refine ⟨_, rfl, ?_⟩) | ((with_reducible refine gate_callee (f := 79) rfl ?_); refine goesL_ (some 22) rfl rfl Tryd.func79 (by kernel_rfl) rfl #[.agg #[.int .i64 ((rd_T55 l0 j).f0), .int .i64 ((rd_T55 l0 j).f1), .int .i64 ((rd_T55 l0 j).f2)]] rfl (by (try simp only [List.map_toArray, List.map_cons, List.map_nil]); first | done | rfl) ?_; (with_reducible refine (impl_partsOf.calls k ((rd_T55 l0 j).f0) ((rd_T55 l0 j).f1) ((rd_T55 l0 j).f2) ks _ A2.out).mono ?_); rintro e w12 ⟨v155, rfl, ho0, hb⟩; refine ⟨_, rfl, ?_⟩; have n0_ := Aside0.mk (Kd.R_lower ho0 (below_size (bz0 HB.out))); have n1_ := Aside0.mk (below_step (bz0 HB.out) hb); clear HB; have HO1 := n0_; have HB := n1_; clear n0_ n1_ hb ho0; obtain ⟨Ao, co, eo⟩ := Kd.R_slice HO1.out; subst eo))
  go_loopg [8, 24] k (fun kq v8 v24 w' => ∃ (x : Int), v24 = .int .i64 x /\ Aside0 (slvInL kq l0 v ks x = some r) /\ Aside0 (kq <= k) /\ Aside0 (Kd.R (Kd.int .i64) 3 w' w.heap.size (fun _ => True) (.slice Ao ks.length co) ks) /\ Aside0 (Below w.heap.size w w'))
  case atStart => exact ⟨0, rfl, H', ⟨Nat.le_refl _⟩, ⟨by refine rq ?_; exact HO1.out⟩, ⟨(bz0 HB.out)⟩⟩
  case round =>
   clear H' HO1 HB hx0 hx1 hx2 c3t c4t
   obtain ⟨x, rfl, HA, HK2, HO1, HB⟩ := hrel
   cases gk with
   | zero => exact absurd HA.out (by simp [slvInL])
   | succ k2 =>
    have H := HA.out
    clear HA
    simp only [slvInL] at H
    by_cases c14 : x < (ks.length : Int)
    ·rw [if_pos c14] at H
     have c14b0 := decide_eq_true c14
     by_cases c15 : 0 <= x
     ·rw [if_pos c15] at H
      obtain ⟨t, A180, H⟩ := bi H
      have A18 := Aside0.mk A180
      clear A180
      obtain ⟨ad157, e157, hx157_0⟩ := Kd.at_int (Kd.R_reads' HO1.out).2.2 x c15 c14
      cases e157
      have p157 := eq_true c15
      have q157 := eq_true c14
      clear c14 c15
      cases t with
      | true =>
       rw [if_pos rfl] at H
       obtain rfl := Option.some.inj H
       go_wp2_with (first | ((with_reducible refine gate_callee (f := 85) rfl ?_); refine goesL_ (some 31) rfl rfl Tryd.func85 (by kernel_rfl) rfl #[.pointer (some ⟨b, 0, none⟩), .int .i64 v, .int .i64 (rd ks x)] rfl (by (try simp only [List.map_toArray, List.map_cons, List.map_nil]); first | done | rfl) ?_; (with_reducible refine (ih k2 (by have := HK2.out; omega) (some ad) c0 l0 b v (rd ks x) true _ ?side1 ?side2 A18.out).mono ?_); (case side1 => exact blk_below BK.out HB.out); (case side2 => exact cz (Kd.C_below HR0.out HB.out)); rintro e w19 ⟨rfl, hb⟩; refine ⟨_, rfl, ?_⟩; have n1_ := Aside0.mk (below_step (bz0 HB.out) hb); clear HB hb; have HB := n1_; clear n1_))
       go_ret
       exact ⟨rfl, (bz0 HB.out)⟩
      | false =>
       rw [if_neg (show ¬ (false = true) by decide)] at H
       have H' := Aside0.mk H
       clear H
       go_wp2_with (first | ((with_reducible refine gate_callee (f := 85) rfl ?_); refine goesL_ (some 31) rfl rfl Tryd.func85 (by kernel_rfl) rfl #[.pointer (some ⟨b, 0, none⟩), .int .i64 v, .int .i64 (rd ks x)] rfl (by (try simp only [List.map_toArray, List.map_cons, List.map_nil]); first | done | rfl) ?_; (with_reducible refine (ih k2 (by have := HK2.out; omega) (some ad) c0 l0 b v (rd ks x) false _ ?side1 ?side2 A18.out).mono ?_); (case side1 => exact blk_below BK.out HB.out); (case side2 => exact cz (Kd.C_below HR0.out HB.out)); rintro e w19 ⟨rfl, hb⟩; refine ⟨_, rfl, ?_⟩; have n0_ := qz HO1 hb; have n1_ := Aside0.mk (below_step (bz0 HB.out) hb); clear HO1 HB hb; have HO1 := n0_; have HB := n1_; clear n0_ n1_))
       go_roundg k2
       case measure => have := HK2.out; omega
       case rel => exact ⟨_, rfl, H', ⟨by have := HK2.out; omega⟩, ⟨by refine rq ?_; exact HO1.out⟩, ⟨(bz0 HB.out)⟩⟩
     ·rw [if_neg c15] at H
      cases H
    ·rw [if_neg c14] at H
     have c14b0 := decide_eq_false c14
     clear c14
     obtain rfl := Option.some.inj H
     go_wp2
     go_ret
     exact ⟨rfl, (bz0 HB.out)⟩
def Sv (w0 w : World) (b g c : Nat) (l : List S55) (wc : World) : Prop := wc.heap[b]? = some (.cells #[.slice (some ⟨g, 0, none⟩) l.length c] 103 (0, 0)) /\ Kd.R k55 55 wc w0.heap.size (fun k => k = g) (.slice (some ⟨g, 0, none⟩) l.length c) l /\ Below w0.heap.size w0 wc /\ Kept w wc (fun k => k = g)
theorem Sv.below {w0 w wc w1 : World} {b g c : Nat} {l : List S55} (h : Sv w0 w b g c l wc) (hb : Below wc.heap.size wc w1) : Sv w0 w b g c l w1 := ⟨blk_below h.1 hb, Kd.R_below h.2.1 hb, below_step h.2.2.1 hb, Kept.below h.2.2.2 hb⟩
theorem Sv.cell {w0 w wc : World} {b g c : Nat} {l : List S55} (h : Sv w0 w b g c l wc) : wc.cell? ⟨b, 0, none⟩ = some (.slice (some ⟨g, 0, none⟩) l.length c) := (blk_cell h.1 0).trans rfl
theorem Sv.C {w0 w wc : World} {b g c : Nat} {l : List S55} (h : Sv w0 w b g c l wc) : Kd.C k55 wc (some ⟨g, 0, none⟩) l.length l := (Kd.R_reads' h.2.1).2.2
theorem Sv.cap {w0 w wc : World} {b g c : Nat} {l : List S55} (h : Sv w0 w b g c l wc) : l.length <= c := (Kd.R_reads' h.2.1).2.1
theorem Sv.start {w0 w : World} {b g c : Nat} {l : List S55} {wc : World} (h : Sv w0 w b g c l wc) : Sv w0 wc b g c l wc := ⟨h.1, h.2.1, h.2.2.1, Kept.refl _ _⟩
theorem Sv.then_ {w0 w wc w1 : World} {b g c : Nat} {l l1 : List S55} (h : Sv w0 w b g c l wc) (k : Sv w0 wc b g c l1 w1) : Sv w0 w b g c l1 w1 := ⟨k.1, k.2.1, k.2.2.1, Kept.then_ h.2.2.2 k.2.2.2 (fun _ hk => .inl hk)⟩
theorem cell_keep {w w1 : World} (h : Below w.heap.size w w1) {p : Addr} {u : Value} (hx : w.cell? p = some u) : w1.cell? p = some u := (h.cell (World.block_lt_of_cell? w _ hx)).trans hx
theorem alloc_any {P : Program} {ops : Array Oper} {Q : Exit -> Act -> World -> Prop} {oi : Oper} {a : Act} {w : World} {K : Act -> World -> Prop} {N : Tmp} {cs : Array Value} {t : TypeId} (hw : Region.wanted oi (yielded ops a.tmps) = true) (hN : oi.dst = some N)
  (hrun : (execOp a.eval oi).run P w = .ok (.value (.pointer (some ⟨w.heap.size, 0, none⟩))) (w.alloc (.cells cs t (0, 0))))
  (h : ∀ g, w.heap.size = g -> ∀ w1, w1.heap[g]? = some (.cells cs t (0, 0)) -> Below w.heap.size w w1 -> K (a.put (some N) (.pointer (some ⟨g, 0, none⟩))) w1) : if Region.wanted oi (yielded ops a.tmps) = true then Oper.wp P oi a w K Q else K (a.put (some N) undef) w :=
 value_ hw hN hrun (h _ rfl _ (blk_new w _) (below_alloc (Below.refl _ _) _))
theorem store_any {P : Program} {ops : Array Oper} {Q : Exit -> Act -> World -> Prop} {oi : Oper} {a : Act} {w : World} {K : Act -> World -> Prop} {g : Nat} {x y z x0 y0 z0 : Value} {t : TypeId} (hw : Region.wanted oi (yielded ops a.tmps) = true) (hN : oi.dst = none)
  (hrun : (execOp a.eval oi).run P w = .ok .skip (((w.setCell ⟨g, 0, none⟩ x).setCell ⟨g, 1, none⟩ y).setCell ⟨g, 2, none⟩ z)) (hb : w.heap[g]? = some (.cells #[x0, y0, z0] t (0, 0)))
  (h : ∀ w1, w1.heap[g]? = some (.cells #[x, y, z] t (0, 0)) -> (∀ u : World, u.heap.size <= g -> Below u.heap.size u w -> Below u.heap.size u w1) -> (∀ k o, k ≠ g -> w.heap[k]? = some o -> w1.heap[k]? = some o) -> K a w1) : if Region.wanted oi (yielded ops a.tmps) = true then Oper.wp P oi a w K Q else K (a.put none undef) w := by
 refine skip_ hw hN hrun (h _ ?_ ?_ ?_)
 ·exact blk_put (blk_put (blk_put hb 0 x rfl) 1 y rfl) 2 z rfl
 ·intro u hu hB
  exact below_set (below_set (below_set hB hu) hu) hu
 ·intro k o hk ho
  exact (Below.heap_setCell _ _ _ _ hk).trans ((Below.heap_setCell _ _ _ _ hk).trans ((Below.heap_setCell _ _ _ _ hk).trans ho))
mutual
def slvSameL : Nat -> List S55 -> List Int -> List Int -> Int -> Option (Bool × List S55)
 | 0, _, _, _, _ => none
 | k + 1, l, p, q, j => if j < (p.length : Int) then (if 0 <= j then (if j < (q.length : Int) then ((slvSame k l (rd p j) (rd q j)).bind fun t => (if t.1 = true then (slvSameL k t.2 p q (wrap64 (j + 1))) else (some (false, t.2)))) else (none)) else (none)) else (some (true, l))
def slvSame : Nat -> List S55 -> Int -> Int -> Option (Bool × List S55)
 | 0, _, _, _ => none
 | k + 1, l, a0, b0 => (chase k l a0).bind fun a => (chase k l b0).bind fun b => (if a = b then (some (true, l)) else ((impl_sizeOf.f k l a).bind fun m => (if m <= 60 then ((impl_sizeOf.f k l b).bind fun n => (if n <= 60 then (if (rd_T55 l a).f0 = 0 then ((slvIn k l a b).bind fun t => (if t = true then (some (false, l)) else (some (true, l.set a.toNat (⟨(rd_T55 l a).f0, b, (rd_T55 l a).f2⟩ : S55))))) else (if (rd_T55 l b).f0 = 0 then (slvSame k l b a) else (if (rd_T55 l a).f0 = (rd_T55 l b).f0 then ((impl_partsOf.f k (rd_T55 l a).f0 (rd_T55 l a).f1 (rd_T55 l a).f2).bind fun p => ((impl_partsOf.f k (rd_T55 l b).f0 (rd_T55 l b).f1 (rd_T55 l b).f2).bind fun q => (slvSameL k l p q 0))) else (some (false, l))))) else (some (false, l)))) else (some (false, l)))))
end
theorem Sv.set {w0 w wc : World} {b g c : Nat} {l : List S55} (h : Sv w0 w b g c l wc) (i : Int) (h0 : 0 <= i) (h1 : i < (l.length : Int)) (u : Int) (w1 : World) (hw : w1 = wc.setCell ⟨g, i.toNat * 3 + 1, none⟩ (.int .i64 u)) : Sv w0 w b g c (l.set i.toNat (⟨(rd_T55 l i).f0, u, (rd_T55 l i).f2⟩ : S55)) w1 := by
 have hi : i.toNat < l.length := by omega
 obtain ⟨g', c', e, gb, gl, cl, hg⟩ := Kd.R_form h.2.1 (by omega)
 injection e with ea en ec
 injection ea with ea
 injection ea with ea
 subst ea ec
 obtain ⟨ce, hcl, hM, hcc, hfr⟩ := Kd.R_elem h.2.1 z55 i h0 (by omega)
 obtain rfl := k55_openM hM
 have hP := Kd.R_seg h.2.1 i h0 (by omega) (seg := [.int .i64 u]) (j := 1) hcl hcc (show 2 <= 3 from by decide) (x' := (⟨(rd_T55 l i).f0, u, (rd_T55 l i).f2⟩ : S55)) (k55_mkM _ _ _ (⟨(rd_T55 l i).f0, u, (rd_T55 l i).f2⟩ : S55)) (fun _ hk => hk)
 have hw' : w1 = wc.setCells g (i.toNat * 3 + 1) [.int .i64 u] := hw
 subst hw'
 have hbg : b ≠ g := fun e => by
  subst e
  have := h.1.symm.trans hg
  injection this with this
  injection this with _ this
  cases this
 refine ⟨?_, ?_, ?_, Kept.of_grown hP.2 h.2.2.2 (fun k e => .inl (Option.some.inj e).symm)⟩
 ·rw [List.length_set]
  exact (Below.heap_setCell _ _ _ _ hbg).trans h.1
 ·rw [List.length_set]
  exact hP.1
 ·exact below_set h.2.2.1 gb
theorem Sv.elem {w0 w wc : World} {b g c : Nat} {l : List S55} (h : Sv w0 w b g c l wc) (i : Int) (h0 : 0 <= i) (h1 : i < (l.length : Int)) : wc.cell? ⟨g, i.toNat * 3, none⟩ = some (.int .i64 (rd_T55 l i).f0) /\ wc.cell? ⟨g, i.toNat * 3 + 1, none⟩ = some (.int .i64 (rd_T55 l i).f1) /\ wc.cell? ⟨g, i.toNat * 3 + 2, none⟩ = some (.int .i64 (rd_T55 l i).f2) /\ wc.frozen? ⟨g, i.toNat * 3 + 1, none⟩ = false := by
 obtain ⟨ce, hcl, hM, hcc, hfr⟩ := Kd.R_elem h.2.1 z55 i h0 (by omega)
 obtain rfl := k55_openM hM
 exact ⟨hcc 0 _ rfl, hcc 1 _ rfl, hcc 2 _ rfl, hfr 1⟩
theorem Sv.typed {w0 w wc : World} {b g c : Nat} {l : List S55} (h : Sv w0 w b g c l wc) (hl : 0 < l.length) : ∃ cs, wc.heap[g]? = some (.cells cs 55 (0, 0)) := by
 obtain ⟨g', c', e, gb, gl, cl, hg⟩ := Kd.R_form h.2.1 hl
 injection e with ea en ec
 injection ea with ea
 injection ea with ea
 subst ea
 exact ⟨cl, hg⟩
set_option maxHeartbeats 8000000 in
set_option maxRecDepth 100000 in
theorem slvSame.calls (k : Nat) : ∀ (l0 : List S55) (b g c : Nat) (a1 a2 : Int) (r1 : Bool) (r2 : List S55) (w0 w : World) (hs : Sv w0 w b g c l0 w) (h : slvSame k l0 a1 a2 = some (r1, r2)),
  Calls Tryd.prog 60 #[.pointer (some ⟨b, 0, none⟩), .int .i64 a1, .int .i64 a2] w fun e w' => e = .returned (.bool r1) /\ Sv w0 w b g c r2 w' := by
 induction k using Nat.strongRecOn with
 | _ k ih =>
 intro l0 b g c a1 a2 r1 r2 w0 w hs h
 cases k with
 | zero => exact absurd h (by simp [slvSame])
 | succ k =>
 simp only [slvSame] at h
 have hu55 := Tryd.underlying55
 have HS := Aside0.mk hs
 have hsc := hs.cell
 clear hs
 obtain ⟨a, ha, H⟩ := Option.bind_eq_some_iff.mp h
 obtain ⟨d, hd, H⟩ := bi H
 have A1 := Aside0.mk ha
 have A2 := Aside0.mk hd
 obtain ⟨a3, a4⟩ := chase_in ha
 obtain ⟨d3, d4⟩ := chase_in hd
 clear h ha hd
 have LP : 0 < l0.length := by omega
 by_cases c5 : a = d
 ·rw [if_pos c5] at H
  obtain ⟨rfl, rfl⟩ := Prod.mk.inj (Option.some.inj H)
  have c5b : (a == d) = true := beq_iff_eq.mpr c5
  clear c5
  go_enter Tryd.func60, Tryd.ntmps60
  go_wp2_with (first | ((with_reducible refine gate_callee (f := 84) rfl ?_); refine goesL_ (some 14) rfl rfl Tryd.func84 (by kernel_rfl) rfl #[.pointer (some ⟨b, 0, none⟩), .int .i64 a1] rfl (by (try simp only [List.map_toArray, List.map_cons, List.map_nil]); first | done | rfl) ?_; (with_reducible refine (solver_root.calls k (some ⟨g, 0, none⟩) c l0 b a1 a _ ?side1 ?side2 A1.out).mono ?_); (case side1 => exact (Sv.below HS.out (by repeat (first | (with_reducible first | exact Below.refl _ _ | apply below_alloc | apply pw_below_drewN | apply below_drew1) | exact Below.refl _ _))).1); (case side2 => exact (Sv.C (Sv.below HS.out (by repeat (first | (with_reducible first | exact Below.refl _ _ | apply below_alloc | apply pw_below_drewN | apply below_drew1) | exact Below.refl _ _))))); rintro e w' ⟨rfl, ⟨nd, rfl⟩⟩; refine ⟨_, rfl, ?_⟩) | ((with_reducible refine gate_callee (f := 84) rfl ?_); refine goesL_ (some 17) rfl rfl Tryd.func84 (by kernel_rfl) rfl #[.pointer (some ⟨b, 0, none⟩), .int .i64 a2] rfl (by (try simp only [List.map_toArray, List.map_cons, List.map_nil]); first | done | rfl) ?_; (with_reducible refine (solver_root.calls k (some ⟨g, 0, none⟩) c l0 b a2 d _ ?side1 ?side2 A2.out).mono ?_); (case side1 => exact (Sv.below HS.out (by repeat (first | (with_reducible first | exact Below.refl _ _ | apply below_alloc | apply pw_below_drewN | apply below_drew1) | exact Below.refl _ _))).1); (case side2 => exact (Sv.C (Sv.below HS.out (by repeat (first | (with_reducible first | exact Below.refl _ _ | apply below_alloc | apply pw_below_drewN | apply below_drew1) | exact Below.refl _ _))))); rintro e w' ⟨rfl, ⟨nd, rfl⟩⟩; refine ⟨_, rfl, ?_⟩))
  go_ret
  exact ⟨rfl, (Sv.below HS.out (by repeat (first | (with_reducible first | exact Below.refl _ _ | apply below_alloc | apply pw_below_drewN | apply below_drew1) | exact Below.refl _ _)))⟩
 ·rw [if_neg c5] at H
  have c5b : (a == d) = false := beq_eq_false_iff_ne.mpr c5
  clear c5
  obtain ⟨m, hm, H⟩ := bi H
  have A3 := Aside0.mk hm
  clear hm
  by_cases c6 : m <= 60
  rotate_left
  ·rw [if_neg c6] at H
   obtain ⟨rfl, rfl⟩ := Prod.mk.inj (Option.some.inj H)
   have c6b : decide (m <= 60) = false := decide_eq_false c6
   clear c6
   go_enter Tryd.func60, Tryd.ntmps60
   go_wp2_with (first | ((with_reducible refine gate_callee (f := 84) rfl ?_); refine goesL_ (some 14) rfl rfl Tryd.func84 (by kernel_rfl) rfl #[.pointer (some ⟨b, 0, none⟩), .int .i64 a1] rfl (by (try simp only [List.map_toArray, List.map_cons, List.map_nil]); first | done | rfl) ?_; (with_reducible refine (solver_root.calls k (some ⟨g, 0, none⟩) c l0 b a1 a _ ?side1 ?side2 A1.out).mono ?_); (case side1 => exact (Sv.below HS.out (by repeat (first | (with_reducible first | exact Below.refl _ _ | apply below_alloc | apply pw_below_drewN | apply below_drew1) | exact Below.refl _ _))).1); (case side2 => exact (Sv.C (Sv.below HS.out (by repeat (first | (with_reducible first | exact Below.refl _ _ | apply below_alloc | apply pw_below_drewN | apply below_drew1) | exact Below.refl _ _))))); rintro e w' ⟨rfl, ⟨nd, rfl⟩⟩; refine ⟨_, rfl, ?_⟩) | ((with_reducible refine gate_callee (f := 84) rfl ?_); refine goesL_ (some 17) rfl rfl Tryd.func84 (by kernel_rfl) rfl #[.pointer (some ⟨b, 0, none⟩), .int .i64 a2] rfl (by (try simp only [List.map_toArray, List.map_cons, List.map_nil]); first | done | rfl) ?_; (with_reducible refine (solver_root.calls k (some ⟨g, 0, none⟩) c l0 b a2 d _ ?side1 ?side2 A2.out).mono ?_); (case side1 => exact (Sv.below HS.out (by repeat (first | (with_reducible first | exact Below.refl _ _ | apply below_alloc | apply pw_below_drewN | apply below_drew1) | exact Below.refl _ _))).1); (case side2 => exact (Sv.C (Sv.below HS.out (by repeat (first | (with_reducible first | exact Below.refl _ _ | apply below_alloc | apply pw_below_drewN | apply below_drew1) | exact Below.refl _ _))))); rintro e w' ⟨rfl, ⟨nd, rfl⟩⟩; refine ⟨_, rfl, ?_⟩) | ((with_reducible refine gate_callee (f := 61) rfl ?_); refine goesL_ (some 23) rfl rfl Tryd.func61 (by kernel_rfl) rfl #[.pointer (some ⟨b, 0, none⟩), .int .i64 a] rfl (by (try simp only [List.map_toArray, List.map_cons, List.map_nil]); first | done | rfl) ?_; (with_reducible refine (solver_fits.calls k (some ⟨g, 0, none⟩) c l0 b a m _ ?side1 ?side2 ?side3 A3.out).mono ?_); (case side1 => exact (Sv.below HS.out (by repeat (first | (with_reducible first | exact Below.refl _ _ | apply below_alloc | apply pw_below_drewN | apply below_drew1) | exact Below.refl _ _))).1); (case side2 => exact (Sv.C (Sv.below HS.out (by repeat (first | (with_reducible first | exact Below.refl _ _ | apply below_alloc | apply pw_below_drewN | apply below_drew1) | exact Below.refl _ _))))); (case side3 => exact (Sv.cap HS.out)); rintro e wf1 ⟨rfl, hb⟩; refine ⟨_, rfl, ?_⟩; have n1_ := Aside0.mk (Sv.below (Sv.below HS.out (by repeat (first | (with_reducible first | exact Below.refl _ _ | apply below_alloc | apply pw_below_drewN | apply below_drew1) | exact Below.refl _ _))) hb); clear HS hb hsc; have HS := n1_; have hsc := HS.out.cell; clear n1_))
   go_ret
   exact ⟨rfl, (Sv.below HS.out (by repeat (first | (with_reducible first | exact Below.refl _ _ | apply below_alloc | apply pw_below_drewN | apply below_drew1) | exact Below.refl _ _)))⟩
  rw [if_pos c6] at H
  have c6b : decide (m <= 60) = true := decide_eq_true c6
  clear c6
  obtain ⟨n, hn, H⟩ := bi H
  have A4 := Aside0.mk hn
  clear hn
  by_cases c7 : n <= 60
  rotate_left
  ·rw [if_neg c7] at H
   obtain ⟨rfl, rfl⟩ := Prod.mk.inj (Option.some.inj H)
   have c7b : decide (n <= 60) = false := decide_eq_false c7
   clear c7
   go_enter Tryd.func60, Tryd.ntmps60
   go_wp2_with (first | ((with_reducible refine gate_callee (f := 84) rfl ?_); refine goesL_ (some 14) rfl rfl Tryd.func84 (by kernel_rfl) rfl #[.pointer (some ⟨b, 0, none⟩), .int .i64 a1] rfl (by (try simp only [List.map_toArray, List.map_cons, List.map_nil]); first | done | rfl) ?_; (with_reducible refine (solver_root.calls k (some ⟨g, 0, none⟩) c l0 b a1 a _ ?side1 ?side2 A1.out).mono ?_); (case side1 => exact (Sv.below HS.out (by repeat (first | (with_reducible first | exact Below.refl _ _ | apply below_alloc | apply pw_below_drewN | apply below_drew1) | exact Below.refl _ _))).1); (case side2 => exact (Sv.C (Sv.below HS.out (by repeat (first | (with_reducible first | exact Below.refl _ _ | apply below_alloc | apply pw_below_drewN | apply below_drew1) | exact Below.refl _ _))))); rintro e w' ⟨rfl, ⟨nd, rfl⟩⟩; refine ⟨_, rfl, ?_⟩) | ((with_reducible refine gate_callee (f := 84) rfl ?_); refine goesL_ (some 17) rfl rfl Tryd.func84 (by kernel_rfl) rfl #[.pointer (some ⟨b, 0, none⟩), .int .i64 a2] rfl (by (try simp only [List.map_toArray, List.map_cons, List.map_nil]); first | done | rfl) ?_; (with_reducible refine (solver_root.calls k (some ⟨g, 0, none⟩) c l0 b a2 d _ ?side1 ?side2 A2.out).mono ?_); (case side1 => exact (Sv.below HS.out (by repeat (first | (with_reducible first | exact Below.refl _ _ | apply below_alloc | apply pw_below_drewN | apply below_drew1) | exact Below.refl _ _))).1); (case side2 => exact (Sv.C (Sv.below HS.out (by repeat (first | (with_reducible first | exact Below.refl _ _ | apply below_alloc | apply pw_below_drewN | apply below_drew1) | exact Below.refl _ _))))); rintro e w' ⟨rfl, ⟨nd, rfl⟩⟩; refine ⟨_, rfl, ?_⟩) | ((with_reducible refine gate_callee (f := 61) rfl ?_); refine goesL_ (some 23) rfl rfl Tryd.func61 (by kernel_rfl) rfl #[.pointer (some ⟨b, 0, none⟩), .int .i64 a] rfl (by (try simp only [List.map_toArray, List.map_cons, List.map_nil]); first | done | rfl) ?_; (with_reducible refine (solver_fits.calls k (some ⟨g, 0, none⟩) c l0 b a m _ ?side1 ?side2 ?side3 A3.out).mono ?_); (case side1 => exact (Sv.below HS.out (by repeat (first | (with_reducible first | exact Below.refl _ _ | apply below_alloc | apply pw_below_drewN | apply below_drew1) | exact Below.refl _ _))).1); (case side2 => exact (Sv.C (Sv.below HS.out (by repeat (first | (with_reducible first | exact Below.refl _ _ | apply below_alloc | apply pw_below_drewN | apply below_drew1) | exact Below.refl _ _))))); (case side3 => exact (Sv.cap HS.out)); rintro e wf1 ⟨rfl, hb⟩; refine ⟨_, rfl, ?_⟩; have n1_ := Aside0.mk (Sv.below (Sv.below HS.out (by repeat (first | (with_reducible first | exact Below.refl _ _ | apply below_alloc | apply pw_below_drewN | apply below_drew1) | exact Below.refl _ _))) hb); clear HS hb hsc; have HS := n1_; have hsc := HS.out.cell; clear n1_) | (go_at_call 61; (with_reducible refine (solver_fits.calls k (some ⟨g, 0, none⟩) c l0 b d n _ ?side1 ?side2 ?side3 A4.out).mono ?_); (case side1 => exact (Sv.below HS.out (by repeat (first | (with_reducible first | exact Below.refl _ _ | apply below_alloc | apply pw_below_drewN | apply below_drew1) | exact Below.refl _ _))).1); (case side2 => exact (Sv.C (Sv.below HS.out (by repeat (first | (with_reducible first | exact Below.refl _ _ | apply below_alloc | apply pw_below_drewN | apply below_drew1) | exact Below.refl _ _))))); (case side3 => exact (Sv.cap HS.out)); rintro e wf2 ⟨rfl, hb⟩; have n1_ := Aside0.mk (Sv.below (Sv.below HS.out (by repeat (first | (with_reducible first | exact Below.refl _ _ | apply below_alloc | apply pw_below_drewN | apply below_drew1) | exact Below.refl _ _))) hb); clear HS hb hsc; have HS := n1_; have hsc := HS.out.cell; clear n1_))
   go_ret
   exact ⟨rfl, (Sv.below HS.out (by repeat (first | (with_reducible first | exact Below.refl _ _ | apply below_alloc | apply pw_below_drewN | apply below_drew1) | exact Below.refl _ _)))⟩
  rw [if_pos c7] at H
  have c7b : decide (n <= 60) = true := decide_eq_true c7
  clear c7
  have HH := Aside0.mk H
  clear H
  go_enter Tryd.func60, Tryd.ntmps60
  go_upto_region 6 with (first | ((with_reducible refine gate_callee (f := 84) rfl ?_); refine goesL_ (some 14) rfl rfl Tryd.func84 (by kernel_rfl) rfl #[.pointer (some ⟨b, 0, none⟩), .int .i64 a1] rfl (by (try simp only [List.map_toArray, List.map_cons, List.map_nil]); first | done | rfl) ?_; (with_reducible refine (solver_root.calls k (some ⟨g, 0, none⟩) c l0 b a1 a _ ?side1 ?side2 A1.out).mono ?_); (case side1 => exact (Sv.below HS.out (by repeat (first | (with_reducible first | exact Below.refl _ _ | apply below_alloc | apply pw_below_drewN | apply below_drew1) | exact Below.refl _ _))).1); (case side2 => exact (Sv.C (Sv.below HS.out (by repeat (first | (with_reducible first | exact Below.refl _ _ | apply below_alloc | apply pw_below_drewN | apply below_drew1) | exact Below.refl _ _))))); rintro e w' ⟨rfl, ⟨nd, rfl⟩⟩; refine ⟨_, rfl, ?_⟩) | ((with_reducible refine gate_callee (f := 84) rfl ?_); refine goesL_ (some 17) rfl rfl Tryd.func84 (by kernel_rfl) rfl #[.pointer (some ⟨b, 0, none⟩), .int .i64 a2] rfl (by (try simp only [List.map_toArray, List.map_cons, List.map_nil]); first | done | rfl) ?_; (with_reducible refine (solver_root.calls k (some ⟨g, 0, none⟩) c l0 b a2 d _ ?side1 ?side2 A2.out).mono ?_); (case side1 => exact (Sv.below HS.out (by repeat (first | (with_reducible first | exact Below.refl _ _ | apply below_alloc | apply pw_below_drewN | apply below_drew1) | exact Below.refl _ _))).1); (case side2 => exact (Sv.C (Sv.below HS.out (by repeat (first | (with_reducible first | exact Below.refl _ _ | apply below_alloc | apply pw_below_drewN | apply below_drew1) | exact Below.refl _ _))))); rintro e w' ⟨rfl, ⟨nd, rfl⟩⟩; refine ⟨_, rfl, ?_⟩) | ((with_reducible refine gate_callee (f := 61) rfl ?_); refine goesL_ (some 23) rfl rfl Tryd.func61 (by kernel_rfl) rfl #[.pointer (some ⟨b, 0, none⟩), .int .i64 a] rfl (by (try simp only [List.map_toArray, List.map_cons, List.map_nil]); first | done | rfl) ?_; (with_reducible refine (solver_fits.calls k (some ⟨g, 0, none⟩) c l0 b a m _ ?side1 ?side2 ?side3 A3.out).mono ?_); (case side1 => exact (Sv.below HS.out (by repeat (first | (with_reducible first | exact Below.refl _ _ | apply below_alloc | apply pw_below_drewN | apply below_drew1) | exact Below.refl _ _))).1); (case side2 => exact (Sv.C (Sv.below HS.out (by repeat (first | (with_reducible first | exact Below.refl _ _ | apply below_alloc | apply pw_below_drewN | apply below_drew1) | exact Below.refl _ _))))); (case side3 => exact (Sv.cap HS.out)); rintro e wf1 ⟨rfl, hb⟩; refine ⟨_, rfl, ?_⟩; have n1_ := Aside0.mk (Sv.below (Sv.below HS.out (by repeat (first | (with_reducible first | exact Below.refl _ _ | apply below_alloc | apply pw_below_drewN | apply below_drew1) | exact Below.refl _ _))) hb); clear HS hb hsc; have HS := n1_; have hsc := HS.out.cell; clear n1_) | (go_at_call 61; (with_reducible refine (solver_fits.calls k (some ⟨g, 0, none⟩) c l0 b d n _ ?side1 ?side2 ?side3 A4.out).mono ?_); (case side1 => exact (Sv.below HS.out (by repeat (first | (with_reducible first | exact Below.refl _ _ | apply below_alloc | apply pw_below_drewN | apply below_drew1) | exact Below.refl _ _))).1); (case side2 => exact (Sv.C (Sv.below HS.out (by repeat (first | (with_reducible first | exact Below.refl _ _ | apply below_alloc | apply pw_below_drewN | apply below_drew1) | exact Below.refl _ _))))); (case side3 => exact (Sv.cap HS.out)); rintro e wf2 ⟨rfl, hb⟩; have n1_ := Aside0.mk (Sv.below (Sv.below HS.out (by repeat (first | (with_reducible first | exact Below.refl _ _ | apply below_alloc | apply pw_below_drewN | apply below_drew1) | exact Below.refl _ _))) hb); clear HS hb hsc; have HS := n1_; have hsc := HS.out.cell; clear n1_))
  go_cut [7, 8] (fun v7 v8 wc => ∃ gx gy : Nat, v7 = .pointer (some ⟨gx, 0, none⟩) /\ v8 = .pointer (some ⟨gy, 0, none⟩) /\ Aside0 (wc.heap[gx]? = some (.cells #[.int .i64 (rd_T55 l0 a).f0, .int .i64 (rd_T55 l0 a).f1, .int .i64 (rd_T55 l0 a).f2] 55 (0, 0))) /\ Aside0 (wc.heap[gy]? = some (.cells #[.int .i64 (rd_T55 l0 d).f0, .int .i64 (rd_T55 l0 d).f1, .int .i64 (rd_T55 l0 d).f2] 55 (0, 0))) /\ Aside0 (Sv w0 w b g c l0 wc))
  case first =>
   obtain ⟨ha0, ha1, ha2, _⟩ := HS.out.elem a a3 a4
   obtain ⟨hd0, hd1, hd2, _⟩ := HS.out.elem d d3 d4
   have a3t := eq_true a3
   have a4t := eq_true a4
   have d3t := eq_true d3
   have d4t := eq_true d4
   refine start_ (n := 18) (S := fun w' => w'.cell? ⟨b, 0, none⟩ = some (.slice (some ⟨g, 0, none⟩) l0.length c) /\ w'.cell? ⟨g, (a).toNat * 3, none⟩ = some (.int .i64 (rd_T55 l0 a).f0) /\ w'.cell? ⟨g, (a).toNat * 3 + 1, none⟩ = some (.int .i64 (rd_T55 l0 a).f1) /\ w'.cell? ⟨g, (a).toNat * 3 + 2, none⟩ = some (.int .i64 (rd_T55 l0 a).f2) /\ w'.cell? ⟨g, (d).toNat * 3, none⟩ = some (.int .i64 (rd_T55 l0 d).f0) /\ w'.cell? ⟨g, (d).toNat * 3 + 1, none⟩ = some (.int .i64 (rd_T55 l0 d).f1) /\ w'.cell? ⟨g, (d).toNat * 3 + 2, none⟩ = some (.int .i64 (rd_T55 l0 d).f2)) (ds := []) (mk_ 0 18) (by kernel_rfl) rfl rfl ⟨hsc, ha0, ha1, ha2, hd0, hd1, hd2⟩ (fun hHeld => ?_)
   refine pure_ (i := 0) (N := some 31) (v := ?_) (a' := ?_) (mk_ 1 17) rfl rfl (by kernel_rfl) (fun _ _ _ h => h) (Or.inl ⟨by rfl, ?_⟩) ?_ ?_
   rotate_left
   ·intro w'
    go_simp
    with_reducible rfl
   rotate_left
   ·simp only [Act.put, sz1, sz2, sz3, i64_w, i32_w]
    rfl
   refine pure_ (i := 1) (N := some 32) (v := ?_) (a' := ?_) (mk_ 2 16) rfl rfl (by kernel_rfl) (fun _ _ _ h => h) (Or.inl ⟨by rfl, ?_⟩) ?_ ?_
   rotate_left
   ·intro w'
    go_simp
    with_reducible rfl
   rotate_left
   ·simp only [Act.put, sz1, sz2, sz3, i64_w, i32_w]
    rfl
   refine pure_ (i := 2) (N := some 33) (v := ?_) (a' := ?_) (mk_ 3 15) rfl rfl (by kernel_rfl) (fun _ _ _ h => h) (Or.inl ⟨by rfl, ?_⟩) ?_ ?_
   rotate_left
   ·intro w'
    go_simp
    with_reducible rfl
   rotate_left
   ·simp only [Act.put, sz1, sz2, sz3, i64_w, i32_w]
    rfl
   refine pure_ (i := 4) (N := some 35) (v := ?_) (a' := ?_) (bm_ 18 23) rfl rfl (by kernel_rfl) (fun _ _ _ h => h) (Or.inl ⟨by rfl, ?_⟩) ?_ ?_
   rotate_left
   ·intro w'
    go_simp
    with_reducible rfl
   rotate_left
   ·simp only [Act.put, sz1, sz2, sz3, i64_w, i32_w]
    rfl
   refine pure_ (i := 7) (N := some 38) (v := ?_) (a' := ?_) (bm_ 18 151) rfl rfl (by kernel_rfl) (fun _ _ _ h => h) (Or.inl ⟨by rfl, ?_⟩) ?_ ?_
   rotate_left
   ·intro w'
    go_simp
    with_reducible rfl
   rotate_left
   ·simp only [Act.put, sz1, sz2, sz3, i64_w, i32_w]
    rfl
   refine pure_ (i := 8) (N := some 39) (v := ?_) (a' := ?_) (bm_ 18 407) rfl rfl (by kernel_rfl) (fun _ _ _ h => h) (Or.inl ⟨by rfl, ?_⟩) ?_ ?_
   rotate_left
   ·intro w'
    go_simp
    with_reducible rfl
   rotate_left
   ·simp only [Act.put, sz1, sz2, sz3, i64_w, i32_w]
    rfl
   refine pure_ (i := 9) (N := some 40) (v := ?_) (a' := ?_) (bm_ 18 919) rfl rfl (by kernel_rfl) (fun _ _ _ h => h) (Or.inl ⟨by rfl, ?_⟩) ?_ ?_
   rotate_left
   ·intro w'
    go_simp
    with_reducible rfl
   rotate_left
   ·simp only [Act.put, sz1, sz2, sz3, i64_w, i32_w]
    rfl
   refine pure_ (i := 11) (N := some 42) (v := ?_) (a' := ?_) (bm_ 18 2967) rfl rfl (by kernel_rfl) (fun _ _ _ h => h) (Or.inl ⟨by rfl, ?_⟩) ?_ ?_
   rotate_left
   ·intro w'
    go_simp
    with_reducible rfl
   rotate_left
   ·simp only [Act.put, sz1, sz2, sz3, i64_w, i32_w]
    rfl
   refine take_ (i := 3) (N := some 34) (v := ?_) (a' := ?_) (bm_ 18 2975) rfl rfl (by kernel_rfl) (fun _ _ _ h => h) (Or.inl ⟨by rfl, ?_⟩) hHeld ?_ ?_
   rotate_left
   ·rintro w' ⟨s0, s1, s2, s3, s4, s5, s6⟩
    go_simp
    with_reducible rfl
   rotate_left
   ·simp only [Act.put, sz1, sz2, sz3, i64_w, i32_w]
    rfl
   refine pure_ (i := 5) (N := some 36) (v := ?_) (a' := ?_) (bm_ 18 3007) rfl rfl (by kernel_rfl) (fun _ _ _ h => h) (Or.inl ⟨by rfl, ?_⟩) ?_ ?_
   rotate_left
   ·intro w'
    go_simp
    with_reducible rfl
   rotate_left
   ·simp only [Act.put, sz1, sz2, sz3, i64_w, i32_w]
    rfl
   refine take_ (i := 6) (N := some 37) (v := ?_) (a' := ?_) (bm_ 18 3071) rfl rfl (by kernel_rfl) (fun _ _ _ h => h) (Or.inl ⟨by rfl, ?_⟩) hHeld ?_ ?_
   rotate_left
   ·rintro w' ⟨s0, s1, s2, s3, s4, s5, s6⟩
    go_simp
    with_reducible rfl
   rotate_left
   ·simp only [Act.put, sz1, sz2, sz3, i64_w, i32_w]
    rfl
   refine take_ (i := 10) (N := some 41) (v := ?_) (a' := ?_) (mk_ 12 6) rfl rfl (by kernel_rfl) (fun _ _ _ h => h) (Or.inl ⟨by rfl, ?_⟩) hHeld ?_ ?_
   rotate_left
   ·rintro w' ⟨s0, s1, s2, s3, s4, s5, s6⟩
    go_simp
    with_reducible rfl
   rotate_left
   ·simp only [Act.put, sz1, sz2, sz3, i64_w, i32_w]
    rfl
   refine pure_ (i := 12) (N := some 43) (v := ?_) (a' := ?_) (mk_ 13 5) rfl rfl (by kernel_rfl) (fun _ _ _ h => h) (Or.inl ⟨by rfl, ?_⟩) ?_ ?_
   rotate_left
   ·intro w'
    go_simp
    with_reducible rfl
   rotate_left
   ·simp only [Act.put, sz1, sz2, sz3, i64_w, i32_w]
    rfl
   refine take_ (i := 13) (N := some 44) (v := ?_) (a' := ?_) (mk_ 14 4) rfl rfl (by kernel_rfl) (fun _ _ _ h => h) (Or.inl ⟨by rfl, ?_⟩) hHeld ?_ ?_
   rotate_left
   ·rintro w' ⟨s0, s1, s2, s3, s4, s5, s6⟩
    go_simp
    with_reducible rfl
   rotate_left
   ·simp only [Act.put, sz1, sz2, sz3, i64_w, i32_w]
    rfl
   refine join_ (σ := Nat × Nat) 2 #[true, true, true, true, true, true, true, true, true, true, true, true, true, true, true, true, false, false] (fun s_ => [(7, .pointer (some ⟨s_.1, 0, none⟩)), (8, .pointer (some ⟨s_.2, 0, none⟩))]) (fun s_ w_ => Below wf2.heap.size wf2 w_ /\ w_.heap[s_.1]? = some (.cells #[.int .i64 0, .int .i64 0, .int .i64 0] 55 (0, 0)) /\ w_.heap[s_.2]? = some (.cells #[.int .i64 0, .int .i64 0, .int .i64 0] 55 (0, 0)) /\ s_.1 ≠ s_.2 /\ wf2.heap.size <= s_.1 /\ wf2.heap.size <= s_.2) ?_ ?_
   rotate_left
   ·intro hCont
    refine two_ (i := 14) (j := 15) (Ni := some 7) (Nj := some 8) #[true, true, true, true, true, true, true, true, true, true, true, true, true, true, true, false, false, false] #[true, true, true, true, true, true, true, true, true, true, true, true, true, true, false, true, false, false] rfl rfl rfl rfl (by kernel_rfl) (by decide) (by decide) (fun K hK => ?_) (fun K hK => ?_)
    ·skip
     refine alloc_any (cs := #[.int .i64 0, .int .i64 0, .int .i64 0]) (t := 55) (by rfl) rfl ?_ ?_
     ·first | (go_simp; done) | (go_simp; rfl)
     intro gx hgx wx hbx hBx
     have GEx := Aside0.mk (show wf2.heap.size <= gx from Nat.le_of_eq hgx)
     have BB := Aside0.mk (below_step (show Below wf2.heap.size wf2 _ from by repeat (first | (with_reducible first | exact Below.refl _ _ | apply below_alloc | apply pw_below_drewN | apply below_drew1) | exact Below.refl _ _)) hBx)
     have HX := Aside0.mk hbx
     clear hgx hbx hBx
     refine hK.out _ _ ⟨(cell_keep BB.out hsc), (cell_keep BB.out ha0), (cell_keep BB.out ha1), (cell_keep BB.out ha2), (cell_keep BB.out hd0), (cell_keep BB.out hd1), (cell_keep BB.out hd2)⟩ (fun hHeld => ?_)
     clear hK K
     refine norm_ (a' := ?_) ?_ ?_
     rotate_left
     ·show Act.put _ (some 7) _ = _
      simp only [Act.put, sz1, sz2, sz3, i64_w, i32_w]
      rfl
     refine one_ (i := 15) (N := some 8) (mk_ 16 2) rfl rfl (by kernel_rfl) (by decide) (fun K hK => ?_)
     refine alloc_any (cs := #[.int .i64 0, .int .i64 0, .int .i64 0]) (t := 55) (by rfl) rfl ?_ ?_
     ·first | (go_simp; done) | (go_simp; rfl)
     intro gy hgy wy hby hBy
     have GEy := Aside0.mk (Nat.le_trans BB.out.size (Nat.le_of_eq hgy))
     have n1_ := Aside0.mk (below_step BB.out hBy)
     have NE := Aside0.mk (show gy ≠ gx from fun e_ => Nat.lt_irrefl _ (Nat.lt_of_lt_of_le (blk_lt HX.out) (Nat.le_of_eq (hgy.trans e_))))
     have n2_ := Aside0.mk (blk_below HX.out hBy)
     clear BB HX
     have BB := n1_
     have HX := n2_
     clear n1_ n2_
     have HY := Aside0.mk hby
     clear hgy hby hBy
     refine hK.out _ _ ⟨(cell_keep BB.out hsc), (cell_keep BB.out ha0), (cell_keep BB.out ha1), (cell_keep BB.out ha2), (cell_keep BB.out hd0), (cell_keep BB.out hd1), (cell_keep BB.out hd2)⟩ (fun hHeld => ?_)
     clear hK K
     refine norm_ (a' := ?_) ?_ ?_
     rotate_left
     ·show Act.put _ (some 8) _ = _
      simp only [Act.put, sz1, sz2, sz3, i64_w, i32_w]
      rfl
     exact norm_ (by simp only [putAll, Act.put, List.setIfInBounds_toArray, List.set_cons_zero, List.set_cons_succ]) (hCont (gx, gy) _ ⟨BB.out, HX.out, HY.out, Ne.symm NE.out, GEx.out, GEy.out⟩)
    ·skip
     refine alloc_any (cs := #[.int .i64 0, .int .i64 0, .int .i64 0]) (t := 55) (by rfl) rfl ?_ ?_
     ·first | (go_simp; done) | (go_simp; rfl)
     intro gy hgy wy hby hBy
     have GEy := Aside0.mk (show wf2.heap.size <= gy from Nat.le_of_eq hgy)
     have BB := Aside0.mk (below_step (show Below wf2.heap.size wf2 _ from by repeat (first | (with_reducible first | exact Below.refl _ _ | apply below_alloc | apply pw_below_drewN | apply below_drew1) | exact Below.refl _ _)) hBy)
     have HY := Aside0.mk hby
     clear hgy hby hBy
     refine hK.out _ _ ⟨(cell_keep BB.out hsc), (cell_keep BB.out ha0), (cell_keep BB.out ha1), (cell_keep BB.out ha2), (cell_keep BB.out hd0), (cell_keep BB.out hd1), (cell_keep BB.out hd2)⟩ (fun hHeld => ?_)
     clear hK K
     refine norm_ (a' := ?_) ?_ ?_
     rotate_left
     ·show Act.put _ (some 8) _ = _
      simp only [Act.put, sz1, sz2, sz3, i64_w, i32_w]
      rfl
     refine one_ (i := 14) (N := some 7) (mk_ 16 2) rfl rfl (by kernel_rfl) (by decide) (fun K hK => ?_)
     refine alloc_any (cs := #[.int .i64 0, .int .i64 0, .int .i64 0]) (t := 55) (by rfl) rfl ?_ ?_
     ·first | (go_simp; done) | (go_simp; rfl)
     intro gx hgx wx hbx hBx
     have GEx := Aside0.mk (Nat.le_trans BB.out.size (Nat.le_of_eq hgx))
     have n1_ := Aside0.mk (below_step BB.out hBx)
     have NE := Aside0.mk (show gx ≠ gy from fun e_ => Nat.lt_irrefl _ (Nat.lt_of_lt_of_le (blk_lt HY.out) (Nat.le_of_eq (hgx.trans e_))))
     have n2_ := Aside0.mk (blk_below HY.out hBx)
     clear BB HY
     have BB := n1_
     have HY := n2_
     clear n1_ n2_
     have HX := Aside0.mk hbx
     clear hgx hbx hBx
     refine hK.out _ _ ⟨(cell_keep BB.out hsc), (cell_keep BB.out ha0), (cell_keep BB.out ha1), (cell_keep BB.out ha2), (cell_keep BB.out hd0), (cell_keep BB.out hd1), (cell_keep BB.out hd2)⟩ (fun hHeld => ?_)
     clear hK K
     refine norm_ (a' := ?_) ?_ ?_
     rotate_left
     ·show Act.put _ (some 7) _ = _
      simp only [Act.put, sz1, sz2, sz3, i64_w, i32_w]
      rfl
     exact norm_ (by simp only [putAll, Act.put, List.setIfInBounds_toArray, List.set_cons_zero, List.set_cons_succ]) (hCont (gx, gy) _ ⟨BB.out, HX.out, HY.out, NE.out, GEx.out, GEy.out⟩)
   rintro ⟨gx, gy⟩ w3 ⟨hB, hX, hY, hne, hgx, hgy⟩
   have hHeld : _ /\ _ /\ _ /\ _ /\ _ /\ _ /\ _ := ⟨cell_keep hB hsc, cell_keep hB ha0, cell_keep hB ha1, cell_keep hB ha2, cell_keep hB hd0, cell_keep hB hd1, cell_keep hB hd2⟩
   have BB := Aside0.mk hB
   have HX := Aside0.mk hX
   have HY := Aside0.mk hY
   have NE := Aside0.mk hne
   have GEx := Aside0.mk hgx
   have GEy := Aside0.mk hgy
   clear hB hX hY hne hgx hgy
   refine norm_ (a' := ?_) ?_ ?_
   rotate_left
   ·simp only [putAll, Act.put, List.setIfInBounds_toArray, List.set_cons_zero, List.set_cons_succ]
    rfl
   refine one_ (i := 16) (N := none) (mk_ 17 1) rfl rfl (by kernel_rfl) (by decide) (fun K hK => ?_)
   have hz0 := (blk_cell HX.out 0).trans rfl
   have hz1 := (blk_cell HX.out 1).trans rfl
   have hz2 := (blk_cell HX.out 2).trans rfl
   have hf0 := blk_frozen HX.out 0
   have hf1 := blk_frozen HX.out 1
   have hf2 := blk_frozen HX.out 2
   refine store_any (g := gx) (x := .int .i64 (rd_T55 l0 a).f0) (y := .int .i64 (rd_T55 l0 a).f1) (z := .int .i64 (rd_T55 l0 a).f2) (by rfl) rfl ?_ HX.out ?_
   ·first | (go_simp; done) | (go_simp; rfl)
   intro w1_ hx1_ hB1_ hk1_
   have n1_ := Aside0.mk (hB1_ wf2 GEx.out BB.out)
   have n2_ := Aside0.mk (hk1_ _ _ (Ne.symm NE.out) HY.out)
   clear HY
   have HY := n2_
   clear n2_
   clear BB HX hz0 hz1 hz2 hf0 hf1 hf2
   have BB := n1_
   have HX := Aside0.mk hx1_
   clear n1_ hx1_ hB1_ hk1_
   refine hK.out _ _ ⟨(cell_keep BB.out hsc), (cell_keep BB.out ha0), (cell_keep BB.out ha1), (cell_keep BB.out ha2), (cell_keep BB.out hd0), (cell_keep BB.out hd1), (cell_keep BB.out hd2)⟩ (fun hHeld => ?_)
   clear hK K
   refine one_ (i := 17) (N := none) (mk_ 18 0) rfl rfl (by kernel_rfl) (by decide) (fun K hK => ?_)
   have hz0 := (blk_cell HY.out 0).trans rfl
   have hz1 := (blk_cell HY.out 1).trans rfl
   have hz2 := (blk_cell HY.out 2).trans rfl
   have hf0 := blk_frozen HY.out 0
   have hf1 := blk_frozen HY.out 1
   have hf2 := blk_frozen HY.out 2
   refine store_any (g := gy) (x := .int .i64 (rd_T55 l0 d).f0) (y := .int .i64 (rd_T55 l0 d).f1) (z := .int .i64 (rd_T55 l0 d).f2) (by rfl) rfl ?_ HY.out ?_
   ·first | (go_simp; done) | (go_simp; rfl)
   intro w1_ hx1_ hB1_ hk1_
   have n1_ := Aside0.mk (hB1_ wf2 GEy.out BB.out)
   have n2_ := Aside0.mk (hk1_ _ _ NE.out HX.out)
   clear HX BB HY hz0 hz1 hz2 hf0 hf1 hf2
   have BB := n1_
   have HX := n2_
   have HY := Aside0.mk hx1_
   clear n1_ n2_ hx1_ hB1_ hk1_
   refine hK.out _ _ ⟨(cell_keep BB.out hsc), (cell_keep BB.out ha0), (cell_keep BB.out ha1), (cell_keep BB.out ha2), (cell_keep BB.out hd0), (cell_keep BB.out hd1), (cell_keep BB.out hd2)⟩ (fun hHeld => ?_)
   clear hK K
   refine done_ (by kernel_rfl) ?_
   go_wp2
   go_meet
   case rel => exact ⟨gx, gy, rfl, rfl, HX, HY, ⟨Sv.below HS.out BB.out⟩⟩
  case rest =>
   obtain ⟨gx, gy, rfl, rfl, HX, HY, HS⟩ := hcut
   have H := HH.out
   clear HH hsc
   have hsc := HS.out.cell
   have hcx0 := (blk_cell HX.out 0).trans rfl
   have hcx1 := (blk_cell HX.out 1).trans rfl
   have hcx2 := (blk_cell HX.out 2).trans rfl
   have hcy0 := (blk_cell HY.out 0).trans rfl
   have hcy1 := (blk_cell HY.out 1).trans rfl
   have hcy2 := (blk_cell HY.out 2).trans rfl
   by_cases e1 : (rd_T55 l0 a).f0 = 0
   ·rw [if_pos e1] at H
    have e1b : ((rd_T55 l0 a).f0 == 0) = true := beq_iff_eq.mpr e1
    obtain ⟨t, ht, H⟩ := bi H
    have A5 := Aside0.mk ht
    clear ht e1
    cases t with
    | true =>
     rw [if_pos rfl] at H
     obtain ⟨rfl, rfl⟩ := Prod.mk.inj (Option.some.inj H)
     go_wp2_with (first | ((with_reducible refine gate_callee (f := 85) rfl ?_); refine goesL_ (some 52) rfl rfl Tryd.func85 (by kernel_rfl) rfl #[.pointer (some ⟨b, 0, none⟩), .int .i64 a, .int .i64 d] rfl (by (try simp only [List.map_toArray, List.map_cons, List.map_nil]); first | done | rfl) ?_; (with_reducible refine (slvIn.calls k (some ⟨g, 0, none⟩) c l0 b a d true _ ?side1 ?side2 A5.out).mono ?_); (case side1 => exact (Sv.below HS.out (by repeat (first | (with_reducible first | exact Below.refl _ _ | apply below_alloc | apply pw_below_drewN | apply below_drew1) | exact Below.refl _ _))).1); (case side2 => exact (Sv.C (Sv.below HS.out (by repeat (first | (with_reducible first | exact Below.refl _ _ | apply below_alloc | apply pw_below_drewN | apply below_drew1) | exact Below.refl _ _))))); rintro e w5 ⟨rfl, hb⟩; refine ⟨_, rfl, ?_⟩; have n1_ := Aside0.mk (Sv.below (Sv.below HS.out (by repeat (first | (with_reducible first | exact Below.refl _ _ | apply below_alloc | apply pw_below_drewN | apply below_drew1) | exact Below.refl _ _))) hb); clear HS hb hsc; have HS := n1_; have hsc := HS.out.cell; obtain ⟨he0, he1, he2, hfz⟩ := HS.out.elem a a3 a4; clear n1_))
     go_ret
     exact ⟨rfl, (Sv.below HS.out (by repeat (first | (with_reducible first | exact Below.refl _ _ | apply below_alloc | apply pw_below_drewN | apply below_drew1) | exact Below.refl _ _)))⟩
    | false =>
     rw [if_neg (show ¬ (false = true) by decide)] at H
     obtain ⟨rfl, rfl⟩ := Prod.mk.inj (Option.some.inj H)
     have a3t := eq_true a3
     have a4t := eq_true a4
     go_wp2_with (first | ((with_reducible refine gate_callee (f := 85) rfl ?_); refine goesL_ (some 52) rfl rfl Tryd.func85 (by kernel_rfl) rfl #[.pointer (some ⟨b, 0, none⟩), .int .i64 a, .int .i64 d] rfl (by (try simp only [List.map_toArray, List.map_cons, List.map_nil]); first | done | rfl) ?_; (with_reducible refine (slvIn.calls k (some ⟨g, 0, none⟩) c l0 b a d false _ ?side1 ?side2 A5.out).mono ?_); (case side1 => exact (Sv.below HS.out (by repeat (first | (with_reducible first | exact Below.refl _ _ | apply below_alloc | apply pw_below_drewN | apply below_drew1) | exact Below.refl _ _))).1); (case side2 => exact (Sv.C (Sv.below HS.out (by repeat (first | (with_reducible first | exact Below.refl _ _ | apply below_alloc | apply pw_below_drewN | apply below_drew1) | exact Below.refl _ _))))); rintro e w5 ⟨rfl, hb⟩; refine ⟨_, rfl, ?_⟩; have n1_ := Aside0.mk (Sv.below (Sv.below HS.out (by repeat (first | (with_reducible first | exact Below.refl _ _ | apply below_alloc | apply pw_below_drewN | apply below_drew1) | exact Below.refl _ _))) hb); clear HS hb hsc; have HS := n1_; have hsc := HS.out.cell; obtain ⟨he0, he1, he2, hfz⟩ := HS.out.elem a a3 a4; clear n1_))
     go_ret
     exact ⟨rfl, Sv.below (Sv.set HS.out a a3 a4 d _ rfl) (by repeat (first | (with_reducible first | exact Below.refl _ _ | apply below_alloc | apply pw_below_drewN | apply below_drew1) | exact Below.refl _ _))⟩
   ·rw [if_neg e1] at H
    have e1b : ((rd_T55 l0 a).f0 == 0) = false := beq_eq_false_iff_ne.mpr e1
    clear e1
    by_cases e2 : (rd_T55 l0 d).f0 = 0
    ·rw [if_pos e2] at H
     have e2b : ((rd_T55 l0 d).f0 == 0) = true := beq_iff_eq.mpr e2
     clear e2
     have A5 := Aside0.mk H
     clear H
     go_wp2_with (first | ((with_reducible refine gate_callee (f := 60) rfl ?_); refine goesL_ (some 68) rfl rfl Tryd.func60 (by kernel_rfl) rfl #[.pointer (some ⟨b, 0, none⟩), .int .i64 d, .int .i64 a] rfl (by (try simp only [List.map_toArray, List.map_cons, List.map_nil]); first | done | rfl) ?_; refine (ih k (Nat.lt_succ_self k) l0 b g c d a r1 r2 w0 _ (Sv.start (Sv.below HS.out (by repeat (first | (with_reducible first | exact Below.refl _ _ | apply below_alloc | apply pw_below_drewN | apply below_drew1) | exact Below.refl _ _)))) A5.out).mono ?_; rintro e w5 ⟨rfl, hs5⟩; refine ⟨_, rfl, ?_⟩; have n1_ := Aside0.mk (Sv.then_ (Sv.below HS.out (by repeat (first | (with_reducible first | exact Below.refl _ _ | apply below_alloc | apply pw_below_drewN | apply below_drew1) | exact Below.refl _ _))) hs5); clear HS hs5 hsc; have HS := n1_; clear n1_))
     go_ret
     exact ⟨rfl, (Sv.below HS.out (by repeat (first | (with_reducible first | exact Below.refl _ _ | apply below_alloc | apply pw_below_drewN | apply below_drew1) | exact Below.refl _ _)))⟩
    ·rw [if_neg e2] at H
     have e2b : ((rd_T55 l0 d).f0 == 0) = false := beq_eq_false_iff_ne.mpr e2
     clear e2
     by_cases e3 : (rd_T55 l0 a).f0 = (rd_T55 l0 d).f0
     rotate_left
     ·rw [if_neg e3] at H
      obtain ⟨rfl, rfl⟩ := Prod.mk.inj (Option.some.inj H)
      have e3b : ((rd_T55 l0 a).f0 != (rd_T55 l0 d).f0) = true := bne_iff_ne.mpr e3
      clear e3
      go_wp2
      go_ret
      exact ⟨rfl, (Sv.below HS.out (by repeat (first | (with_reducible first | exact Below.refl _ _ | apply below_alloc | apply pw_below_drewN | apply below_drew1) | exact Below.refl _ _)))⟩
     rw [if_pos e3] at H
     have e3b : ((rd_T55 l0 a).f0 != (rd_T55 l0 d).f0) = false := bne_eq_false_iff_eq.mpr e3
     clear e3
     obtain ⟨p, hp, H⟩ := bi H
     obtain ⟨q, hq, H⟩ := bi H
     have A6 := Aside0.mk hp
     have A7 := Aside0.mk hq
     have HH := Aside0.mk H
     clear H hp hq
     go_upto_region 16 with (fail)
     go_cut [9, 10] (fun v9 v10 wc => ∃ (Ap Aq : Option Addr) (cp cq : Nat), v9 = .slice Ap p.length cp /\ v10 = .slice Aq q.length cq /\ Aside0 (Kd.R (Kd.int .i64) 3 wc 0 (fun k_ => True /\ k_ ≠ g) (.slice Ap p.length cp) p) /\ Aside0 (Kd.R (Kd.int .i64) 3 wc 0 (fun k_ => True /\ k_ ≠ g) (.slice Aq q.length cq) q) /\ Aside0 (Sv w0 w b g c l0 wc))
     case first =>
      refine start_ (n := 6) (S := fun w' => w'.cell? ⟨gx, 0, none⟩ = some (.int .i64 (rd_T55 l0 a).f0) /\ w'.cell? ⟨gx, 1, none⟩ = some (.int .i64 (rd_T55 l0 a).f1) /\ w'.cell? ⟨gx, 2, none⟩ = some (.int .i64 (rd_T55 l0 a).f2) /\ w'.cell? ⟨gy, 0, none⟩ = some (.int .i64 (rd_T55 l0 d).f0) /\ w'.cell? ⟨gy, 1, none⟩ = some (.int .i64 (rd_T55 l0 d).f1) /\ w'.cell? ⟨gy, 2, none⟩ = some (.int .i64 (rd_T55 l0 d).f2)) (ds := []) (mk_ 0 6) (by kernel_rfl) rfl rfl ⟨hcx0, hcx1, hcx2, hcy0, hcy1, hcy2⟩ (fun hHeld => ?_)
      refine take_ (i := 0) (N := some 75) (v := ?_) (a' := ?_) (mk_ 1 5) rfl rfl (by kernel_rfl) (fun _ _ _ h => h) (Or.inl ⟨by rfl, ?_⟩) hHeld ?_ ?_
      rotate_left
      ·rintro w' ⟨s0, s1, s2, s3, s4, s5⟩
       go_simp
       with_reducible rfl
      rotate_left
      ·simp only [Act.put, sz1, sz2, sz3, i64_w, i32_w]
       rfl
      refine take_ (i := 2) (N := some 77) (v := ?_) (a' := ?_) (bm_ 6 5) rfl rfl (by kernel_rfl) (fun _ _ _ h => h) (Or.inl ⟨by rfl, ?_⟩) hHeld ?_ ?_
      rotate_left
      ·rintro w' ⟨s0, s1, s2, s3, s4, s5⟩
       go_simp
       with_reducible rfl
      rotate_left
      ·simp only [Act.put, sz1, sz2, sz3, i64_w, i32_w]
       rfl
      refine one_ (i := 1) (N := some 76) (mk_ 3 3) rfl rfl (by kernel_rfl) (by decide) (fun K hK => ?_)
      refine goes_ Tryd.func79 (by kernel_rfl) rfl #[.agg #[.int .i64 (rd_T55 l0 a).f0, .int .i64 (rd_T55 l0 a).f1, .int .i64 (rd_T55 l0 a).f2]] (by rfl) rfl rfl (by simp only [List.map_toArray, List.map_cons, List.map_nil]; rfl) ?_
      with_reducible refine (impl_partsOf.calls k (rd_T55 l0 a).f0 (rd_T55 l0 a).f1 (rd_T55 l0 a).f2 p _ A6.out).mono ?_
      rintro e wp1 ⟨vp, rfl, hop, hbp⟩
      refine ⟨_, rfl, ?_⟩
      have n1_ := Aside0.mk (Sv.below (Sv.below HS.out (by repeat (first | (with_reducible first | exact Below.refl _ _ | apply below_alloc | apply pw_below_drewN | apply below_drew1) | exact Below.refl _ _))) hbp)
      clear HS
      have HS := n1_
      clear n1_
      obtain ⟨csp, htp⟩ := HS.out.typed LP
      have HP := Aside0.mk (Kd.R_types (Kd.R_lower hop (Nat.zero_le _)) htp (by decide))
      obtain ⟨Ap, cp, ep⟩ := Kd.R_slice HP.out
      subst ep
      refine hK.out _ _ ⟨(cell_keep (below_step (by repeat (first | (with_reducible first | exact Below.refl _ _ | apply below_alloc | apply pw_below_drewN | apply below_drew1) | exact Below.refl _ _)) hbp) hcx0), (cell_keep (below_step (by repeat (first | (with_reducible first | exact Below.refl _ _ | apply below_alloc | apply pw_below_drewN | apply below_drew1) | exact Below.refl _ _)) hbp) hcx1), (cell_keep (below_step (by repeat (first | (with_reducible first | exact Below.refl _ _ | apply below_alloc | apply pw_below_drewN | apply below_drew1) | exact Below.refl _ _)) hbp) hcx2), (cell_keep (below_step (by repeat (first | (with_reducible first | exact Below.refl _ _ | apply below_alloc | apply pw_below_drewN | apply below_drew1) | exact Below.refl _ _)) hbp) hcy0), (cell_keep (below_step (by repeat (first | (with_reducible first | exact Below.refl _ _ | apply below_alloc | apply pw_below_drewN | apply below_drew1) | exact Below.refl _ _)) hbp) hcy1), (cell_keep (below_step (by repeat (first | (with_reducible first | exact Below.refl _ _ | apply below_alloc | apply pw_below_drewN | apply below_drew1) | exact Below.refl _ _)) hbp) hcy2)⟩ (fun hHeld => ?_)
      clear hK K
      refine norm_ (a' := ?_) ?_ ?_
      rotate_left
      ·show Act.put _ (some 76) _ = _
       simp only [Act.put, sz1, sz2, sz3, i64_w, i32_w]
       rfl
      refine one_ (i := 3) (N := some 78) (mk_ 4 2) rfl rfl (by kernel_rfl) (by decide) (fun K hK => ?_)
      refine goes_ Tryd.func79 (by kernel_rfl) rfl #[.agg #[.int .i64 (rd_T55 l0 d).f0, .int .i64 (rd_T55 l0 d).f1, .int .i64 (rd_T55 l0 d).f2]] (by rfl) rfl rfl (by simp only [List.map_toArray, List.map_cons, List.map_nil]; rfl) ?_
      with_reducible refine (impl_partsOf.calls k (rd_T55 l0 d).f0 (rd_T55 l0 d).f1 (rd_T55 l0 d).f2 q _ A7.out).mono ?_
      rintro e wp2 ⟨vq, rfl, hoq, hbq⟩
      refine ⟨_, rfl, ?_⟩
      have n1_ := Aside0.mk (Sv.below (Sv.below HS.out (by repeat (first | (with_reducible first | exact Below.refl _ _ | apply below_alloc | apply pw_below_drewN | apply below_drew1) | exact Below.refl _ _))) hbq)
      clear HS
      have HS := n1_
      clear n1_
      obtain ⟨csq, htq⟩ := HS.out.typed LP
      have HQ := Aside0.mk (Kd.R_types (Kd.R_lower hoq (Nat.zero_le _)) htq (by decide))
      have n2_ := Aside0.mk (Kd.R_below (rz HP.out) hbq)
      clear HP
      have HP := n2_
      clear n2_
      obtain ⟨Aq, cq, eq⟩ := Kd.R_slice HQ.out
      subst eq
      refine hK.out _ _ ⟨(cell_keep (below_step (below_step (by repeat (first | (with_reducible first | exact Below.refl _ _ | apply below_alloc | apply pw_below_drewN | apply below_drew1) | exact Below.refl _ _)) hbp) hbq) hcx0), (cell_keep (below_step (below_step (by repeat (first | (with_reducible first | exact Below.refl _ _ | apply below_alloc | apply pw_below_drewN | apply below_drew1) | exact Below.refl _ _)) hbp) hbq) hcx1), (cell_keep (below_step (below_step (by repeat (first | (with_reducible first | exact Below.refl _ _ | apply below_alloc | apply pw_below_drewN | apply below_drew1) | exact Below.refl _ _)) hbp) hbq) hcx2), (cell_keep (below_step (below_step (by repeat (first | (with_reducible first | exact Below.refl _ _ | apply below_alloc | apply pw_below_drewN | apply below_drew1) | exact Below.refl _ _)) hbp) hbq) hcy0), (cell_keep (below_step (below_step (by repeat (first | (with_reducible first | exact Below.refl _ _ | apply below_alloc | apply pw_below_drewN | apply below_drew1) | exact Below.refl _ _)) hbp) hbq) hcy1), (cell_keep (below_step (below_step (by repeat (first | (with_reducible first | exact Below.refl _ _ | apply below_alloc | apply pw_below_drewN | apply below_drew1) | exact Below.refl _ _)) hbp) hbq) hcy2)⟩ (fun hHeld => ?_)
      clear hK K
      refine norm_ (a' := ?_) ?_ ?_
      rotate_left
      ·show Act.put _ (some 78) _ = _
       simp only [Act.put, sz1, sz2, sz3, i64_w, i32_w]
       rfl
      refine pure_ (i := 4) (N := some 9) (v := ?_) (a' := ?_) (mk_ 5 1) rfl rfl (by kernel_rfl) (fun _ _ _ h => h) (Or.inl ⟨by rfl, ?_⟩) ?_ ?_
      rotate_left
      ·intro w'
       go_simp
       with_reducible rfl
      rotate_left
      ·simp only [Act.put, sz1, sz2, sz3, i64_w, i32_w]
       rfl
      refine pure_ (i := 5) (N := some 10) (v := ?_) (a' := ?_) (mk_ 6 0) rfl rfl (by kernel_rfl) (fun _ _ _ h => h) (Or.inl ⟨by rfl, ?_⟩) ?_ ?_
      rotate_left
      ·intro w'
       go_simp
       with_reducible rfl
      rotate_left
      ·simp only [Act.put, sz1, sz2, sz3, i64_w, i32_w]
       rfl
      refine done_ (by kernel_rfl) ?_
      go_wp2
      go_meet
      case rel => exact ⟨Ap, Aq, cp, cq, rfl, rfl, ⟨by refine rq ?_; exact HP.out⟩, ⟨by refine rq ?_; exact HQ.out⟩, ⟨(Sv.below HS.out (by repeat (first | (with_reducible first | exact Below.refl _ _ | apply below_alloc | apply pw_below_drewN | apply below_drew1) | exact Below.refl _ _)))⟩⟩
     case rest =>
      clear HS hsc HX HY hcx0 hcx1 hcx2 hcy0 hcy1 hcy2
      obtain ⟨Ap, Aq, cp, cq, rfl, rfl, HP, HQ, HS⟩ := hcut
      have H' := HH
      clear HH
      go_wp2
      go_loopg [11, 81] k (fun kq v11 v81 w' => ∃ (x : Int) (l : List S55), v81 = .int .i64 x /\ Aside0 (slvSameL kq l p q x = some (r1, r2)) /\ Aside0 (kq <= k) /\ Aside0 (Kd.R (Kd.int .i64) 3 w' 0 (fun k_ => True /\ k_ ≠ g) (.slice Ap p.length cp) p) /\ Aside0 (Kd.R (Kd.int .i64) 3 w' 0 (fun k_ => True /\ k_ ≠ g) (.slice Aq q.length cq) q) /\ Aside0 (Sv w0 w b g c l w'))
      case atStart => exact ⟨0, l0, rfl, H', ⟨Nat.le_refl _⟩, ⟨by refine rq ?_; exact HP.out⟩, ⟨by refine rq ?_; exact HQ.out⟩, ⟨(Sv.below HS.out (by repeat (first | (with_reducible first | exact Below.refl _ _ | apply below_alloc | apply pw_below_drewN | apply below_drew1) | exact Below.refl _ _)))⟩⟩
      case round =>
       clear H' HP HQ HS
       obtain ⟨x, l, rfl, HA, HK2, HP, HQ, HS⟩ := hrel
       cases gk with
       | zero => exact absurd HA.out (by simp [slvSameL])
       | succ k2 =>
        have H := HA.out
        clear HA
        simp only [slvSameL] at H
        by_cases f1 : x < (p.length : Int)
        rotate_left
        ·rw [if_neg f1] at H
         obtain ⟨rfl, rfl⟩ := Prod.mk.inj (Option.some.inj H)
         have f1b : decide (x < (p.length : Int)) = false := decide_eq_false f1
         clear f1
         go_wp2
         go_ret
         exact ⟨rfl, (Sv.below HS.out (by repeat (first | (with_reducible first | exact Below.refl _ _ | apply below_alloc | apply pw_below_drewN | apply below_drew1) | exact Below.refl _ _)))⟩
        rw [if_pos f1] at H
        have f1b : decide (x < (p.length : Int)) = true := decide_eq_true f1
        by_cases f2 : 0 <= x
        rotate_left
        ·rw [if_neg f2] at H
         cases H
        rw [if_pos f2] at H
        by_cases f3 : x < (q.length : Int)
        rotate_left
        ·rw [if_neg f3] at H
         cases H
        rw [if_pos f3] at H
        obtain ⟨⟨t1, t2⟩, ht, H⟩ := bi H
        have A8 := Aside0.mk ht
        clear ht
        have HH := Aside0.mk H
        clear H
        have f1t := eq_true f1
        have f2t := eq_true f2
        have f3t := eq_true f3
        go_upto_region 20 with (fail)
        go_cut [94] (fun v94 wc => v94 = .bool (!t1) /\ Aside0 (Kd.R (Kd.int .i64) 3 wc 0 (fun k_ => True /\ k_ ≠ g) (.slice Ap p.length cp) p) /\ Aside0 (Kd.R (Kd.int .i64) 3 wc 0 (fun k_ => True /\ k_ ≠ g) (.slice Aq q.length cq) q) /\ Aside0 (Sv w0 w b g c t2 wc))
        case first =>
         obtain ⟨adp, ep, hxp⟩ := Kd.at_int (Kd.R_reads' HP.out).2.2 x f2 f1
         cases ep
         obtain ⟨adq, eq_, hxq⟩ := Kd.at_int (Kd.R_reads' HQ.out).2.2 x f2 f3
         cases eq_
         refine start_ (n := 11) (S := fun w' => w'.cell? (adp.add (x).toNat) = some (.int .i64 (rd p x)) /\ w'.cell? (adq.add (x).toNat) = some (.int .i64 (rd q x))) (ds := [9]) (mk_ 0 11) (by kernel_rfl) rfl rfl ⟨hxp, hxq⟩ (fun hHeld => ?_)
         refine pure_ (i := 0) (N := some 84) (v := ?_) (a' := ?_) (mk_ 1 10) rfl rfl (by kernel_rfl) (fun _ _ _ h => h) (Or.inl ⟨by rfl, ?_⟩) ?_ ?_
         rotate_left
         ·intro w'
          go_simp
          with_reducible rfl
         rotate_left
         ·simp only [Act.put, sz1, sz2, sz3, i64_w, i32_w]
          rfl
         refine pure_ (i := 1) (N := some 85) (v := ?_) (a' := ?_) (mk_ 2 9) rfl rfl (by kernel_rfl) (fun _ _ _ h => h) (Or.inl ⟨by rfl, ?_⟩) ?_ ?_
         rotate_left
         ·intro w'
          go_simp
          with_reducible rfl
         rotate_left
         ·simp only [Act.put, sz1, sz2, sz3, i64_w, i32_w]
          rfl
         refine pure_ (i := 2) (N := some 86) (v := ?_) (a' := ?_) (mk_ 3 8) rfl rfl (by kernel_rfl) (fun _ _ _ h => h) (Or.inl ⟨by rfl, ?_⟩) ?_ ?_
         rotate_left
         ·intro w'
          go_simp
          with_reducible rfl
         rotate_left
         ·simp only [Act.put, sz1, sz2, sz3, i64_w, i32_w]
          rfl
         refine pure_ (i := 3) (N := some 87) (v := ?_) (a' := ?_) (mk_ 4 7) rfl rfl (by kernel_rfl) (fun _ _ _ h => h) (Or.inl ⟨by rfl, ?_⟩) ?_ ?_
         rotate_left
         ·intro w'
          go_simp
          with_reducible rfl
         rotate_left
         ·simp only [Act.put, sz1, sz2, sz3, i64_w, i32_w]
          rfl
         refine pure_ (i := 5) (N := some 89) (v := ?_) (a' := ?_) (bm_ 11 47) rfl rfl (by kernel_rfl) (fun _ _ _ h => h) (Or.inl ⟨by rfl, ?_⟩) ?_ ?_
         rotate_left
         ·intro w'
          go_simp
          with_reducible rfl
         rotate_left
         ·simp only [Act.put, sz1, sz2, sz3, i64_w, i32_w]
          rfl
         refine pure_ (i := 6) (N := some 90) (v := ?_) (a' := ?_) (bm_ 11 111) rfl rfl (by kernel_rfl) (fun _ _ _ h => h) (Or.inl ⟨by rfl, ?_⟩) ?_ ?_
         rotate_left
         ·intro w'
          go_simp
          with_reducible rfl
         rotate_left
         ·simp only [Act.put, sz1, sz2, sz3, i64_w, i32_w]
          rfl
         refine pure_ (i := 7) (N := some 91) (v := ?_) (a' := ?_) (bm_ 11 239) rfl rfl (by kernel_rfl) (fun _ _ _ h => h) (Or.inl ⟨by rfl, ?_⟩) ?_ ?_
         rotate_left
         ·intro w'
          go_simp
          with_reducible rfl
         rotate_left
         ·simp only [Act.put, sz1, sz2, sz3, i64_w, i32_w]
          rfl
         refine take_ (i := 4) (N := some 88) (v := ?_) (a' := ?_) (mk_ 8 3) rfl rfl (by kernel_rfl) (fun _ _ _ h => h) (Or.inl ⟨by rfl, ?_⟩) hHeld ?_ ?_
         rotate_left
         ·rintro w' ⟨s0, s1⟩
          go_simp
          with_reducible rfl
         rotate_left
         ·simp only [Act.put, sz1, sz2, sz3, i64_w, i32_w]
          rfl
         refine take_ (i := 8) (N := some 92) (v := ?_) (a' := ?_) (mk_ 9 2) rfl rfl (by kernel_rfl) (fun _ _ _ h => h) (Or.inl ⟨by rfl, ?_⟩) hHeld ?_ ?_
         rotate_left
         ·rintro w' ⟨s0, s1⟩
          go_simp
          with_reducible rfl
         rotate_left
         ·simp only [Act.put, sz1, sz2, sz3, i64_w, i32_w]
          rfl
         refine last_ (i := 9) (N := some 93) #[true, true, true, true, true, true, true, true, true, true, false] rfl rfl (by kernel_rfl) (by decide) (fun K hK => ?_)
         refine goes_ Tryd.func60 (by kernel_rfl) rfl #[.pointer (some ⟨b, 0, none⟩), .int .i64 (rd p x), .int .i64 (rd q x)] (by rfl) rfl rfl (by simp only [List.map_toArray, List.map_cons, List.map_nil]; rfl) ?_
         with_reducible refine (ih k2 (by have := HK2.out; omega) l b g c (rd p x) (rd q x) t1 t2 w0 _ (Sv.start (Sv.below HS.out (by repeat (first | (with_reducible first | exact Below.refl _ _ | apply below_alloc | apply pw_below_drewN | apply below_drew1) | exact Below.refl _ _)))) A8.out).mono ?_
         rintro e w5 ⟨rfl, hs5⟩
         refine ⟨_, rfl, ?_⟩
         have n1_ := Aside0.mk (Sv.then_ (Sv.below HS.out (by repeat (first | (with_reducible first | exact Below.refl _ _ | apply below_alloc | apply pw_below_drewN | apply below_drew1) | exact Below.refl _ _))) hs5)
         have n2_ := Aside0.mk (Kd.R_kept (show Kd.R (Kd.int .i64) 3 _ 0 (fun k_ => True /\ k_ ≠ g) (.slice (some adp) p.length cp) p from by refine rq ?_; exact HP.out) hs5.2.2.2 (fun _ hk => hk.2))
         have n3_ := Aside0.mk (Kd.R_kept (show Kd.R (Kd.int .i64) 3 _ 0 (fun k_ => True /\ k_ ≠ g) (.slice (some adq) q.length cq) q from by refine rq ?_; exact HQ.out) hs5.2.2.2 (fun _ hk => hk.2))
         clear HS HP HQ hs5
         have HS := n1_
         have HP := n2_
         have HQ := n3_
         clear n1_ n2_ n3_
         refine hK.out _ _ ?_
         clear hK K
         refine norm_ (a' := ?_) ?_ ?_
         rotate_left
         ·show Act.put _ (some 93) _ = _
          simp only [Act.put, sz1, sz2, sz3, i64_w, i32_w]
          rfl
         refine pure_ (i := 10) (N := some 94) (v := ?_) (a' := ?_) (mk_ 11 0) rfl rfl (by kernel_rfl) (fun _ _ _ h => h) (Or.inl ⟨by rfl, ?_⟩) ?_ ?_
         rotate_left
         ·intro w'
          go_simp
          with_reducible rfl
         rotate_left
         ·simp only [Act.put, sz1, sz2, sz3, i64_w, i32_w]
          rfl
         refine done_ (by kernel_rfl) ?_
         go_wp2
         go_meet
         case rel => exact ⟨rfl, ⟨by refine rq ?_; exact HP.out⟩, ⟨by refine rq ?_; exact HQ.out⟩, ⟨(Sv.below HS.out (by repeat (first | (with_reducible first | exact Below.refl _ _ | apply below_alloc | apply pw_below_drewN | apply below_drew1) | exact Below.refl _ _)))⟩⟩
        case rest =>
         clear HP HQ HS
         obtain ⟨rfl, HP, HQ, HS⟩ := hcut
         have H := HH.out
         clear HH
         cases t1 with
         | true =>
          rw [if_pos rfl] at H
          have H' := Aside0.mk H
          clear H
          go_wp2
          go_roundg k2
          case measure => have := HK2.out; omega
          case rel => exact ⟨_, t2, rfl, H', ⟨by have := HK2.out; omega⟩, ⟨by refine rq ?_; exact HP.out⟩, ⟨by refine rq ?_; exact HQ.out⟩, ⟨(Sv.below HS.out (by repeat (first | (with_reducible first | exact Below.refl _ _ | apply below_alloc | apply pw_below_drewN | apply below_drew1) | exact Below.refl _ _)))⟩⟩
         | false =>
          rw [if_neg (show ¬ (false = true) by decide)] at H
          obtain ⟨rfl, rfl⟩ := Prod.mk.inj (Option.some.inj H)
          go_wp2
          go_ret
          exact ⟨rfl, (Sv.below HS.out (by repeat (first | (with_reducible first | exact Below.refl _ _ | apply below_alloc | apply pw_below_drewN | apply below_drew1) | exact Below.refl _ _)))⟩
def unifiedF (k : Nat) (l : List S55) (a b : Int) : Option (ByteArray × Bool) :=
 (impl_SizeOf.f k l a).bind fun m => (impl_in.f m 1 60).bind fun t => (if t = true then ((impl_SizeOf.f k l b).bind fun n => ((impl_in.f n 1 60).bind fun u => (if u = true then (if 0 < l.length then (if l.length < 5864062014805 then ((slvSame k l a b).bind fun s => (if s.1 = true then ((impl_sizeOf.f k s.2 a).bind fun z => (if z <= 60 then ((showTypeF k s.2 a).bind fun r => (some (r, true))) else (some ((⟨#[]⟩ : ByteArray), false)))) else (some ((⟨#[]⟩ : ByteArray), false)))) else (none)) else (none)) else (some ((⟨#[]⟩ : ByteArray), false))))) else (some ((⟨#[]⟩ : ByteArray), false)))
set_option maxHeartbeats 8000000 in
set_option maxRecDepth 100000 in
theorem unifiedF.calls (k : Nat) (A0 : Option Addr) (c0 : Nat) (l0 : List S55) (a1 a2 : Int) (r1 : ByteArray) (r2 : Bool) (w : World) (hr0 : Kd.C k55 w A0 l0.length l0) (hc0 : l0.length <= c0) (h : unifiedF k l0 a1 a2 = some (r1, r2)) (hT_ : PW w) :
  Calls Tryd.prog 30 #[.slice A0 l0.length c0, .int .i64 a1, .int .i64 a2] w fun e w' => e = .returned (.tuple #[.string r1, .bool r2]) /\ Below w.heap.size w w' := by
 unfold unifiedF at h
 have hu48 := Tryd.underlying48
 have HR0 := Aside0.mk hr0
 have HC0 := Aside0.mk hc0
 have HB := Aside0.mk (Below.refl w.heap.size w)
 clear hr0 hc0
 obtain ⟨m, hm, H⟩ := Option.bind_eq_some_iff.mp h
 obtain ⟨t, ht, H⟩ := bi H
 have A1 := Aside0.mk hm
 have A2 := Aside0.mk ht
 clear h hm ht
 cases t with
 | false =>
  rw [if_neg (show ¬ (false = true) by decide)] at H
  obtain ⟨rfl, rfl⟩ := Prod.mk.inj (Option.some.inj H)
  go_enter Tryd.func30, Tryd.ntmps30
  go_wp2_with (first | ((with_reducible refine gate_callee (f := 21) rfl ?_); refine goesL_ (some 11) rfl rfl Tryd.func21 (by kernel_rfl) rfl #[.slice A0 l0.length c0, .int .i64 a1] rfl (by (try simp only [List.map_toArray, List.map_cons, List.map_nil]); first | done | rfl) ?_; (with_reducible refine (impl_SizeOf.calls k _ _ l0 a1 m _ ?side1 ?side2 A1.out).mono ?_); (case side1 => exact cz (Kd.C_below HR0.out HB.out)); (case side2 => exact HC0.out); rintro e ws1 ⟨rfl, hb⟩; refine ⟨_, rfl, ?_⟩; have n1_ := Aside0.mk (below_step (bz0 HB.out) hb); clear HB hb; have HB := n1_; clear n1_) | ((with_reducible refine gate_callee (f := 42) rfl ?_); refine goesL_ (some 12) rfl rfl Tryd.func42 (by kernel_rfl) rfl #[.int .i64 m, .int .i64 1, .int .i64 60] rfl (by (try simp only [List.map_toArray, List.map_cons, List.map_nil]); first | done | rfl) ?_; (with_reducible refine (impl_in.calls m 1 60 false _ A2.out).mono ?_); rintro e w' ⟨rfl, ⟨nd, rfl⟩⟩; refine ⟨_, rfl, ?_⟩))
  go_ret2
  exact ⟨rfl, (bz0 HB.out)⟩
 | true =>
  rw [if_pos rfl] at H
  obtain ⟨n, hn, H⟩ := bi H
  obtain ⟨u, hu, H⟩ := bi H
  have A3 := Aside0.mk hn
  have A4 := Aside0.mk hu
  clear hn hu
  cases u with
  | false =>
   rw [if_neg (show ¬ (false = true) by decide)] at H
   obtain ⟨rfl, rfl⟩ := Prod.mk.inj (Option.some.inj H)
   go_enter Tryd.func30, Tryd.ntmps30
   go_wp2_with (first | ((with_reducible refine gate_callee (f := 21) rfl ?_); refine goesL_ (some 11) rfl rfl Tryd.func21 (by kernel_rfl) rfl #[.slice A0 l0.length c0, .int .i64 a1] rfl (by (try simp only [List.map_toArray, List.map_cons, List.map_nil]); first | done | rfl) ?_; (with_reducible refine (impl_SizeOf.calls k _ _ l0 a1 m _ ?side1 ?side2 A1.out).mono ?_); (case side1 => exact cz (Kd.C_below HR0.out HB.out)); (case side2 => exact HC0.out); rintro e ws1 ⟨rfl, hb⟩; refine ⟨_, rfl, ?_⟩; have n1_ := Aside0.mk (below_step (bz0 HB.out) hb); clear HB hb; have HB := n1_; clear n1_) | ((with_reducible refine gate_callee (f := 42) rfl ?_); refine goesL_ (some 12) rfl rfl Tryd.func42 (by kernel_rfl) rfl #[.int .i64 m, .int .i64 1, .int .i64 60] rfl (by (try simp only [List.map_toArray, List.map_cons, List.map_nil]); first | done | rfl) ?_; (with_reducible refine (impl_in.calls m 1 60 true _ A2.out).mono ?_); rintro e w' ⟨rfl, ⟨nd, rfl⟩⟩; refine ⟨_, rfl, ?_⟩) | (go_at_call 21; (with_reducible refine (impl_SizeOf.calls k _ _ l0 a2 n _ ?side1 ?side2 A3.out).mono ?_); (case side1 => exact cz (Kd.C_below HR0.out HB.out)); (case side2 => exact HC0.out); rintro e ws2 ⟨rfl, hb⟩; have n1_ := Aside0.mk (below_step (bz0 HB.out) hb); clear HB hb; have HB := n1_; clear n1_) | (go_at_call 42; (with_reducible refine (impl_in.calls n 1 60 false _ A4.out).mono ?_); rintro e w' ⟨rfl, ⟨nd, rfl⟩⟩))
   go_ret2
   exact ⟨rfl, (bz0 HB.out)⟩
  | true =>
   rw [if_pos rfl] at H
   by_cases lp : 0 < l0.length
   rotate_left
   ·rw [if_neg lp] at H
    cases H
   rw [if_pos lp] at H
   by_cases ll : l0.length < 5864062014805
   rotate_left
   ·rw [if_neg ll] at H
    cases H
   rw [if_pos ll] at H
   have LL := Aside0.mk ll
   have LP := Aside0.mk lp
   clear ll lp
   obtain ⟨⟨s1, s2⟩, hs, H⟩ := bi H
   have A5 := Aside0.mk hs
   clear hs
   cases s1 with
   | false =>
    rw [if_neg (show ¬ (false = true) by decide)] at H
    obtain ⟨rfl, rfl⟩ := Prod.mk.inj (Option.some.inj H)
    go_enter Tryd.func30, Tryd.ntmps30
    go_wp2_with (first | ((with_reducible refine gate_callee (f := 21) rfl ?_); refine goesL_ (some 11) rfl rfl Tryd.func21 (by kernel_rfl) rfl #[.slice A0 l0.length c0, .int .i64 a1] rfl (by (try simp only [List.map_toArray, List.map_cons, List.map_nil]); first | done | rfl) ?_; (with_reducible refine (impl_SizeOf.calls k _ _ l0 a1 m _ ?side1 ?side2 A1.out).mono ?_); (case side1 => exact cz (Kd.C_below HR0.out HB.out)); (case side2 => exact HC0.out); rintro e ws1 ⟨rfl, hb⟩; refine ⟨_, rfl, ?_⟩; have n1_ := Aside0.mk (below_step (bz0 HB.out) hb); clear HB hb; have HB := n1_; clear n1_) | ((with_reducible refine gate_callee (f := 42) rfl ?_); refine goesL_ (some 12) rfl rfl Tryd.func42 (by kernel_rfl) rfl #[.int .i64 m, .int .i64 1, .int .i64 60] rfl (by (try simp only [List.map_toArray, List.map_cons, List.map_nil]); first | done | rfl) ?_; (with_reducible refine (impl_in.calls m 1 60 true _ A2.out).mono ?_); rintro e w' ⟨rfl, ⟨nd, rfl⟩⟩; refine ⟨_, rfl, ?_⟩) | (go_at_call 21; (with_reducible refine (impl_SizeOf.calls k _ _ l0 a2 n _ ?side1 ?side2 A3.out).mono ?_); (case side1 => exact cz (Kd.C_below HR0.out HB.out)); (case side2 => exact HC0.out); rintro e ws2 ⟨rfl, hb⟩; have n1_ := Aside0.mk (below_step (bz0 HB.out) hb); clear HB hb; have HB := n1_; clear n1_) | (go_at_call 42; (with_reducible refine (impl_in.calls n 1 60 true _ A4.out).mono ?_); rintro e w' ⟨rfl, ⟨nd, rfl⟩⟩) | ((with_reducible refine gate_builtin (b := .append) (xs := #[.const (.slice none 0 0), .tmp 21]) rfl ?_); at_builtin; refine Kd.R_append_rows k55 (w0 := w) w.heap.size rfl (.const (.slice none 0 0)) (.tmp 21) 48 55 (.agg #[(.int .i64 0), (.int .i64 0), (.int .i64 0)]) 24 rfl Tryd.underlying48 info55 rfl (by decide) (by omega) (.slice none 0 0) [] l0 _ _ _ (fun _ => True) (fun _ => False) rfl rfl ?aO ?aR (fun _ _ h => h) (fun _ h => h.elim) ?aF ?aB ?aS ?aL ?_; (case aR => exact (show Kd.C k55 _ _ _ l0 from by exact cz (Kd.C_below HR0.out HB.out))); (case aB => exact (bz0 HB.out)); (case aF => exact (fun _ _ => trivial)); (case aO => exact (Kd.R_nil _ _ _ _ _)); (case aS => exact (below_size (bz0 HB.out))); (case aL => have := LL.out; simp only [List.length_nil]; omega); intro v1 wa ho hb hg hat; clear hg hat; rw [List.nil_append] at ho; obtain ⟨g, c, eo, gb, gl, cl, hgt⟩ := Kd.R_form ho LP.out; subst eo; have HO := Aside0.mk ho; clear HB ho gb gl hgt; have HB := Aside0.mk hb; clear hb) | ((with_reducible refine gate_dst (N := 24) rfl ?_); refine box_event ?hg (N := 24) ?hd (cs := #[.slice (some ⟨g, 0, none⟩) l0.length c]) (t := 103) ?hr ?_; (case hd => rfl); (case hg => rfl); (case hr => exact vz); intro b hbq wb hbox hb; have n1_ := Aside0.mk (show Sv w wb b g c l0 wb from ⟨hbox, Kd.R_mono (Kd.R_tight rfl (Kd.R_below HO.out hb)) (fun _ hk => Option.some.inj hk), below_step HB.out hb, Kept.refl _ _⟩); clear hbq hbox hb HB HO; have HS := n1_; clear n1_) | ((with_reducible refine gate_callee (f := 60) rfl ?_); refine goesL_ (some 28) rfl rfl Tryd.func60 (by kernel_rfl) rfl #[.pointer (some ⟨b, 0, none⟩), .int .i64 a1, .int .i64 a2] rfl (by (try simp only [List.map_toArray, List.map_cons, List.map_nil]); first | done | rfl) ?_; refine (slvSame.calls k l0 b g c a1 a2 false s2 w _ (Sv.start (Sv.below HS.out (by repeat (first | (with_reducible first | exact Below.refl _ _ | apply below_alloc | apply pw_below_drewN | apply below_drew1) | exact Below.refl _ _)))) A5.out).mono ?_; rintro e w5 ⟨rfl, hs5⟩; refine ⟨_, rfl, ?_⟩; clear HS; have HS := Aside0.mk (Sv.start hs5); have HB := Aside0.mk hs5.2.2.1; have hsc := HS.out.cell; clear hs5))
    go_ret2
    exact ⟨rfl, (bz0 HB.out)⟩
   | true =>
    rw [if_pos rfl] at H
    obtain ⟨z, hz, H⟩ := bi H
    have A6 := Aside0.mk hz
    clear hz
    by_cases c6 : z <= 60
    rotate_left
    ·rw [if_neg c6] at H
     obtain ⟨rfl, rfl⟩ := Prod.mk.inj (Option.some.inj H)
     have c6b : decide (z <= 60) = false := decide_eq_false c6
     clear c6
     go_enter Tryd.func30, Tryd.ntmps30
     go_wp2_with (first | ((with_reducible refine gate_callee (f := 21) rfl ?_); refine goesL_ (some 11) rfl rfl Tryd.func21 (by kernel_rfl) rfl #[.slice A0 l0.length c0, .int .i64 a1] rfl (by (try simp only [List.map_toArray, List.map_cons, List.map_nil]); first | done | rfl) ?_; (with_reducible refine (impl_SizeOf.calls k _ _ l0 a1 m _ ?side1 ?side2 A1.out).mono ?_); (case side1 => exact cz (Kd.C_below HR0.out HB.out)); (case side2 => exact HC0.out); rintro e ws1 ⟨rfl, hb⟩; refine ⟨_, rfl, ?_⟩; have n1_ := Aside0.mk (below_step (bz0 HB.out) hb); clear HB hb; have HB := n1_; clear n1_) | ((with_reducible refine gate_callee (f := 42) rfl ?_); refine goesL_ (some 12) rfl rfl Tryd.func42 (by kernel_rfl) rfl #[.int .i64 m, .int .i64 1, .int .i64 60] rfl (by (try simp only [List.map_toArray, List.map_cons, List.map_nil]); first | done | rfl) ?_; (with_reducible refine (impl_in.calls m 1 60 true _ A2.out).mono ?_); rintro e w' ⟨rfl, ⟨nd, rfl⟩⟩; refine ⟨_, rfl, ?_⟩) | (go_at_call 21; (with_reducible refine (impl_SizeOf.calls k _ _ l0 a2 n _ ?side1 ?side2 A3.out).mono ?_); (case side1 => exact cz (Kd.C_below HR0.out HB.out)); (case side2 => exact HC0.out); rintro e ws2 ⟨rfl, hb⟩; have n1_ := Aside0.mk (below_step (bz0 HB.out) hb); clear HB hb; have HB := n1_; clear n1_) | (go_at_call 42; (with_reducible refine (impl_in.calls n 1 60 true _ A4.out).mono ?_); rintro e w' ⟨rfl, ⟨nd, rfl⟩⟩) | ((with_reducible refine gate_builtin (b := .append) (xs := #[.const (.slice none 0 0), .tmp 21]) rfl ?_); at_builtin; refine Kd.R_append_rows k55 (w0 := w) w.heap.size rfl (.const (.slice none 0 0)) (.tmp 21) 48 55 (.agg #[(.int .i64 0), (.int .i64 0), (.int .i64 0)]) 24 rfl Tryd.underlying48 info55 rfl (by decide) (by omega) (.slice none 0 0) [] l0 _ _ _ (fun _ => True) (fun _ => False) rfl rfl ?aO ?aR (fun _ _ h => h) (fun _ h => h.elim) ?aF ?aB ?aS ?aL ?_; (case aR => exact (show Kd.C k55 _ _ _ l0 from by exact cz (Kd.C_below HR0.out HB.out))); (case aB => exact (bz0 HB.out)); (case aF => exact (fun _ _ => trivial)); (case aO => exact (Kd.R_nil _ _ _ _ _)); (case aS => exact (below_size (bz0 HB.out))); (case aL => have := LL.out; simp only [List.length_nil]; omega); intro v1 wa ho hb hg hat; clear hg hat; rw [List.nil_append] at ho; obtain ⟨g, c, eo, gb, gl, cl, hgt⟩ := Kd.R_form ho LP.out; subst eo; have HO := Aside0.mk ho; clear HB ho gb gl hgt; have HB := Aside0.mk hb; clear hb) | ((with_reducible refine gate_dst (N := 24) rfl ?_); refine box_event ?hg (N := 24) ?hd (cs := #[.slice (some ⟨g, 0, none⟩) l0.length c]) (t := 103) ?hr ?_; (case hd => rfl); (case hg => rfl); (case hr => exact vz); intro b hbq wb hbox hb; have n1_ := Aside0.mk (show Sv w wb b g c l0 wb from ⟨hbox, Kd.R_mono (Kd.R_tight rfl (Kd.R_below HO.out hb)) (fun _ hk => Option.some.inj hk), below_step HB.out hb, Kept.refl _ _⟩); clear hbq hbox hb HB HO; have HS := n1_; clear n1_) | ((with_reducible refine gate_callee (f := 60) rfl ?_); refine goesL_ (some 28) rfl rfl Tryd.func60 (by kernel_rfl) rfl #[.pointer (some ⟨b, 0, none⟩), .int .i64 a1, .int .i64 a2] rfl (by (try simp only [List.map_toArray, List.map_cons, List.map_nil]); first | done | rfl) ?_; refine (slvSame.calls k l0 b g c a1 a2 true s2 w _ (Sv.start (Sv.below HS.out (by repeat (first | (with_reducible first | exact Below.refl _ _ | apply below_alloc | apply pw_below_drewN | apply below_drew1) | exact Below.refl _ _)))) A5.out).mono ?_; rintro e w5 ⟨rfl, hs5⟩; refine ⟨_, rfl, ?_⟩; clear HS; have HS := Aside0.mk (Sv.start hs5); have HB := Aside0.mk hs5.2.2.1; have hsc := HS.out.cell; clear hs5) | (go_at_call 61; (with_reducible refine (solver_fits.calls k (some ⟨g, 0, none⟩) c s2 b a1 z _ ?side1 ?side2 ?side3 A6.out).mono ?_); (case side1 => exact (Sv.below HS.out (by repeat (first | (with_reducible first | exact Below.refl _ _ | apply below_alloc | apply pw_below_drewN | apply below_drew1) | exact Below.refl _ _))).1); (case side2 => exact (Sv.C (Sv.below HS.out (by repeat (first | (with_reducible first | exact Below.refl _ _ | apply below_alloc | apply pw_below_drewN | apply below_drew1) | exact Below.refl _ _))))); (case side3 => exact (Sv.cap HS.out)); rintro e wf ⟨rfl, hb⟩; have n1_ := Aside0.mk (Sv.below (Sv.below HS.out (by repeat (first | (with_reducible first | exact Below.refl _ _ | apply below_alloc | apply pw_below_drewN | apply below_drew1) | exact Below.refl _ _))) hb); clear HS hb hsc HB; have HS := n1_; have HB := Aside0.mk HS.out.2.2.1; have hsc := HS.out.cell; clear n1_))
     go_ret2
     exact ⟨rfl, (bz0 HB.out)⟩
    rw [if_pos c6] at H
    have c6b : decide (z <= 60) = true := decide_eq_true c6
    clear c6
    obtain ⟨r, hr, H⟩ := bi H
    have A7 := Aside0.mk hr
    clear hr
    obtain ⟨rfl, rfl⟩ := Prod.mk.inj (Option.some.inj H)
    go_enter Tryd.func30, Tryd.ntmps30
    go_wp2_with (first | ((with_reducible refine gate_callee (f := 21) rfl ?_); refine goesL_ (some 11) rfl rfl Tryd.func21 (by kernel_rfl) rfl #[.slice A0 l0.length c0, .int .i64 a1] rfl (by (try simp only [List.map_toArray, List.map_cons, List.map_nil]); first | done | rfl) ?_; (with_reducible refine (impl_SizeOf.calls k _ _ l0 a1 m _ ?side1 ?side2 A1.out).mono ?_); (case side1 => exact cz (Kd.C_below HR0.out HB.out)); (case side2 => exact HC0.out); rintro e ws1 ⟨rfl, hb⟩; refine ⟨_, rfl, ?_⟩; have n1_ := Aside0.mk (below_step (bz0 HB.out) hb); clear HB hb; have HB := n1_; clear n1_) | ((with_reducible refine gate_callee (f := 42) rfl ?_); refine goesL_ (some 12) rfl rfl Tryd.func42 (by kernel_rfl) rfl #[.int .i64 m, .int .i64 1, .int .i64 60] rfl (by (try simp only [List.map_toArray, List.map_cons, List.map_nil]); first | done | rfl) ?_; (with_reducible refine (impl_in.calls m 1 60 true _ A2.out).mono ?_); rintro e w' ⟨rfl, ⟨nd, rfl⟩⟩; refine ⟨_, rfl, ?_⟩) | (go_at_call 21; (with_reducible refine (impl_SizeOf.calls k _ _ l0 a2 n _ ?side1 ?side2 A3.out).mono ?_); (case side1 => exact cz (Kd.C_below HR0.out HB.out)); (case side2 => exact HC0.out); rintro e ws2 ⟨rfl, hb⟩; have n1_ := Aside0.mk (below_step (bz0 HB.out) hb); clear HB hb; have HB := n1_; clear n1_) | (go_at_call 42; (with_reducible refine (impl_in.calls n 1 60 true _ A4.out).mono ?_); rintro e w' ⟨rfl, ⟨nd, rfl⟩⟩) | ((with_reducible refine gate_builtin (b := .append) (xs := #[.const (.slice none 0 0), .tmp 21]) rfl ?_); at_builtin; refine Kd.R_append_rows k55 (w0 := w) w.heap.size rfl (.const (.slice none 0 0)) (.tmp 21) 48 55 (.agg #[(.int .i64 0), (.int .i64 0), (.int .i64 0)]) 24 rfl Tryd.underlying48 info55 rfl (by decide) (by omega) (.slice none 0 0) [] l0 _ _ _ (fun _ => True) (fun _ => False) rfl rfl ?aO ?aR (fun _ _ h => h) (fun _ h => h.elim) ?aF ?aB ?aS ?aL ?_; (case aR => exact (show Kd.C k55 _ _ _ l0 from by exact cz (Kd.C_below HR0.out HB.out))); (case aB => exact (bz0 HB.out)); (case aF => exact (fun _ _ => trivial)); (case aO => exact (Kd.R_nil _ _ _ _ _)); (case aS => exact (below_size (bz0 HB.out))); (case aL => have := LL.out; simp only [List.length_nil]; omega); intro v1 wa ho hb hg hat; clear hg hat; rw [List.nil_append] at ho; obtain ⟨g, c, eo, gb, gl, cl, hgt⟩ := Kd.R_form ho LP.out; subst eo; have HO := Aside0.mk ho; clear HB ho gb gl hgt; have HB := Aside0.mk hb; clear hb) | ((with_reducible refine gate_dst (N := 24) rfl ?_); refine box_event ?hg (N := 24) ?hd (cs := #[.slice (some ⟨g, 0, none⟩) l0.length c]) (t := 103) ?hr ?_; (case hd => rfl); (case hg => rfl); (case hr => exact vz); intro b hbq wb hbox hb; have n1_ := Aside0.mk (show Sv w wb b g c l0 wb from ⟨hbox, Kd.R_mono (Kd.R_tight rfl (Kd.R_below HO.out hb)) (fun _ hk => Option.some.inj hk), below_step HB.out hb, Kept.refl _ _⟩); clear hbq hbox hb HB HO; have HS := n1_; clear n1_) | ((with_reducible refine gate_callee (f := 60) rfl ?_); refine goesL_ (some 28) rfl rfl Tryd.func60 (by kernel_rfl) rfl #[.pointer (some ⟨b, 0, none⟩), .int .i64 a1, .int .i64 a2] rfl (by (try simp only [List.map_toArray, List.map_cons, List.map_nil]); first | done | rfl) ?_; refine (slvSame.calls k l0 b g c a1 a2 true s2 w _ (Sv.start (Sv.below HS.out (by repeat (first | (with_reducible first | exact Below.refl _ _ | apply below_alloc | apply pw_below_drewN | apply below_drew1) | exact Below.refl _ _)))) A5.out).mono ?_; rintro e w5 ⟨rfl, hs5⟩; refine ⟨_, rfl, ?_⟩; clear HS; have HS := Aside0.mk (Sv.start hs5); have HB := Aside0.mk hs5.2.2.1; have hsc := HS.out.cell; clear hs5) | (go_at_call 61; (with_reducible refine (solver_fits.calls k (some ⟨g, 0, none⟩) c s2 b a1 z _ ?side1 ?side2 ?side3 A6.out).mono ?_); (case side1 => exact (Sv.below HS.out (by repeat (first | (with_reducible first | exact Below.refl _ _ | apply below_alloc | apply pw_below_drewN | apply below_drew1) | exact Below.refl _ _))).1); (case side2 => exact (Sv.C (Sv.below HS.out (by repeat (first | (with_reducible first | exact Below.refl _ _ | apply below_alloc | apply pw_below_drewN | apply below_drew1) | exact Below.refl _ _))))); (case side3 => exact (Sv.cap HS.out)); rintro e wf ⟨rfl, hb⟩; have n1_ := Aside0.mk (Sv.below (Sv.below HS.out (by repeat (first | (with_reducible first | exact Below.refl _ _ | apply below_alloc | apply pw_below_drewN | apply below_drew1) | exact Below.refl _ _))) hb); clear HS hb hsc HB; have HS := n1_; have HB := Aside0.mk HS.out.2.2.1; have hsc := HS.out.cell; clear n1_) | ((with_reducible refine gate_callee (f := 55) rfl ?_); refine goesL_ (some 41) rfl rfl Tryd.func55 (by kernel_rfl) rfl #[.slice (some ⟨g, 0, none⟩) s2.length c, .int .i64 a1] rfl (by (try simp only [List.map_toArray, List.map_cons, List.map_nil]); first | done | rfl) ?_; (with_reducible refine (showTypeF.calls k _ _ s2 a1 r _ ?side1 ?side2 A7.out ?hT_).mono ?_); (case hT_ => exact PW.below hT_ (bz0 HB.out)); (case side1 => exact (Sv.C (Sv.below HS.out (by repeat (first | (with_reducible first | exact Below.refl _ _ | apply below_alloc | apply pw_below_drewN | apply below_drew1) | exact Below.refl _ _))))); (case side2 => exact (Sv.cap HS.out)); rintro e wg ⟨rfl, hb⟩; refine ⟨_, rfl, ?_⟩; have n1_ := Aside0.mk (below_step (bz0 HB.out) hb); clear HB hb; have HB := n1_; clear n1_))
    go_ret2
    exact ⟨rfl, (bz0 HB.out)⟩
theorem slvIn.mono_l : ∀ k, (∀ l v ks j, LeO (slvInL k l v ks j) (slvInL (k + 1) l v ks j)) /\ (∀ l v i, LeO (slvIn k l v i) (slvIn (k + 1) l v i))
 | 0 => ⟨fun _ _ _ _ r h => by simp [slvInL] at h, fun _ _ _ r h => by simp [slvIn] at h⟩
 | k + 1 => by
  obtain ⟨ih1, ih2⟩ := slvIn.mono_l k
  refine ⟨fun l v ks j => ?_, fun l v i => ?_⟩
  ·unfold slvInL
   with_reducible repeat' first | exact ih1 _ _ _ _ | exact ih2 _ _ _ | exact lrz _ | exact lnz _ | refine liz ?_ ?_ | refine lbz ?_ fun _ => ?_
  ·unfold slvIn
   with_reducible repeat' first | exact ih1 _ _ _ _ | exact chase.mono _ _ _ | exact impl_partsOf.mono _ _ _ _ | exact lrz _ | exact lnz _ | refine liz ?_ ?_ | refine lbz ?_ fun _ => ?_
theorem slvSame.mono_l : ∀ k, (∀ l p q j, LeO (slvSameL k l p q j) (slvSameL (k + 1) l p q j)) /\ (∀ l a b, LeO (slvSame k l a b) (slvSame (k + 1) l a b))
 | 0 => ⟨fun _ _ _ _ r h => by simp [slvSameL] at h, fun _ _ _ r h => by simp [slvSame] at h⟩
 | k + 1 => by
  obtain ⟨ih1, ih2⟩ := slvSame.mono_l k
  have st := (slvIn.mono_l k).2
  refine ⟨fun l p q j => ?_, fun l a b => ?_⟩
  ·unfold slvSameL
   with_reducible repeat' first | exact ih1 _ _ _ _ | exact ih2 _ _ _ | exact lrz _ | exact lnz _ | refine liz ?_ ?_ | refine lbz ?_ fun _ => ?_
  ·unfold slvSame
   with_reducible repeat' first | exact ih1 _ _ _ _ | exact ih2 _ _ _ | exact st _ _ _ | exact chase.mono _ _ _ | exact impl_sizeOf.mono _ _ _ | exact impl_partsOf.mono _ _ _ _ | exact lrz _ | exact lnz _ | refine liz ?_ ?_ | refine lbz ?_ fun _ => ?_
theorem unifiedF.mono (l : List S55) (a b : Int) (k : Nat) : LeO (unifiedF k l a b) (unifiedF (k + 1) l a b) := by
 have sm := (slvSame.mono_l k).2
 unfold unifiedF
 with_reducible repeat' first | exact sm _ _ _ | exact impl_SizeOf.mono _ _ _ | exact impl_sizeOf.mono _ _ _ | exact showTypeF.mono _ _ _ | exact lrz _ | exact lnz _ | refine liz ?_ ?_ | refine lbz ?_ fun _ => ?_
def impl_Unified.f (k : Nat) (l0 : List (S55)) (a1 : Int) (a2 : Int) : Option (ByteArray × Bool) := unifiedF k l0 a1 a2
theorem impl_Unified.mono : ∀ a0 a1 a2 k, LeO (impl_Unified.f k a0 a1 a2) (impl_Unified.f (k + 1) a0 a1 a2) := fun a0 a1 a2 k => unifiedF.mono a0 a1 a2 k
theorem impl_Unified.calls (k : Nat) (A0 : Option Addr) (c0 : Nat) (l0 : List (S55)) (a1 : Int) (a2 : Int) (r1 : ByteArray) (r2 : Bool) (w : World) (hr0 : Kd.C k55 w A0 l0.length l0) (hc0 : l0.length <= c0) (h : impl_Unified.f k l0 a1 a2 = some (r1, r2)) (hT_ : PW w) :
  Calls Tryd.prog 30 #[.slice A0 l0.length c0, .int .i64 a1, .int .i64 a2] w fun e w' => e = .returned (.tuple #[.string r1, .bool r2]) /\ Below w.heap.size w w' := unifiedF.calls k A0 c0 l0 a1 a2 r1 r2 w hr0 hc0 h hT_
end Go.Proofs.YtlhofeikcaejpaaDoor.PFnExactUnified
