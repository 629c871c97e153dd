/- One small law beside the print's words: a row cut with a capacity. -/
import Derived.Test.YtmilegjmiiccdaaDoorVEFreeNamesWWords
set_option linter.unusedVariables false
set_option linter.unusedSimpArgs false
namespace Go.Proofs.YtmilegjmiiccdaaDoorW.PrintWords
open Go.RowKit
theorem cut_to3 {P : Program} (t e : TypeId) (kh km : IntKind) {i : TypeInfo} (ht : P.underlying t = some (.slice e)) (hi : P.info? e = some i) (A : Option Addr) (n c : Nat) (j m : Int) (h0 : 0 ≤ j) (hj : j ≤ m) (hm : m ≤ n) (hc : n ≤ c) :
    ∀ W : World, (Instr.slice t (.slice A n c) none (some (.int kh j)) (some (.int km m))).run P W = .ok (.slice A j.toNat m.toNat) W := by
  intro W
  have hel : P.elem t = e := by simp [Program.elem, ht]
  have hu : P.underlying t = some (.slice (P.elem t)) := by rw [hel]; exact ht
  have ha : (A.map fun x => x.add 0) = A := by cases A <;> simp [Addr.add]
  rw [run_slice_hm W t A n c hu kh km j m h0 hj (by omega), hel]
  simp [sizeOf, typeInfo, hi, sliced, Result.andThen, ha]
theorem az {P : Prop} (h : P := by first | (with_reducible assumption) | assumption) : P := h
theorem bz0 {P Q : Prop} (h : P) (g : P → Q := by intro HB; repeat (first | (with_reducible first | exact HB | apply below_alloc | apply pw_below_drewN | apply below_drew1) | exact HB)) : Q := g h
theorem bz1 {P Q : Prop} {E0 : Prop} (h : P) (e0 : E0) (g : P → E0 → Q := by intro HB G0; repeat (first | (with_reducible first | exact HB | apply below_alloc | apply pw_below_drewN | apply below_drew1 | refine below_set ?_ G0) | exact HB)) : Q := g h e0
theorem bz2 {P Q : Prop} {E0 : Prop} {E1 : Prop} (h : P) (e0 : E0) (e1 : E1) (g : P → E0 → E1 → Q := by intro HB G0 G1; repeat (first | (with_reducible first | exact HB | apply below_alloc | apply pw_below_drewN | apply below_drew1 | refine below_set ?_ G0 | refine below_set ?_ G1) | exact HB)) : Q := g h e0 e1
theorem bz3 {P Q : Prop} {E0 : Prop} {E1 : Prop} {E2 : Prop} (h : P) (e0 : E0) (e1 : E1) (e2 : E2) (g : P → E0 → E1 → E2 → Q := by intro HB G0 G1 G2; repeat (first | (with_reducible first | exact HB | apply below_alloc | apply pw_below_drewN | apply below_drew1 | refine below_set ?_ G0 | refine below_set ?_ G1 | refine below_set ?_ G2) | exact HB)) : Q := g h e0 e1 e2
theorem cz {P Q : Prop} (h : P) (g : P → Q := by intro K; repeat (first | exact K | (with_reducible refine Kd.C_alloc ?_ _) | (with_reducible refine Kd.C_drewN ?_ _) | (with_reducible refine Kd.C_drew ?_))) : Q := g h
theorem ez {P : Prop} (h : P := by first | rfl | (simp; done) | (simp [*]; done) | (simp [bne]; done)) : P := h
theorem gz {P : Prop} (h : P := by first | rfl | (simp [errW_none, errW_some] <;> rfl) | (simp [*, errW_none, errW_some] <;> rfl)) : P := h
theorem hz {w W : World} {p : Addr} {v : Value} (h : Below w.heap.size w W) (hx : w.cell? p = some v) : W.cell? p = some v := (h.cell (World.block_lt_of_cell? w _ hx)).trans hx
theorem kz {P Q : Prop} (h : P) (g : P → Q := by intro K; (with_reducible repeat (first | refine blk_drewN ?_ _ | refine blk_drew ?_ | refine blk_alloc ?_ _)); exact K) : Q := g h
theorem lz {P : Prop} (h : P := by (try simp only [List.map_toArray, List.map_cons, List.map_nil]); first | done | rfl | (simp only [List.length_drop, List.length_take]; rfl)) : P := h
theorem rz {P Q : Prop} (h : P) (g : P → Q := by intro K; (with_reducible repeat (first | apply Kd.R_alloc | apply Kd.R_drewN | apply Kd.R_drew)); exact K) : Q := g h
end Go.Proofs.YtmilegjmiiccdaaDoorW.PrintWords
