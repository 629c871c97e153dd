/- A text builder of the call's own: what a write leaves: the builder holds more, and no block of another type has turned. Walked anew, after the shelf's own walk, at this program. -/
import Derived.Test.YtdjamdnjkdllgaaDoorVFnLexedWWords
import Derived.Test.YtdjamdnjkdllgaaDoorVFnLexedWLast
import Derived.Test.YtdjamdnjkdllgaaDoorVFnLexedWMore
import Derived.Test.YtdjamdnjkdllgaaDoorProg
import Derived.Test.YtdjamdnjkdllgaaDoorVFnLexedShelf
import Derived.Lib.Walk
import Derived.Lib.Builder
import Derived.Lib.AppendStr
import Derived.Lib.UnsafeStr
import Derived.Lib.MakeNoZero
import Derived.Lib.Strings
import Derived.Laws.Externs
import Derived.Laws.IdiomCopy
set_option linter.unusedVariables false
set_option linter.unusedSimpArgs false
namespace Go.Proofs.YtdjamdnjkdllgaaDoorW.PrintWords
open Go.RowKit Go.Proofs.YtdjamdnjkdllgaaDoorW.PrintLast Go.Proofs.YtdjamdnjkdllgaaDoorW.PrintMore Go.Proofs
/-- the builder at b, whose row is not at g. -/
def IsB (B b : Nat) (s : ByteArray) (w : World) : Prop := Lib.IsBuilder 66 5 B b (Lib.strCells s) w
theorem IsB.parts {B b : Nat} {s : ByteArray} {w : World} (h : IsB B b s w) : ∃ p v, (p = .pointer none ∨ p = .pointer (some ⟨b, 0, none⟩)) ∧ B ≤ b ∧ w.heap[b]? = some (.cells #[p, v] 66 (0, 0)) ∧ w.ownsRow B 5 1 v (Lib.strCells s).length (Lib.strCells s) ∧ v.ownBlock ≠ some b := by
  rcases h with ⟨h1, v, h2, h3, h4⟩ | ⟨h1, v, h2, h3, h4⟩
  · exact ⟨_, v, .inl rfl, h1, h2, h3, h4⟩
  · exact ⟨_, v, .inr rfl, h1, h2, h3, h4⟩
theorem IsB.mk {B b : Nat} {s : ByteArray} {w : World} {p v : Value} (hp : p = .pointer none ∨ p = .pointer (some ⟨b, 0, none⟩)) (h1 : B ≤ b) (h2 : w.heap[b]? = some (.cells #[p, v] 66 (0, 0))) (h3 : w.ownsRow B 5 1 v (Lib.strCells s).length (Lib.strCells s)) (h4 : v.ownBlock ≠ some b) : IsB B b s w := by
  rcases hp with rfl | rfl
  · exact .inl ⟨h1, v, h2, h3, h4⟩
  · exact .inr ⟨h1, v, h2, h3, h4⟩
theorem IsB.new {B b : Nat} {w : World} (hB : B ≤ b) (hb : w.heap[b]? = some (.cells #[.pointer none, .slice none 0 0] 66 (0, 0))) : IsB B b (⟨#[]⟩ : ByteArray) w :=
  .inl ⟨hB, _, hb, ⟨rfl, .inl ⟨rfl, rfl⟩⟩, by simp [Value.ownBlock]⟩
/-- the blocks that count are w's, and stay. -/
theorem IsB.step {B b : Nat} {s : ByteArray} {w w1 : World} (h : IsB B b s w) (hm : ∀ (k : Nat) (cs : Array Value) (t : TypeId), w.heap[k]? = some (.cells cs t (0, 0)) → (t = 66 ∨ t = 5) → w1.heap[k]? = w.heap[k]?) : IsB B b s w1 := by
  obtain ⟨p, v, hp, h1, h2, h3, h4⟩ := h.parts
  refine IsB.mk hp h1 ((hm b _ _ h2 (.inl rfl)).trans h2) ?_ h4
  obtain ⟨q1, q2⟩ := h3
  refine ⟨q1, ?_⟩
  rcases q2 with q2 | ⟨g, cap, cur, rfl, r1, r2, r3⟩
  · exact .inl q2
  · exact .inr ⟨g, cap, cur, rfl, r1, (hm g _ _ r2 (.inr rfl)).trans r2, r3⟩
theorem hl_ {w : World} {k : Nat} {o : Obj} (h : w.heap[k]? = some o) : k < w.heap.size := by
  rcases Nat.lt_or_ge k w.heap.size with q | q
  · exact q
  · rw [Array.getElem?_eq_none q] at h; cases h
theorem IsB.below {B b : Nat} {s : ByteArray} {w w1 : World} (h : IsB B b s w) (hb : Below w.heap.size w w1) : IsB B b s w1 := h.step fun k cs t hk _ => hb.block k (hl_ hk)
theorem IsB.drew {B b : Nat} {s : ByteArray} {w : World} (h : IsB B b s w) : IsB B b s w.drew := h.below (below_drew (Below.refl _ _))
theorem IsB.drewN {B b : Nat} {s : ByteArray} {w : World} (h : IsB B b s w) (m : Nat) : IsB B b s (w.drewN m) := h.below (pw_below_drewN (Below.refl _ _) m)
theorem IsB.alloc {B b : Nat} {s : ByteArray} {w : World} (h : IsB B b s w) (o : Obj) : IsB B b s (w.alloc o) := h.below (below_alloc (Below.refl _ _) o)
/-- a store into a block of another type. -/
theorem IsB.set {B b : Nat} {s : ByteArray} {w : World} (h : IsB B b s w) {g t : Nat} {cs : Array Value} (hg : w.heap[g]? = some (.cells cs t (0, 0))) (ht : t ≠ 66 ∧ t ≠ 5) (j : Nat) (u : Value) : IsB B b s (w.setCell ⟨g, j, none⟩ u) :=
  h.step fun k cs' t' hk ho => Below.heap_setCell _ _ _ _ (fun e => by
    obtain rfl : k = g := e
    rw [hg] at hk
    injection hk with hk
    injection hk with _ hk
    subst hk
    rcases ho with ho | ho
    · exact ht.1 ho
    · exact ht.2 ho)
theorem isb_set4 {B b : Nat} {s : ByteArray} {w : World} (h : IsB B b s w) {g t : Nat} {cs : Array Value} (hg : w.heap[g]? = some (.cells cs t (0, 0))) (ht : t ≠ 66 ∧ t ≠ 5) (u0 u1 u2 u3 : Value) :
    IsB B b s ((((w.setCell ⟨g, 0, none⟩ u0).setCell ⟨g, 1, none⟩ u1).setCell ⟨g, 2, none⟩ u2).setCell ⟨g, 3, none⟩ u3) :=
  h.step fun k cs' t' hk ho => by
    have e : k ≠ g := fun e => by
      subst e
      rw [hg] at hk
      injection hk with hk
      injection hk with _ hk
      subst hk
      rcases ho with ho | ho
      · exact ht.1 ho
      · exact ht.2 ho
    rw [Below.heap_setCell _ _ _ _ e, Below.heap_setCell _ _ _ _ e, Below.heap_setCell _ _ _ _ e, Below.heap_setCell _ _ _ _ e]
theorem sc_add (a b : ByteArray) : Lib.strCells (a ++ b) = Lib.strCells a ++ Lib.strCells b := by
  simp [Lib.strCells]
theorem info_b : (Tryd.prog.info? 5).map (fun i => (i.zero, i.size, i.bytes)) = some (some (.int .u8 0), 1, 1) := by kernel_rfl
theorem size_b : (Tryd.prog.info? 66).map (·.size) = some 2 := by kernel_rfl
theorem lies_b : liesAt Tryd.prog Tryd.prog.depth 66 (2 / Tryd.prog.cellsOf 66) 0 66 1 = true := by kernel_rfl
set_option maxHeartbeats 1000000 in
set_option maxRecDepth 100000 in
theorem check_used (b : Nat) (w : World) (h0 : w.cell? ⟨b, 0, none⟩ = some (.pointer (some ⟨b, 0, none⟩))) :
    Calls Tryd.prog 58 #[.pointer (some ⟨b, 0, none⟩)] w fun e w' => e = .returned (.tuple #[]) ∧ w' = w := by
  obtain ⟨j, hj, _⟩ := Option.map_eq_some_iff.1 size_b
  have u1 := run_underlying Tryd.underlying66
  have u2 := run_underlying Tryd.underlying64
  go_enter Tryd.func58, Tryd.ntmps58
  go_wp2
  rw [Lib.run_neq_ptr_same w _ Tryd.underlying64 hj]
  go_wp2
  go_end0
  exact ⟨rfl, rfl⟩
set_option maxHeartbeats 1000000 in
set_option maxRecDepth 100000 in
theorem check_fresh (b : Nat) (w : World) (h0 : w.cell? ⟨b, 0, none⟩ = some (.pointer none)) (hsh : w.shape? b = some (66, 2)) (hfz : w.frozen? ⟨b, 0, none⟩ = false) :
    Calls Tryd.prog 58 #[.pointer (some ⟨b, 0, none⟩)] w fun e w' => e = .returned (.tuple #[]) ∧ w' = w.setCell ⟨b, 0, none⟩ (.pointer (some ⟨b, 0, none⟩)) := by
  obtain ⟨j, hj, hjs⟩ := Option.map_eq_some_iff.1 size_b
  have u1 := run_underlying Tryd.underlying66
  have u2 := run_underlying Tryd.underlying64
  go_enter Tryd.func58, Tryd.ntmps58
  go_wp2
  rw [Lib.run_to_unsafe w ⟨b, 0, none⟩ Tryd.underlying64 Tryd.underlying85 hj (by rw [hjs]; decide) hsh (Nat.zero_lt_succ 1)]
  simp only [Result.andThen]
  rw [Oper.upon_value]
  go_wp2
  rw [run_callFunc_extern Tryd.func65 (by kernel_rfl) (by kernel_rfl) (by kernel_rfl) (e := Extern.AbiNoEscape.same) (by kernel_rfl)]
  rw [Lib.run_noEscape]
  simp only [Result.andThen]
  rw [Oper.upon_value]
  go_wp2
  rw [Lib.run_from_unsafe w ⟨b, 0, none⟩ Tryd.underlying85 Tryd.underlying64 hj hsh lies_b]
  simp only [Result.andThen]
  rw [Oper.upon_value]
  go_wp2
  go_end0
  exact ⟨rfl, rfl⟩
/-- what a builder's method leaves alone: every block but the builder and its row. -/
def Far (b : Nat) (v : Value) (w w' : World) : Prop := ∀ k, k < w.heap.size → k ≠ b → some k ≠ v.ownBlock → w'.heap[k]? = w.heap[k]?
set_option maxHeartbeats 4000000 in
set_option maxRecDepth 100000 in
theorem write_string (B b : Nat) (x s : ByteArray) (w : World) (h : IsB B b x w) (hlen : x.size + s.size ≤ 140737488355328) (hBw : B ≤ w.heap.size) :
    Calls Tryd.prog 47 #[.pointer (some ⟨b, 0, none⟩), .string s] w fun e w' => e = .returned (.tuple #[.int .i64 s.size, .nilIface]) ∧ IsB B b (x ++ s) w' ∧ Below B w w' ∧ (∀ (k : Nat) (cs : Array Value) (t : TypeId), w.heap[k]? = some (.cells cs t (0, 0)) → t ≠ 66 ∧ t ≠ 5 → w'.heap[k]? = w.heap[k]?) := by
  obtain ⟨p, v, hp, hB, hbk, hown, hne⟩ := h.parts
  obtain ⟨i0, hi, hz0, hz1, hz2⟩ := info_parts info_b
  have e240 : ∀ args w, (callFunc 58 args).run Tryd.prog w = .ok (.enter 58 args) w := enters_of Tryd.func58 (by kernel_rfl) rfl
  have u1 := run_underlying Tryd.underlying66
  have u2 := run_underlying Tryd.underlying64
  have hlt : b < w.heap.size := hl_ hbk
  have hcheck : Calls Tryd.prog 58 #[.pointer (some ⟨b, 0, none⟩)] w fun e w1 => e = .returned (.tuple #[]) ∧ w1.heap[b]? = some (.cells #[.pointer (some ⟨b, 0, none⟩), v] 66 (0, 0)) ∧ (∀ k, k ≠ b → w1.heap[k]? = w.heap[k]?) ∧ w1.heap.size = w.heap.size ∧ Below B w w1 := by
    rcases hp with rfl | rfl
    · refine (check_fresh b w (by rw [Lib.cell_of_heap hbk]; rfl) (by simp [World.shape?, hbk]) (Lib.frozen_of_heap hbk 0)).mono ?_
      rintro e w1 ⟨rfl, rfl⟩
      exact ⟨rfl, heap_setCell_same w b 0 _ _ _ hbk, fun k hk => Below.heap_setCell _ _ _ _ hk, by simp [World.setCell], (Below.refl B w).setCell (p := ⟨b, 0, none⟩) hB _⟩
    · refine (check_used b w (by rw [Lib.cell_of_heap hbk]; rfl)).mono ?_
      rintro e w1 ⟨rfl, rfl⟩
      exact ⟨rfl, hbk, fun _ _ => rfl, rfl, Below.refl B _⟩
  go_enter Tryd.func47, Tryd.ntmps47
  go_wp2_with (go_at_fn 58; refine hcheck.mono ?_)
  rintro e w1 ⟨rfl, hbk1, hkeep1, hsz1, hb1⟩
  have hown1 : w1.ownsRow B 5 1 v (Lib.strCells x).length (Lib.strCells x) := own_move hown (fun k hk => hkeep1 k (fun e => hne (by rw [hk, e])))
  have c0 : w1.cell? ⟨b, 0, none⟩ = some (.pointer (some ⟨b, 0, none⟩)) := by rw [Lib.cell_of_heap hbk1]; rfl
  have c1 : w1.cell? ⟨b, 1, none⟩ = some v := by rw [Lib.cell_of_heap hbk1]; rfl
  have hlen' : (Lib.strCells x).length + s.size ≤ 140737488355328 := by rw [Lib.strCells_length]; exact hlen
  go_wp2_with (at_builtin; refine Lib.wpList_append_own_string _ rfl _ _ 25 9 rfl B 5 i0 Tryd.underlying25 Tryd.underlying9 hi hz0 hz1 hz2 _ _ _ rfl hown1 s rfl ?c3 ?c4 ?c5 ?_)
  case c3 => unfold maxLen; omega
  case c4 => omega
  case c5 => have := hb1.size; omega
  intro v' w2 hown' hgrow _
  have hb2 : w2.heap[b]? = some (.cells #[.pointer (some ⟨b, 0, none⟩), v] 66 (0, 0)) := by
    rw [hgrow.block b (by omega) (fun e => hne e.symm)]
    exact hbk1
  have d0 : w2.cell? ⟨b, 0, none⟩ = some (.pointer (some ⟨b, 0, none⟩)) := by rw [Lib.cell_of_heap hb2]; rfl
  have d1 : w2.cell? ⟨b, 1, none⟩ = some v := by rw [Lib.cell_of_heap hb2]; rfl
  have f1 : w2.frozen? ⟨b, 1, none⟩ = false := Lib.frozen_of_heap hb2 1
  obtain ⟨ao, n', cap, rfl⟩ : ∃ ao n' cap, v' = .slice ao n' cap := by
    rcases hown'.2 with ⟨hv, _⟩ | ⟨g, cap, cur, hv, _⟩
    · exact ⟨_, _, _, hv⟩
    · exact ⟨_, _, _, hv⟩
  go_wp2
  go_ret2
  refine ⟨rfl, ?_, ?_, ?_⟩
  · have := Lib.BuilderAt.put (T := 66) (e := 5) hB hb2 (bs' := Lib.strCells x ++ Lib.strCells s) (by simpa [Lib.strCells_length] using hown') (by decide)
    refine Or.inr ?_
    rw [sc_add]
    exact this
  · exact (hb1.grown hgrow (by have := hb1.size; omega) (fun k hk => (hown1.lt k hk).1)).setCell (p := ⟨b, 1, none⟩) hB _
  · intro k cs t hk ht
    have kb : k ≠ b := fun e => by
      subst e
      rw [hbk] at hk
      injection hk with hk
      injection hk with _ hk
      exact ht.1 hk.symm
    have kv : some k ≠ v.ownBlock := fun e => by
      rcases hown.2 with ⟨rfl, _⟩ | ⟨g, cap', cur, rfl, _, hg, _⟩
      · simp [Value.ownBlock] at e
      · have : k = g := by simpa [Value.ownBlock] using e
        subst this
        rw [hg] at hk
        injection hk with hk
        injection hk with _ hk
        exact ht.2 hk.symm
    rw [Below.heap_setCell _ _ _ _ kb, hgrow.block k (by rw [hsz1]; exact hl_ hk) kv, hkeep1 k kb]
theorem read_string (B b : Nat) (x : ByteArray) (w : World) (h : IsB B b x w) (hBw : B ≤ w.heap.size) :
    Calls Tryd.prog 48 #[.pointer (some ⟨b, 0, none⟩)] w fun e w' => e = .returned (.string x) ∧ Below B w w' :=
  Tryd.Builder_String_any B b x.data.toList w h hBw
end Go.Proofs.YtdjamdnjkdllgaaDoorW.PrintWords
