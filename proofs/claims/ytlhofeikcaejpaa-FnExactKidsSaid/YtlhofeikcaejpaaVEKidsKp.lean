/- A row of whole numbers in the front of a block of the call's own, behind whose capacity more cells may lie: read, written, kept, as the rows that fill their blocks are. -/
import Derived.Test.YtlhofeikcaejpaaVEKidsWWords
import Derived.Test.YtlhofeikcaejpaaVEKidsWLast
import Derived.Test.YtlhofeikcaejpaaVEKidsWApart
import Derived.Test.YtlhofeikcaejpaaVEKidsWKept
import Derived.Test.YtlhofeikcaejpaaVEKidsWMore
set_option linter.unusedVariables false
set_option linter.unusedSimpArgs false
namespace Go.Proofs.YtlhofeikcaejpaaW.PrintWords
open Go.RowKit Go.Proofs.YtlhofeikcaejpaaW.PrintLast Go.Proofs.YtlhofeikcaejpaaW.PrintMore
namespace Kp
def R (d : Kd Int) (e : Nat) (w : World) (base : Nat) (ok : Nat → Prop) (v : Value) (xs : List Int) : Prop :=
  (v = .slice none 0 0 ∧ xs = []) ∨
  ∃ (g cap : Nat) (cur : Array Value), v = .slice (some ⟨g, 0, none⟩) xs.length cap ∧ ok g ∧ base ≤ g ∧ w.heap[g]? = some (.cells cur e (0, 0)) ∧ xs.length ≤ cap ∧ xs.length ≤ 9223372036854775807 ∧ xs.length ≤ cur.size ∧ ∀ j, j < xs.length → cur[j]? = some (.int .i64 (rdOf 0 xs (j : Int)))
section
variable {d : Kd Int} {e base : Nat} {ok ok' : Nat → Prop} {w w1 W W2 : World} {v u : Value} {xs : List Int} {S : Nat → Prop}
theorem R_mono (h : R d e w base ok v xs) (hok : ∀ k, ok k → ok' k) : R d e w base ok' v xs := by
  rcases h with h | ⟨g, cap, cur, h1, h2, h3⟩
  · exact .inl h
  · exact .inr ⟨g, cap, cur, h1, hok _ h2, h3⟩
theorem blk_lt_ {w : World} {g : Nat} {o : Obj} (h : w.heap[g]? = some o) : g < w.heap.size := by
  rcases Nat.lt_or_ge g w.heap.size with q | q
  · exact q
  · rw [Array.getElem?_eq_none q] at h; cases h
theorem R_step (h : R d e w base ok v xs) (hm : ∀ k, ok k → k < w.heap.size → w1.heap[k]? = w.heap[k]?) : R d e w1 base ok v xs := by
  rcases h with h | ⟨g, cap, cur, h1, h2, h3, h4, h5⟩
  · exact .inl h
  · exact .inr ⟨g, cap, cur, h1, h2, h3, (hm g h2 (blk_lt_ h4)).trans h4, h5⟩
theorem R_below (h : R d e w base ok v xs) (hb : Below w.heap.size w w1) : R d e w1 base ok v xs := R_step h (fun k _ hk => hb.block k hk)
theorem R_alloc (h : R d e w base ok v xs) (o : Obj) : R d e (w.alloc o) base ok v xs := R_below h (below_alloc (Below.refl _ _) o)
theorem R_drew (h : R d e w base ok v xs) : R d e w.drew base ok v xs := R_below h (below_drew (Below.refl _ _))
theorem R_drewN (h : R d e w base ok v xs) (m : Nat) : R d e (w.drewN m) base ok v xs := R_below h (pw_below_drewN (Below.refl _ _) m)
theorem R_slice (h : R d e w base ok v xs) : ∃ A c, v = .slice A xs.length c := by
  rcases h with ⟨h, rfl⟩ | ⟨g, cap, cur, h1, _⟩
  · exact ⟨_, _, h⟩
  · exact ⟨_, _, h1⟩
theorem R_facts (h : R d e w base ok v xs) : ∀ k, v.ownBlock = some k → ok k ∧ base ≤ k ∧ ∃ cur, w.heap[k]? = some (.cells cur e (0, 0)) := by
  rcases h with ⟨rfl, _⟩ | ⟨g, cap, cur, rfl, h2, h3, h4, _⟩
  · intro k hk; simp [Value.ownBlock] at hk
  · intro k hk
    have : g = k := by simpa [Value.ownBlock] using hk
    subst this
    exact ⟨h2, h3, cur, h4⟩
theorem R_base (h : R d e w base ok v xs) : ∀ k, v.ownBlock = some k → base ≤ k := fun k hk => (R_facts h k hk).2.1
theorem R_lt (h : R d e w base ok v xs) : ∀ k, v.ownBlock = some k → k < w.heap.size := fun k hk => by
  obtain ⟨_, _, cur, hc⟩ := R_facts h k hk
  exact blk_lt_ hc
theorem R_own (h : R d e w base ok v xs) : ∀ k, v.ownBlock = some k → ok k := fun k hk => (R_facts h k hk).1
theorem R_lower {base' : Nat} (h : R d e w base ok v xs) (hb : base' ≤ base) : R d e w base' ok v xs := by
  rcases h with h | ⟨g, cap, cur, h1, h2, h3, h4⟩
  · exact .inl h
  · exact .inr ⟨g, cap, cur, h1, h2, by omega, h4⟩
theorem R_tight (hE : d.E = []) (h : R d e w base ok v xs) : R d e w base (fun k => some k = v.ownBlock) v xs := by
  rcases h with h | ⟨g, cap, cur, rfl, h2, h3⟩
  · exact .inl h
  · exact .inr ⟨g, cap, cur, rfl, by simp [Value.ownBlock], h3⟩
theorem R_reok {ok1 : Nat → Prop} (hE : d.E = []) (h : R d e W base ok1 v xs) (hok : ∀ k, v.ownBlock = some k → ok k) : R d e W base ok v xs := R_mono (R_tight hE h) (fun k hk => hok k hk.symm)
theorem R_bound (h : R d e w base ok v xs) : R d e w base (fun k => ok k ∧ base ≤ k ∧ k < w.heap.size) v xs := by
  rcases h with h | ⟨g, cap, cur, h1, h2, h3, h4, h5⟩
  · exact .inl h
  · exact .inr ⟨g, cap, cur, h1, ⟨h2, h3, blk_lt_ h4⟩, h3, h4, h5⟩
theorem R_elder' (hu : R d e W base ok u xs) (hbase : ∀ k, v.ownBlock = some k → W.heap.size ≤ k) (hb : Below W.heap.size W w1) : R d e w1 base (fun k => ok k ∧ some k ≠ v.ownBlock) u xs :=
  R_mono (R_step (R_bound hu) (fun k _ hlt => hb.block k hlt)) (fun k hk => ⟨hk.1, fun he => by have := hbase k he.symm; have := hk.2.2; omega⟩)
theorem R_new' (h : R d e w1 W.heap.size ok v xs) (hlt : ∀ k, u.ownBlock = some k → k < W.heap.size) : R d e w1 W.heap.size (fun k => ok k ∧ some k ≠ u.ownBlock) v xs :=
  R_mono (R_bound h) (fun k hk => ⟨hk.1, fun he => by have := hlt k he.symm; have := hk.2.1; omega⟩)
theorem R_keptB (h : R d e W base ok v xs) (hk : Kept W W2 S) (hne : ∀ k, ok k → ¬ S k) : R d e W2 base (fun k => ok k ∧ (¬ S k ∧ k < W.heap.size)) v xs :=
  R_step (R_mono (R_bound h) (fun k q => ⟨q.1, hne k q.1, q.2.2⟩)) (fun k q hlt => hk.2 k hlt q.2.1)
theorem R_ne (h : R d e w base ok v xs) {g t : Nat} {cells : Array Value} (hb : w.heap[g]? = some (.cells cells t (0, 0))) (ht : e ≠ t) : some g ≠ v.ownBlock := fun q => by
  obtain ⟨_, _, cur, h4⟩ := R_facts h g q.symm
  rw [hb] at h4
  injection h4 with h4
  injection h4 with _ h4
  exact ht h4.symm
theorem R_at {g n cap : Nat} (h : R d e w base ok (.slice (some ⟨g, 0, none⟩) n cap) xs) : ∃ cur : Array Value, n = xs.length ∧ ok g ∧ base ≤ g ∧ w.heap[g]? = some (.cells cur e (0, 0)) ∧ xs.length ≤ cap ∧ xs.length ≤ 9223372036854775807 ∧ xs.length ≤ cur.size ∧ ∀ j, j < xs.length → cur[j]? = some (.int .i64 (rdOf 0 xs (j : Int))) := by
  rcases h with ⟨h, _⟩ | ⟨g', cap', cur, h1, h2, h3, h4, h5, h6⟩
  · injection h with h; cases h
  · injection h1 with hA hn hc
    injection hA with hA
    injection hA with hA
    subst hA hn hc
    exact ⟨cur, rfl, h2, h3, h4, h5, h6⟩
theorem R_reads' {A : Option Addr} {n c : Nat} (h : R (Kd.int .i64) e w base ok (.slice A n c) xs) : n = xs.length ∧ n ≤ c ∧ (Kd.int .i64).C w A xs.length xs := by
  rcases h with ⟨h, rfl⟩ | ⟨g, cap, cur, h1, h2, h3, h4, h5, h6, h7, h8⟩
  · injection h with hA hn hc
    subst hn hc
    exact ⟨rfl, Nat.le_refl _, rfl, by simp, fun hp => absurd hp (by simp)⟩
  injection h1 with hA hn hc
  subst hA hn hc
  refine ⟨rfl, h5, rfl, h6, fun hp => ⟨_, rfl, fun j p hj => ?_⟩⟩
  have hl : j < xs.length := (List.getElem?_eq_some_iff.1 hj).1
  have hx : rdOf 0 xs (j : Int) = p := by
    unfold rdOf
    rw [Int.toNat_natCast, List.getD_eq_getElem?_getD, hj]
    rfl
  refine ⟨[.int .i64 p], rfl, rfl, fun i q hq => ?_⟩
  have hi : i < 1 := by simpa using (List.getElem?_eq_some_iff.1 hq).1
  obtain rfl : i = 0 := by omega
  have : q = .int .i64 p := by simpa using hq.symm
  subst this
  have e0 : (Addr.add ⟨g, 0, none⟩ (j * Kd.sz (Kd.int .i64) + 0)) = ⟨g, j, none⟩ := by
    simp [Addr.add, Kd.int, Kd.scalar] <;> omega
  rw [e0, ← hx, ← h8 j hl]
  simp [World.cell?, h4]
theorem R_form (h : R d e w base ok v xs) (hp : 0 < xs.length) : ∃ g cap, v = .slice (some ⟨g, 0, none⟩) xs.length cap ∧ base ≤ g ∧ g < w.heap.size ∧ ∃ cells, w.heap[g]? = some (.cells cells e (0, 0)) := by
  rcases h with ⟨_, rfl⟩ | ⟨g, cap, cur, h1, h2, h3, h4, h5⟩
  · exact absurd hp (by simp)
  · exact ⟨g, cap, h1, h3, blk_lt_ h4, cur, h4⟩
theorem R_celln {g n cap : Nat} (z : Int) (h : R d e W base ok (.slice (some ⟨g, 0, none⟩) n cap) xs) (i : Int) (h0 : 0 ≤ i) (hi : i < n) : W.cell? ⟨g, i.toNat, none⟩ = some (.int .i64 (rdOf 0 xs i)) ∧ W.frozen? ⟨g, i.toNat, none⟩ = false := by
  obtain ⟨cur, rfl, h2, h3, h4, h5, h6, h7, h8⟩ := R_at h
  have := h8 i.toNat (by omega)
  rw [show ((i.toNat : Nat) : Int) = i by omega] at this
  refine ⟨?_, ?_⟩
  · rw [← this]; simp [World.cell?, h4]
  · simp [World.frozen?, h4]
theorem R_putg {g n cap : Nat} (h : R d e W base ok (.slice (some ⟨g, 0, none⟩) n cap) xs) (i : Int) (x : Int) : R d e (W.setCell ⟨g, i.toNat, none⟩ (.int .i64 x)) base ok (.slice (some ⟨g, 0, none⟩) n cap) (xs.set i.toNat x) ∧ W.grownBy (W.setCell ⟨g, i.toNat, none⟩ (.int .i64 x)) (some g) := by
  obtain ⟨cur, rfl, h2, h3, h4, h5, h6, h7, h8⟩ := R_at h
  have hs := heap_setCell_same W g i.toNat cur e (.int .i64 x) h4
  refine ⟨.inr ⟨g, cap, cur.setIfInBounds i.toNat (.int .i64 x), by rw [List.length_set], h2, h3, hs, by rw [List.length_set]; exact h5, by rw [List.length_set]; exact h6, by rw [List.length_set, Array.size_setIfInBounds]; exact h7, fun j hj => ?_⟩, ?_⟩
  · rw [List.length_set] at hj
    unfold rdOf
    rw [Int.toNat_natCast, Array.getElem?_setIfInBounds]
    by_cases q : i.toNat = j
    · subst q
      rw [if_pos rfl, if_pos (by omega), List.getD_eq_getElem?_getD, List.getElem?_set_self (by omega)]
      rfl
    · rw [if_neg q, List.getD_eq_getElem?_getD, List.getElem?_set_ne q, ← List.getD_eq_getElem?_getD]
      have := h8 j hj
      unfold rdOf at this
      rw [Int.toNat_natCast] at this
      exact this
  · exact ⟨rfl, rfl, rfl, by simp [World.setCell], fun k _ hk => Below.heap_setCell _ _ _ _ (fun e => hk (by simp [e]))⟩
/-- The front of a row of one's own, cut with a capacity. -/
theorem of_R {A : Option Addr} {n c cap m : Nat} {ys : List Int} (h : Kd.R (Kd.int .i64) e w base ok (.slice A n c) ys) (hp : 0 < ys.length) (hx : xs = ys.take m) (hc : xs.length ≤ cap) : R (Kd.int .i64) e w base ok (.slice A xs.length cap) xs := by
  obtain ⟨g, c', h1, h2, h3, cells, h4⟩ := Kd.R_form h hp
  injection h1 with hA hn hc'
  subst hA hn
  have hl : xs.length ≤ ys.length := by rw [hx, List.length_take]; omega
  have hsz : ys.length ≤ 9223372036854775807 := (Kd.R_reads' h).2.2.2.1
  have cell : ∀ j, j < ys.length → cells[j]? = some (.int .i64 (rdOf 0 ys (j : Int))) := fun j hj => by
    have := (Kd.R_celln 0 h (j : Int) (by omega) (by omega)).1
    rw [Int.toNat_natCast] at this
    have q : w.cell? ⟨g, j, none⟩ = cells[j]? := by simp [World.cell?, h4]
    rw [← q]; exact this
  refine .inr ⟨g, cap, cells, rfl, h.1 g (by simp [Value.ownBlock]), h2, h4, hc, by omega, ?_, fun j hj => ?_⟩
  · have := cell (ys.length - 1) (by omega)
    have := (Array.getElem?_eq_some_iff.1 this).1
    omega
  · rw [cell j (by omega)]
    congr 2
    unfold rdOf
    rw [hx, Int.toNat_natCast, List.getD_eq_getElem?_getD, List.getD_eq_getElem?_getD, List.getElem?_take_of_lt]
    rw [hx, List.length_take] at hj
    omega
/-- A row of one's own is one. -/
theorem of_own (h : Kd.R (Kd.int .i64) e w base ok v xs) : R (Kd.int .i64) e w base ok v xs := by
  obtain ⟨A, c, hv⟩ := Kd.R_slice h
  subst hv
  by_cases hp : 0 < xs.length
  · exact of_R h hp (List.take_of_length_le (Nat.le_refl _)).symm (Kd.R_reads' h).2.1
  · have e0 : xs = [] := List.eq_nil_of_length_eq_zero (by omega)
    subst e0
    obtain ⟨inner, h1, h2⟩ := Kd.R_own h
    rcases h2 with ⟨h2, _⟩ | ⟨g, cap, cur, h2, h3, h4, h5, h6, h7, h8⟩
    · exact .inl ⟨h2, rfl⟩
    · have h0 := h.1 g (by rw [h2]; simp [Value.ownBlock])
      exact .inr ⟨g, cap, cur, h2, h0, h3, h4, by simp, by simp, by simp, fun j hj => absurd hj (by simp)⟩
end
end Kp
end Go.Proofs.YtlhofeikcaejpaaW.PrintWords
