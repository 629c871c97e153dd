/- Two small laws beside the print's words: new blocks leave what lies below; where a row of texts lies. -/
import Derived.Test.YtlhofeikcaejpaaDoorVFnValuesWWords
import Derived.Sort.Grow
set_option linter.unusedVariables false
set_option linter.unusedSimpArgs false
namespace Go.Proofs.YtlhofeikcaejpaaDoorW.PrintWords
open Go.RowKit Go.Sort
theorem below_grow (w : World) (n : Nat) (os : Array Obj) : Below w.heap.size w (grow (w.drewN n) os) := by
  refine ⟨rfl, rfl, rfl, by simp [grow, World.drewN], fun k hk => ?_⟩
  show (w.heap ++ os)[k]? = w.heap[k]?
  rw [Array.getElem?_append_left hk]
theorem row_at {w : World} {A : Option Addr} {l : List ByteArray} (h : Kd.C Kd.string w A l.length l) (hz : 0 < l.length) :
    ∃ bk o, A = some ⟨bk, o, none⟩ ∧ (∀ (j : Nat) x, l[j]? = some x → w.cell? ⟨bk, o + j, none⟩ = some (.string x)) ∧ bk < w.heap.size := by
  obtain ⟨ad, e, hc⟩ := h.2.2 hz
  have cell : ∀ (j : Nat) x, l[j]? = some x → w.cell? (ad.add j) = some (.string x) := by
    intro j x hx
    obtain ⟨c, h1, h2, h3⟩ := hc j x hx
    have h2' : c = [Value.string x] := h2
    subst h2'
    have := h3 0 _ rfl
    simpa [show Kd.string.sz = 1 from rfl] using this
  obtain ⟨bk, o, sp⟩ := ad
  have c0 := cell 0 l[0] (List.getElem?_eq_getElem hz)
  have hs : sp = none := by
    cases sp with
    | none => rfl
    | some s =>
      exfalso
      simp only [Addr.add, World.cell?] at c0
      split at c0
      · simp at c0
      · cases c0
  subst hs
  exact ⟨bk, o, e, fun j x hx => by
    have := cell j x hx
    by_cases hj : j = 0
    · subst hj
      simpa [Addr.add] using this
    · simpa [Addr.add, hj] using this, World.block_lt_of_cell? w _ c0⟩
end Go.Proofs.YtlhofeikcaejpaaDoorW.PrintWords
