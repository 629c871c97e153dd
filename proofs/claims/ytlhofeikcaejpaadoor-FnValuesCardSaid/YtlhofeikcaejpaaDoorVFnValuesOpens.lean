/- An argument that can be read as data is opened as a value of a printed kind: numbers, bools, strings, slices, structs of these, in whatever depth. Nothing is asked but that the types' cells lie one behind another. -/
import Derived.Deep.Slices
import Derived.Deep.Fields
import Derived.ChangeArms
import Derived.Test.YtlhofeikcaejpaaDoorVFnValuesWWords
set_option linter.unusedVariables false
namespace Go.Proofs.YtlhofeikcaejpaaDoorW.Opens
open Go.RowKit Go.Proofs.YtlhofeikcaejpaaDoorW.PrintWords Go.ChangeShapes Go.WideShapes Go.Deep

/-- Whatever is read as a value of the type t is of the kind d, and fine. -/
def Opens {α : Type} (P : Program) (t : TypeId) (d : Kd α) (good : α → Prop) : Prop :=
  P.cellsOf t = d.sz ∧ ∀ (H : Type) (enc : TypeId × Value → H) (w : World) (base : Nat) (spare : Nat → Bool) (held : Bool) (fuel : Nat) (cs : List Value) (x : DataW H × List MemPlace),
    DataW.trod enc P w base spare held fuel t cs = some x → ∃ a, d.K w a cs ∧ good a

theorem opens_int {P : Program} {t : TypeId} {k : IntKind} (ht : P.underlying t = some (.int k)) (hc : P.cellsOf t = 1) : Opens P t (Kd.int k) (fun a => (Lit.int k a).wf = true) :=
  ⟨hc, fun H enc w base spare held fuel cs x h => by
    obtain ⟨n, rfl, _, hw⟩ := DataW.trod_int ht h
    exact ⟨n, rfl, hw⟩⟩
theorem opens_bool {P : Program} {t : TypeId} (ht : P.underlying t = some .bool) (hc : P.cellsOf t = 1) : Opens P t Kd.bool (fun _ => True) :=
  ⟨hc, fun H enc w base spare held fuel cs x h => by
    obtain ⟨n, rfl, _⟩ := DataW.trod_bool ht h
    exact ⟨n, rfl, trivial⟩⟩
theorem opens_string {P : Program} {t : TypeId} (ht : P.underlying t = some .string) (hc : P.cellsOf t = 1) : Opens P t Kd.string (fun s => s.size ≤ 9223372036854775807) :=
  ⟨hc, fun H enc w base spare held fuel cs x h => by
    obtain ⟨s, rfl, _, hs⟩ := DataW.trod_string ht h
    refine ⟨s, rfl, ?_⟩
    unfold maxLen at hs
    omega⟩

theorem choose_list {α : Type} {n : Nat} {p : Nat → α → Prop} (h : ∀ i, i < n → ∃ x, p i x) : ∃ l : List α, l.length = n ∧ ∀ (i : Nat) (x : α), l[i]? = some x → p i x := by
  induction n with
  | zero => exact ⟨[], rfl, fun i x h => by simp at h⟩
  | succ n ih =>
    obtain ⟨l, hl, hp⟩ := ih fun i hi => h i (by omega)
    obtain ⟨x, hx⟩ := h n (by omega)
    refine ⟨l ++ [x], by simp [hl], fun i y hy => ?_⟩
    rcases Nat.lt_trichotomy i n with hlt | rfl | hgt
    · rw [List.getElem?_append_left (by omega)] at hy
      exact hp i y hy
    · rw [List.getElem?_append_right (by omega), hl, Nat.sub_self] at hy
      obtain rfl : x = y := by simpa using hy
      exact hx
    · rw [List.getElem?_eq_none (by simp; omega)] at hy
      cases hy

theorem opens_slice {α : Type} {P : Program} {t e : TypeId} {d : Kd α} {good : α → Prop} (ht : P.underlying t = some (.slice e)) (hc : P.cellsOf t = 1) (he : Opens P e d good) :
    Opens P t (Kd.slice e d) (fun xs => xs.length ≤ 9223372036854775807 ∧ ∀ x ∈ xs, good x) :=
  ⟨hc, fun H enc w base spare held fuel cs x h => by
    rcases open_slice ht h with ⟨rfl, _⟩ | ⟨a, len, cap, m, n, D, Pl, rfl, hb, hl, hm, hmm, _, hi⟩
    · exact ⟨[], ⟨none, 0, rfl, Nat.le_refl _, rfl, by simp, fun h => absurd h (by simp)⟩, by simp, fun x hx => by cases hx⟩
    · have hlm : len ≤ m := by rw [hmm]; split <;> omega
      have key : ∀ i, i < len → ∃ y : α, good y ∧ ∃ c : List Value, c.length = d.sz ∧ d.K w y c ∧ ∀ j u, c[j]? = some u → w.cell? (a.add (i * d.sz + j)) = some u := by
        intro i hlt
        obtain ⟨cs', hcell, htr⟩ := hi i (by omega)
        obtain ⟨y, hK, hg⟩ := he.2 H enc w base spare held n cs' _ htr
        rw [he.1] at hcell
        obtain ⟨_, hlen, hat⟩ := World.cells?_some hcell
        refine ⟨y, hg, cs', hlen, hK, fun j u hu => ?_⟩
        have hj : j < d.sz := by rw [← hlen]; exact (List.getElem?_eq_some_iff.1 hu).1
        have := hat j hj
        rw [hu] at this
        rw [← Go.Deep.add_add]
        exact this
      obtain ⟨l, hll, hp⟩ := choose_list key
      unfold maxLen at hm
      subst hll
      refine ⟨l, ⟨some a, cap, rfl, hl, rfl, by omega, fun _ => ⟨a, rfl, fun j p hj => ?_⟩⟩, by omega, fun y hy => ?_⟩
      · obtain ⟨_, c, h1, h2, h3⟩ := hp j p hj
        exact ⟨c, h1, h2, h3⟩
      · obtain ⟨i, hi'⟩ := List.getElem?_of_mem hy
        exact (hp i y hi').1⟩

/-- The fields from an offset on, one behind another. -/
def OpensFs {α : Type} (P : Program) (fs : List Field) (off : Nat) (d : Kd α) (good : α → Prop) : Prop :=
  ∀ (H : Type) (enc : TypeId × Value → H) (w : World) (base : Nat) (spare : Nat → Bool) (held : Bool) (fuel : Nat) (cs : List Value), cs.length = d.sz →
    (∀ (i : Nat) (f : Field), fs[i]? = some f → ∃ y, DataW.trod enc P w base spare held fuel f.type ((cs.drop (f.offset - off)).take (P.cellsOf f.type)) = some y) → ∃ a, d.K w a cs ∧ good a

theorem opensFs_last {α : Type} {P : Program} {f : Field} {off : Nat} {d : Kd α} {good : α → Prop} (ho : f.offset = off) (h : Opens P f.type d good) : OpensFs P [f] off d good := by
  intro H enc w base spare held fuel cs hl hf
  obtain ⟨y, hy⟩ := hf 0 f rfl
  rw [ho, Nat.sub_self, List.drop_zero, h.1, ← hl, List.take_length] at hy
  exact h.2 H enc w base spare held fuel cs y hy
theorem opensFs_cons {α β : Type} {P : Program} {f : Field} {fs : List Field} {off : Nat} {d : Kd α} {d' : Kd β} {good : α → Prop} {good' : β → Prop} (ho : f.offset = off) (h : Opens P f.type d good)
    (hle : fs.all (fun g => decide (off + d.sz ≤ g.offset)) = true) (h' : OpensFs P fs (off + d.sz) d' good') : OpensFs P (f :: fs) off (Kd.pair d d') (fun x => good x.1 ∧ good' x.2) := by
  intro H enc w base spare held fuel cs hl hf
  obtain ⟨y, hy⟩ := hf 0 f rfl
  have hl' : cs.length = d.sz + d'.sz := hl
  rw [ho, Nat.sub_self, List.drop_zero, h.1] at hy
  obtain ⟨a, ha, ga⟩ := h.2 H enc w base spare held fuel _ y hy
  obtain ⟨b, hb, gb⟩ := h' H enc w base spare held fuel (cs.drop d.sz) (by rw [List.length_drop]; omega) (by
    intro i g hg
    obtain ⟨z, hz⟩ := hf (i + 1) g (by simpa using hg)
    have hlg := List.all_eq_true.1 hle g (List.mem_of_getElem? hg)
    have hlg' : off + d.sz ≤ g.offset := of_decide_eq_true hlg
    refine ⟨z, ?_⟩
    rw [List.drop_drop, show d.sz + (g.offset - (off + d.sz)) = g.offset - off by omega]
    exact hz)
  exact ⟨(a, b), ⟨cs.take d.sz, cs.drop d.sz, (List.take_append_drop _ _).symm, ha, hb⟩, ga, gb⟩
theorem opens_struct {α β : Type} {P : Program} {t : TypeId} {fs : Array Field} {d : Kd α} {good : α → Prop} (f : β → α) (back : α → β) (hfb : ∀ a, f (back a) = a) (ht : P.underlying t = some (.struct fs)) (hc : P.cellsOf t = d.sz)
    (h : OpensFs P fs.toList 0 d good) : Opens P t (Kd.iso d f) (fun b => good (f b)) :=
  ⟨hc, fun H enc w base spare held fuel cs x hx => by
    obtain ⟨xs, n, _, _, hl, hxl, hf⟩ := DataW.trod_struct ht hx
    obtain ⟨a, ha, ga⟩ := h H enc w base spare held n cs (by rw [hl, hc]) (by
      intro i g hg
      have hg' : fs[i]? = some g := by rw [← Array.getElem?_toList]; exact hg
      have hlt : i < fs.size := (Array.getElem?_eq_some_iff.1 hg').1
      refine ⟨xs[i]'(by omega), ?_⟩
      rw [Nat.sub_zero, hf i g hg', List.getElem?_eq_getElem (by omega)])
    refine ⟨back a, ?_, ?_⟩
    · show d.K w (f (back a)) cs
      rw [hfb]
      exact ha
    · show good (f (back a))
      rw [hfb]
      exact ga⟩
theorem opens_mono {α : Type} {P : Program} {t : TypeId} {d : Kd α} {good good' : α → Prop} (h : Opens P t d good) (hg : ∀ a, good a → good' a) : Opens P t d good' :=
  ⟨h.1, fun H enc w base spare held fuel cs x hx => by
    obtain ⟨a, ha, g⟩ := h.2 H enc w base spare held fuel cs x hx
    exact ⟨a, ha, hg a g⟩⟩
end Go.Proofs.YtlhofeikcaejpaaDoorW.Opens
