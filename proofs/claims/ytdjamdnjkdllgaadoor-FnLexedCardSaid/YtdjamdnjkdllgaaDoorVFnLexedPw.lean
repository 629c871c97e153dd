/- The library's table of powers of ten, read as it was laid: kept by whatever writes nothing below; handed over by a row that lists it. -/
import Derived.Test.YtdjamdnjkdllgaaDoorVFnLexedWWords
import Derived.Test.YtdjamdnjkdllgaaDoorRows
import Derived.Test.YtdjamdnjkdllgaaDoorProg
import Derived.Lib.SmallJoins
import Derived.Lib.LaidTab
import Derived.Lib.ItoaNum
import Derived.LaidMore
import Derived.SevenTiedAt
import Derived.Stop.LaidErr
set_option linter.unusedVariables false
namespace Go.Proofs.YtdjamdnjkdllgaaDoorW.PrintWords
open Go.RowKit Go.Proofs.YtdjamdnjkdllgaaDoor
theorem pow_named : Tryd.prog.globalNamed "internal/strconv.uint64pow10" = some 2 := by kernel_rfl
def PW (w : World) : Prop := Lib.TabIs Tryd.prog w "internal/strconv.uint64pow10" .u64 Lib.pow10Tab ∧ (∃ (tp : TypeId) (p : Value), w.var? Tryd.prog "strconv.ErrSyntax" = some #[.iface tp p]) ∧ (∃ (tp : TypeId) (p : Value), w.var? Tryd.prog "strconv.ErrRange" = some #[.iface tp p])
theorem PW.tab {w : World} (h : PW w) : Lib.TabIs Tryd.prog w "internal/strconv.uint64pow10" .u64 Lib.pow10Tab := h.1
theorem named_ErrSyntax : Tryd.prog.globalNamed "strconv.ErrSyntax" = some 0 := by kernel_rfl
theorem named_ErrRange : Tryd.prog.globalNamed "strconv.ErrRange" = some 1 := by kernel_rfl
theorem type_ErrSyntax : (Tryd.prog.globals[0]?).map (·.type) = some 46 := by kernel_rfl
theorem type_ErrRange : (Tryd.prog.globals[1]?).map (·.type) = some 46 := by kernel_rfl
theorem cells_es : Tryd.prog.cellsOf 101 = 1 := by kernel_rfl
theorem cells_str : Tryd.prog.cellsOf 9 = 1 := by kernel_rfl
theorem star_es : "*" ++ "errors.errorString" = "*errors.errorString" := by decide
theorem row_es (u : TypeId) (h : Tryd.prog.typeName? 3 u = some "*errors.errorString") : u = 99 := typeName_ptr_named (nm := "errors.errorString") (by rw [star_es]; kernel_rfl) (by kernel_rfl) (by decide) u (by rw [star_es]; exact h)
theorem PW.below {w W : World} (h : PW w) (hb : Below w.heap.size w W) : PW W := by
  obtain ⟨h1, ⟨a, b, h2⟩, ⟨c, d, h3⟩⟩ := h
  exact ⟨Go.Joins.tab_stays pow_named h1 hb (Nat.le_refl _), ⟨a, b, Go.Joins.var_stays named_ErrSyntax h2 hb (Nat.le_refl _)⟩, ⟨c, d, Go.Joins.var_stays named_ErrRange h3 hb (Nat.le_refl _)⟩⟩
theorem PW.of_laidFnExactReadDec {w : World} (hL : laidMetH Tryd.prog Rows.fnExactReadDecRow.laid w) : PW w := by
  rw [MakeChecks.laidMetH_plain _ _ _ (by kernel_rfl)] at hL
  have hT := laidMet.tail (laidMet.tail (hL))
  obtain ⟨aErrSyntax, sErrSyntax, hvErrSyntax, -, -, -⟩ := laid_sentinel (n := "strconv.ErrSyntax") (nm := "*errors.errorString") (text := [105, 110, 118, 97, 108, 105, 100, 32, 115, 121, 110, 116, 97, 120]) (laidMet.tail (laidMet.tail (laidMet.tail (laidMet.tail (hL))))) named_ErrSyntax type_ErrSyntax Tryd.underlying46 row_es Tryd.underlying99 Tryd.underlying101 rfl rfl Tryd.underlying9 cells_es cells_str
  obtain ⟨aErrRange, sErrRange, hvErrRange, -, -, -⟩ := laid_sentinel (n := "strconv.ErrRange") (nm := "*errors.errorString") (text := [118, 97, 108, 117, 101, 32, 111, 117, 116, 32, 111, 102, 32, 114, 97, 110, 103, 101]) (laidMet.tail (laidMet.tail (laidMet.tail (hL)))) named_ErrRange type_ErrRange Tryd.underlying46 row_es Tryd.underlying99 Tryd.underlying101 rfl rfl Tryd.underlying9 cells_es cells_str
  refine ⟨?_, ⟨_, _, hvErrSyntax⟩, ⟨_, _, hvErrRange⟩⟩
  exact Lib.tabIs_of_head (t := 104) (e := 87) (n := 20) pow_named (by kernel_rfl) (by kernel_rfl) (by kernel_rfl) (by kernel_rfl) (by kernel_rfl) hT
theorem PW.of_laidFnNumbers {w : World} (hL : laidMetH Tryd.prog Rows.fnNumbersRow.laid w) : PW w := by
  rw [MakeChecks.laidMetH_plain _ _ _ (by kernel_rfl)] at hL
  have hT := laidMet.tail (laidMet.tail (hL))
  obtain ⟨aErrSyntax, sErrSyntax, hvErrSyntax, -, -, -⟩ := laid_sentinel (n := "strconv.ErrSyntax") (nm := "*errors.errorString") (text := [105, 110, 118, 97, 108, 105, 100, 32, 115, 121, 110, 116, 97, 120]) (laidMet.tail (laidMet.tail (laidMet.tail (laidMet.tail (hL))))) named_ErrSyntax type_ErrSyntax Tryd.underlying46 row_es Tryd.underlying99 Tryd.underlying101 rfl rfl Tryd.underlying9 cells_es cells_str
  obtain ⟨aErrRange, sErrRange, hvErrRange, -, -, -⟩ := laid_sentinel (n := "strconv.ErrRange") (nm := "*errors.errorString") (text := [118, 97, 108, 117, 101, 32, 111, 117, 116, 32, 111, 102, 32, 114, 97, 110, 103, 101]) (laidMet.tail (laidMet.tail (laidMet.tail (hL)))) named_ErrRange type_ErrRange Tryd.underlying46 row_es Tryd.underlying99 Tryd.underlying101 rfl rfl Tryd.underlying9 cells_es cells_str
  refine ⟨?_, ⟨_, _, hvErrSyntax⟩, ⟨_, _, hvErrRange⟩⟩
  exact Lib.tabIs_of_head (t := 104) (e := 87) (n := 20) pow_named (by kernel_rfl) (by kernel_rfl) (by kernel_rfl) (by kernel_rfl) (by kernel_rfl) hT
theorem PW.of_laidFnExactLex {w : World} (hL : laidMetH Tryd.prog Rows.fnExactLexRow.laid w) : PW w := by
  rw [MakeChecks.laidMetH_plain _ _ _ (by kernel_rfl)] at hL
  have hT := laidMet.tail (laidMet.tail (hL))
  obtain ⟨aErrSyntax, sErrSyntax, hvErrSyntax, -, -, -⟩ := laid_sentinel (n := "strconv.ErrSyntax") (nm := "*errors.errorString") (text := [105, 110, 118, 97, 108, 105, 100, 32, 115, 121, 110, 116, 97, 120]) (laidMet.tail (laidMet.tail (laidMet.tail (laidMet.tail (hL))))) named_ErrSyntax type_ErrSyntax Tryd.underlying46 row_es Tryd.underlying99 Tryd.underlying101 rfl rfl Tryd.underlying9 cells_es cells_str
  obtain ⟨aErrRange, sErrRange, hvErrRange, -, -, -⟩ := laid_sentinel (n := "strconv.ErrRange") (nm := "*errors.errorString") (text := [118, 97, 108, 117, 101, 32, 111, 117, 116, 32, 111, 102, 32, 114, 97, 110, 103, 101]) (laidMet.tail (laidMet.tail (laidMet.tail (hL)))) named_ErrRange type_ErrRange Tryd.underlying46 row_es Tryd.underlying99 Tryd.underlying101 rfl rfl Tryd.underlying9 cells_es cells_str
  refine ⟨?_, ⟨_, _, hvErrSyntax⟩, ⟨_, _, hvErrRange⟩⟩
  exact Lib.tabIs_of_head (t := 104) (e := 87) (n := 20) pow_named (by kernel_rfl) (by kernel_rfl) (by kernel_rfl) (by kernel_rfl) (by kernel_rfl) hT
theorem PW.of_laidFnLexed {w : World} (hL : laidMetH Tryd.prog Rows.fnLexedRow.laid w) : PW w := by
  rw [MakeChecks.laidMetH_plain _ _ _ (by kernel_rfl)] at hL
  have hT := laidMet.tail (laidMet.tail (hL))
  obtain ⟨aErrSyntax, sErrSyntax, hvErrSyntax, -, -, -⟩ := laid_sentinel (n := "strconv.ErrSyntax") (nm := "*errors.errorString") (text := [105, 110, 118, 97, 108, 105, 100, 32, 115, 121, 110, 116, 97, 120]) (laidMet.tail (laidMet.tail (laidMet.tail (laidMet.tail (hL))))) named_ErrSyntax type_ErrSyntax Tryd.underlying46 row_es Tryd.underlying99 Tryd.underlying101 rfl rfl Tryd.underlying9 cells_es cells_str
  obtain ⟨aErrRange, sErrRange, hvErrRange, -, -, -⟩ := laid_sentinel (n := "strconv.ErrRange") (nm := "*errors.errorString") (text := [118, 97, 108, 117, 101, 32, 111, 117, 116, 32, 111, 102, 32, 114, 97, 110, 103, 101]) (laidMet.tail (laidMet.tail (laidMet.tail (hL)))) named_ErrRange type_ErrRange Tryd.underlying46 row_es Tryd.underlying99 Tryd.underlying101 rfl rfl Tryd.underlying9 cells_es cells_str
  refine ⟨?_, ⟨_, _, hvErrSyntax⟩, ⟨_, _, hvErrRange⟩⟩
  exact Lib.tabIs_of_head (t := 104) (e := 87) (n := 20) pow_named (by kernel_rfl) (by kernel_rfl) (by kernel_rfl) (by kernel_rfl) (by kernel_rfl) hT
end Go.Proofs.YtdjamdnjkdllgaaDoorW.PrintWords
