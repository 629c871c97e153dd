/- The library's table of powers of ten, read as it was laid: kept by whatever writes nothing below; handed over by a row that lists it. -/
import Derived.Test.YtlhofeikcaejpaaDoorVFnValuesWWords
import Derived.Test.YtlhofeikcaejpaaDoorRows
import Derived.Test.YtlhofeikcaejpaaDoorProg
import Derived.Lib.SmallJoins
import Derived.Lib.LaidTab
import Derived.Lib.ItoaNum
import Derived.LaidMore
import Derived.SevenTiedAt
import Derived.Stop.LaidErr
set_option linter.unusedVariables false
namespace Go.Proofs.YtlhofeikcaejpaaDoorW.PrintWords
open Go.RowKit Go.Proofs.YtlhofeikcaejpaaDoor
theorem pow_named : Tryd.prog.globalNamed "internal/strconv.uint64pow10" = some 0 := by kernel_rfl
def PW (w : World) : Prop := Lib.TabIs Tryd.prog w "internal/strconv.uint64pow10" .u64 Lib.pow10Tab
theorem PW.tab {w : World} (h : PW w) : Lib.TabIs Tryd.prog w "internal/strconv.uint64pow10" .u64 Lib.pow10Tab := h
theorem PW.below {w W : World} (h : PW w) (hb : Below w.heap.size w W) : PW W := Go.Joins.tab_stays pow_named h hb (Nat.le_refl _)
theorem PW.of_laidFnExactShowVal {w : World} (hL : laidMetH Tryd.prog Rows.fnExactShowValRow.laid w) : PW w := by
  rw [MakeChecks.laidMetH_plain _ _ _ (by kernel_rfl)] at hL
  have hT := laidMet.tail (laidMet.tail (hL))
  skip
  exact Lib.tabIs_of_head (t := 149) (e := 143) (n := 20) pow_named (by kernel_rfl) (by kernel_rfl) (by kernel_rfl) (by kernel_rfl) (by kernel_rfl) hT
theorem PW.of_laidFnExactShowType {w : World} (hL : laidMetH Tryd.prog Rows.fnExactShowTypeRow.laid w) : PW w := by
  rw [MakeChecks.laidMetH_plain _ _ _ (by kernel_rfl)] at hL
  have hT := laidMet.tail (laidMet.tail (hL))
  skip
  exact Lib.tabIs_of_head (t := 149) (e := 143) (n := 20) pow_named (by kernel_rfl) (by kernel_rfl) (by kernel_rfl) (by kernel_rfl) (by kernel_rfl) hT
theorem PW.of_laidFnExactUnified {w : World} (hL : laidMetH Tryd.prog Rows.fnExactUnifiedRow.laid w) : PW w := by
  rw [MakeChecks.laidMetH_plain _ _ _ (by kernel_rfl)] at hL
  have hT := laidMet.tail (laidMet.tail (hL))
  skip
  exact Lib.tabIs_of_head (t := 149) (e := 143) (n := 20) pow_named (by kernel_rfl) (by kernel_rfl) (by kernel_rfl) (by kernel_rfl) (by kernel_rfl) hT
theorem PW.of_laidFnValues {w : World} (hL : laidMetH Tryd.prog Rows.fnValuesRow.laid w) : PW w := by
  rw [MakeChecks.laidMetH_plain _ _ _ (by kernel_rfl)] at hL
  have hT := laidMet.tail (laidMet.tail (hL))
  skip
  exact Lib.tabIs_of_head (t := 149) (e := 143) (n := 20) pow_named (by kernel_rfl) (by kernel_rfl) (by kernel_rfl) (by kernel_rfl) (by kernel_rfl) hT
theorem PW.of_laidFnSizes {w : World} (hL : laidMetH Tryd.prog Rows.fnSizesRow.laid w) : PW w := by
  rw [MakeChecks.laidMetH_plain _ _ _ (by kernel_rfl)] at hL
  have hT := laidMet.tail (laidMet.tail (hL))
  skip
  exact Lib.tabIs_of_head (t := 149) (e := 143) (n := 20) pow_named (by kernel_rfl) (by kernel_rfl) (by kernel_rfl) (by kernel_rfl) (by kernel_rfl) hT
theorem PW.of_laidFnUnified {w : World} (hL : laidMetH Tryd.prog Rows.fnUnifiedRow.laid w) : PW w := by
  rw [MakeChecks.laidMetH_plain _ _ _ (by kernel_rfl)] at hL
  have hT := laidMet.tail (laidMet.tail (hL))
  skip
  exact Lib.tabIs_of_head (t := 149) (e := 143) (n := 20) pow_named (by kernel_rfl) (by kernel_rfl) (by kernel_rfl) (by kernel_rfl) (by kernel_rfl) hT
end Go.Proofs.YtlhofeikcaejpaaDoorW.PrintWords
