/- The library's table of powers of ten, read as it was laid: kept by whatever writes nothing below; handed over by a row that lists it. -/
import Derived.Test.YtmilegjmiiccdaaDoorVEPrintPartWWords
import Derived.Test.YtmilegjmiiccdaaDoorRows
import Derived.Test.YtmilegjmiiccdaaDoorProg
import Derived.Lib.SmallJoins
import Derived.Lib.LaidTab
import Derived.Lib.ItoaNum
import Derived.LaidMore
import Derived.SevenTiedAt
import Derived.Stop.LaidErr
set_option linter.unusedVariables false
namespace Go.Proofs.YtmilegjmiiccdaaDoorW.PrintWords
open Go.RowKit Go.Proofs.YtmilegjmiiccdaaDoor
theorem pow_named : Tryd.prog.globalNamed "internal/strconv.uint64pow10" = some 1 := by kernel_rfl
def PW (w : World) : Prop := Lib.TabIs Tryd.prog w "internal/strconv.uint64pow10" .u64 Lib.pow10Tab
theorem PW.below {w W : World} (h : PW w) (hb : Below w.heap.size w W) : PW W := Go.Joins.tab_stays pow_named h hb (Nat.le_refl _)
theorem PW.of_laidFnExactPrint {w : World} (hL : laidMetH Tryd.prog Rows.fnExactPrintRow.laid w) : PW w := by
  rw [MakeChecks.laidMetH_plain _ _ _ (by kernel_rfl)] at hL
  have hT := laidMet.tail (laidMet.tail (hL))
  exact Lib.tabIs_of_head (t := 131) (e := 113) (n := 20) pow_named (by kernel_rfl) (by kernel_rfl) (by kernel_rfl) (by kernel_rfl) (by kernel_rfl) hT
theorem PW.of_laidFnExactPrintPart {w : World} (hL : laidMetH Tryd.prog Rows.fnExactPrintPartRow.laid w) : PW w := by
  rw [MakeChecks.laidMetH_plain _ _ _ (by kernel_rfl)] at hL
  have hT := laidMet.tail (laidMet.tail (hL))
  exact Lib.tabIs_of_head (t := 131) (e := 113) (n := 20) pow_named (by kernel_rfl) (by kernel_rfl) (by kernel_rfl) (by kernel_rfl) (by kernel_rfl) hT
end Go.Proofs.YtmilegjmiiccdaaDoorW.PrintWords
