/- PFnExactRenameOnex1, of the words and walks that the law FnExactRenameOne needs; made by this session's program out of printed texts. -/

import Derived.Test.YtdjamdnjkdllgaaGreatDoorVERenameOnePx0
namespace Go.Proofs.YtdjamdnjkdllgaaGreatDoor.PFnExactRenameOne
open Go.RowKit Go.Proofs.YtdjamdnjkdllgaaGreatDoorW.PrintWords Go.Proofs.YtdjamdnjkdllgaaGreatDoorW.PrintLast Go.Proofs.YtdjamdnjkdllgaaGreatDoorW.PrintMore
attribute [local go_sem] max2_int min2_int max_two min_two max_three min_three max_four min_four
set_option linter.unusedVariables false
set_option linter.unusedSimpArgs false
theorem eqA30 (d : Nat) (w : World) (x0 y0 : Int) (x1 y1 : Int) :
  (Op.equalIn (d + 2) 30 (.agg #[.int .i64 x0, .int .i64 x1]) (.agg #[.int .i64 y0, .int .i64 y1])).run Tryz.prog w = .ok (x0 == y0 && (x1 == y1)) w := by
 refine eqA_of Tryz.underlying30 kr ?_
 refine eqf_cons (by rfl) (by go_simp; rfl) (by go_simp; rfl) (by go_simp) ?_
 exact eqf_last (by rfl) (by go_simp; rfl) (by go_simp; rfl) (by go_simp)
end Go.Proofs.YtdjamdnjkdllgaaGreatDoor.PFnExactRenameOne
