/-
  Part 8 of the proof: how the calls of this program run, over values instead of memory, and what each function computes.
-/
import Derived.Test.YtmlhipilbnjhiaaGreatKg
set_option linter.unusedVariables false
set_option linter.unusedSimpArgs false
set_option linter.unnecessarySimpa false
set_option linter.unusedSectionVars false

namespace Go.Ab
open Go.RowKit Go.Proofs

def ex36Find_res : AV := (slL 4 [[.int .i64 1, (slL 1 [[.int .i64 1], [.int .i64 2]]), (slL 1 [[.int .i64 3]]), .int .i64 (-1)]])

set_option maxRecDepth 1000000 in
theorem ex36Find_ok : PureFn Tryz.prog f_loops_Find [exG36] (· = ex36Find_res) := execC_pure (qf := q36) orc36_sound 3000 (by kernel_rfl)

end Go.Ab
