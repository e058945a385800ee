/-
  Part 10 of the proof: how the calls of this program run, over values instead of memory, and what each function computes.
-/
import Derived.Test.YtmlhipilbnjhiaaGreatKi
set_option linter.unusedVariables false
set_option linter.unusedSimpArgs false
set_option linter.unnecessarySimpa false
set_option linter.unusedSectionVars false

namespace Go.Ab
open Go.RowKit Go.Proofs

def ex36Build_res : AV := (.tup [(.agg [.int .i64 1, .int .i64 0, .int .i64 0, .nilsl, (slL 5 [[.int .i64 2, .int .i64 0, .int .i64 0, .nilsl, (slL 5 [])], [.int .i64 1, .int .i64 0, .int .i64 0, .nilsl, (slL 5 [])], [.int .i64 1, .int .i64 0, .int .i64 0, .nilsl, (slL 5 [[.int .i64 5, .int .i64 1, .int .i64 0, (slL 5 [[.int .i64 2, .int .u32 0, .int .i64 1, .int .i64 0, (slL 5 [])]]), (slL 5 [[.int .i64 1, .int .i64 0, .int .i64 0, .nilsl, (slL 5 [[.int .i64 1, .int .i64 0, .int .i64 0, .nilsl, (slL 5 [[.int .i64 2, .int .i64 2, .int .i64 0, .nilsl, (slL 5 [])], [.int .i64 1, .int .i64 0, .int .i64 0, .nilsl, (slL 5 [])]])]])]])], [.int .i64 1, .int .i64 0, .int .i64 0, .nilsl, (slL 5 [[.int .i64 2, .int .i64 3, .int .i64 0, .nilsl, (slL 5 [])], [.int .i64 12, .int .i64 0, .int .i64 0, .nilsl, (slL 5 [])]])]])]])]), .int .i64 0])

set_option maxRecDepth 1000000 in
theorem ex36Build_ok : PureFn Tryz.prog f_structure_Build [exG36] (· = ex36Build_res) := execC_pure (qf := q36) orc36a_sound 3000 (by kernel_rfl)

end Go.Ab
