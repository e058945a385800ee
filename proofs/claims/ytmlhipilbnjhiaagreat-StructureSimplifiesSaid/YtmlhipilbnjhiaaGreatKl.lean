/-
  Part 12 of the proof: how the calls of this program run, over values instead of memory, and what each function computes.
-/
import Derived.Test.YtmlhipilbnjhiaaGreatKk
set_option linter.unusedVariables false
set_option linter.unusedSimpArgs false
set_option linter.unnecessarySimpa false
set_option linter.unusedSectionVars false

namespace Go.Ab
open Go.RowKit Go.Proofs

def ex36Chk_res : AV := .int .i64 0

set_option maxRecDepth 1000000 in
theorem ex36Chk_ok : PureFn Tryz.prog f_structure_Check [ex36N, exG36] (· = ex36Chk_res) := execC_pure (qf := q36) orc36b_sound 3000 (by kernel_rfl)

end Go.Ab
