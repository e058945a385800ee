/-
  Part 12 of the proof: how the calls of this program run, over values instead of memory, and what each function computes.
-/
import Derived.Test.YtmlhipilbnjhiaaGreatKk
set_option maxRecDepth 100000
set_option linter.unusedVariables false
set_option linter.unusedSimpArgs false
set_option linter.unnecessarySimpa false
set_option linter.unusedSectionVars false

namespace Go.Ab
open Go.RowKit Go.Proofs
def zm7 : AV := .int .i64 0
theorem zuz : zk Tryz.prog zbc [zxd, zji] (· = zm7) := zd5 (qf := q36) zln 3000 (by kernel_rfl)
end Go.Ab
