/-
  Part 12 of the proof: how the calls of this program run, over values instead of memory, and what each function computes.
-/
import Derived.Test.YtmlhipilbnjhiaaGreatKk
set_option maxRecDepth 100000
set_option linter.unusedVariables false
set_option linter.unusedSimpArgs false
set_option linter.unnecessarySimpa false
set_option linter.unusedSectionVars false

namespace Go.Ab
open Go.RowKit Go.Proofs
def znN : AV := .int .i64 0
theorem zvn : zaj Tryz.prog zb4 [zzY, zjZ] (· = znN) := zeZ (qf := q36) zmT 3000 (by kernel_rfl)
end Go.Ab
