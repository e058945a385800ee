/-
  Part 15 of the proof: how the calls of this program run, over values instead of memory, and what each function computes.
-/
import Derived.Test.YtmlhipilbnjhiaaGreatKn
set_option maxRecDepth 100000
set_option linter.unusedVariables false
set_option linter.unusedSimpArgs false
set_option linter.unnecessarySimpa false
set_option linter.unusedSectionVars false

namespace Go.Ab
open Go.RowKit Go.Proofs
theorem zc9 : zk Tryz.prog zb1 [] (· = .bool true) := ztw (qf := q36) zp4 3000 (by kernel_rfl)
end Go.Ab
