/-
  Part 15 of the proof: how the calls of this program run, over values instead of memory, and what each function computes.
-/
import Derived.Test.YtmlhipilbnjhiaaGreatKn
set_option linter.unusedVariables false
set_option linter.unusedSimpArgs false
set_option linter.unnecessarySimpa false
set_option linter.unusedSectionVars false

namespace Go.Ab
open Go.RowKit Go.Proofs

set_option maxRecDepth 1000000 in
theorem L36_exampleHolds_ok : PureFn Tryz.prog f_L36_exampleHolds [] (· = .bool true) := execC_bool (qf := q36) orc36c_sound 3000 (by kernel_rfl)

end Go.Ab
