/-
  Part 13 of the proof: how the calls of this program run, over values instead of memory, and what each function computes.
-/
import Derived.Test.YtmlhipilbnjhiaaGreatPl
set_option maxRecDepth 100000
set_option linter.unusedVariables false
set_option linter.unusedSimpArgs false
set_option linter.unnecessarySimpa false
set_option linter.unusedSectionVars false
namespace Go.Ab
open Go.RowKit Go.Proofs
def zsd:AV:=.int .i64 0
theorem zAH:zq Tryz.prog zgs [zFM,zmO] (·=zsd):=zgx (qf:=q36) zpK 3000 (by kernel_rfl)
end Go.Ab
