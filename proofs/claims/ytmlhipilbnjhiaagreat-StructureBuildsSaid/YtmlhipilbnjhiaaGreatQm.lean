/-
  Part 13 of the proof: how the calls of this program run, over values instead of memory, and what each function computes.
-/
import Derived.Test.YtmlhipilbnjhiaaGreatQl
set_option maxRecDepth 100000
set_option linter.unusedVariables false
set_option linter.unusedSimpArgs false
set_option linter.unnecessarySimpa false
set_option linter.unusedSectionVars false
namespace Go.Ab
open Go.RowKit Go.Proofs
def zt9:AV:=.int .i64 0
theorem zCy:zn Tryz.prog zgD [zHi,znE] (·=zt9):=zgI (qf:=q36) zrb 3000 (by kernel_rfl)
end Go.Ab
