/-
  Part 13 of the proof: how the calls of this program run, over values instead of memory, and what each function computes.
-/
import Derived.Test.YtmlhipilbnjhiaaGreatNl
set_option maxRecDepth 100000
set_option linter.unusedVariables false
set_option linter.unusedSimpArgs false
set_option linter.unnecessarySimpa false
set_option linter.unusedSectionVars false
namespace Go.Ab
open Go.RowKit Go.Proofs
def zuY:AV:=.int .i64 0
theorem zEh:zo Tryz.prog zaA [zJt,zoA] (·=zuY):=zhy (qf:=q36) zrW 3000 (by kernel_rfl)
end Go.Ab
