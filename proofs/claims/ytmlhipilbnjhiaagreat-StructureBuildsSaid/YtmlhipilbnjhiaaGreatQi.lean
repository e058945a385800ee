/-
  Part 9 of the proof: how the calls of this program run, over values instead of memory, and what each function computes.
-/
import Derived.Test.YtmlhipilbnjhiaaGreatQh
set_option maxRecDepth 100000
set_option linter.unusedVariables false
set_option linter.unusedSimpArgs false
set_option linter.unnecessarySimpa false
set_option linter.unusedSectionVars false
namespace Go.Ab
open Go.RowKit Go.Proofs
def zrq:AV:=(slL 4 [[.int .i64 1,(slL 1 [[.int .i64 1],[.int .i64 2]]),(slL 1 [[.int .i64 3]]),.int .i64 (-1)]])
theorem zyZ:zn Tryz.prog zff [znE] (·=zrq):=zgI (qf:=q36) zfa 3000 (by kernel_rfl)
end Go.Ab
