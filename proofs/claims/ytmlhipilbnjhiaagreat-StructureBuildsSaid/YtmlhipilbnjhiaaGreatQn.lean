/-
  Part 14 of the proof: how the calls of this program run, over values instead of memory, and what each function computes.
-/
import Derived.Test.YtmlhipilbnjhiaaGreatQm
set_option maxRecDepth 100000
set_option linter.unusedVariables false
set_option linter.unusedSimpArgs false
set_option linter.unnecessarySimpa false
set_option linter.unusedSectionVars false
namespace Go.Ab
open Go.RowKit Go.Proofs
def zra:AV:=(.agg [.int .i64 1,.int .i64 0,.int .i64 0,(slL 5 []),(slL 5 [[.int .i64 2,.int .i64 0,.int .i64 0,(slL 5 []),(slL 5 [])],[.int .i64 5,.int .i64 1,.int .i64 0,(slL 5 [[.int .i64 2,.int .u32 0,.int .i64 1,.int .i64 0,(slL 5 [])]]),(slL 5 [[.int .i64 2,.int .i64 2,.int .i64 0,(slL 5 []),(slL 5 [])]])],[.int .i64 2,.int .i64 3,.int .i64 0,(slL 5 []),(slL 5 [])],[.int .i64 12,.int .i64 0,.int .i64 0,(slL 5 []),(slL 5 [])]])])
theorem zAj:zn Tryz.prog zer [zHi] (·=zra):=zgI (qf:=q36) zrb 3000 (by kernel_rfl)
end Go.Ab
