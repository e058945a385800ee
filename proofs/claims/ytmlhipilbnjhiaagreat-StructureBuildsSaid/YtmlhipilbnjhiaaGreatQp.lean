/-
  Part 16 of the proof: how the calls of this program run, over values instead of memory, and what each function computes.
-/
import Derived.Test.YtmlhipilbnjhiaaGreatQo
set_option maxRecDepth 100000
set_option linter.unusedVariables false
set_option linter.unusedSimpArgs false
set_option linter.unnecessarySimpa false
set_option linter.unusedSectionVars false
namespace Go.Ab
open Go.RowKit Go.Proofs
theorem ze9:zn Tryz.prog zdC [] (·=.bool true):=zDl (qf:=q36) zyj 3000 (by kernel_rfl)
end Go.Ab
