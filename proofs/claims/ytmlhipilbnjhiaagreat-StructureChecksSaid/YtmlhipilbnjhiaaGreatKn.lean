/-
  Part 14 of the proof: how the calls of this program run, over values instead of memory, and what each function computes.
-/
import Derived.Test.YtmlhipilbnjhiaaGreatKm
set_option maxRecDepth 100000
set_option linter.unusedVariables false
set_option linter.unusedSimpArgs false
set_option linter.unnecessarySimpa false
set_option linter.unusedSectionVars false

namespace Go.Ab
open Go.RowKit Go.Proofs
def zvu : List Memo := [⟨zdo, [zjZ], zfW⟩, ⟨zb4, [zzY, zjZ], znN⟩, ⟨zdx, [zzY], zmv⟩]
def orc36c : zb1 := zu0 zvu zxc
theorem zrt : orc36c.Sound Tryz.prog := zio zdY (by
  intro e he
  simp only [zvu, List.mem_cons, List.not_mem_nil, or_false] at he
  rcases he with rfl | rfl | rfl
  · exact zmg
  · exact zvn
  · exact zsr)
end Go.Ab
