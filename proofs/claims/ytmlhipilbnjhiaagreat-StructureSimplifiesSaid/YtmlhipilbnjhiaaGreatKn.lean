/-
  Part 14 of the proof: how the calls of this program run, over values instead of memory, and what each function computes.
-/
import Derived.Test.YtmlhipilbnjhiaaGreatKm
set_option linter.unusedVariables false
set_option linter.unusedSimpArgs false
set_option linter.unnecessarySimpa false
set_option linter.unusedSectionVars false

namespace Go.Ab
open Go.RowKit Go.Proofs
def memo36c : List Memo := [⟨f_structure_Build, [exG36], ex36Build_res⟩, ⟨f_structure_Check, [ex36N, exG36], ex36Chk_res⟩, ⟨f_structure_Simplify, [ex36N], ex36Simp_res⟩]
def orc36c : CallX := memoX memo36c orc36
theorem orc36c_sound : orc36c.Sound Tryz.prog := memoX_sound orc36_sound (by
  intro e he
  simp only [memo36c, List.mem_cons, List.not_mem_nil, or_false] at he
  rcases he with rfl | rfl | rfl
  · exact ex36Build_ok
  · exact ex36Chk_ok
  · exact ex36Simp_ok)
end Go.Ab
