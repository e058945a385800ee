/-
  Part 14 of the proof: how the calls of this program run, over values instead of memory, and what each function computes.
-/
import Derived.Test.YtmlhipilbnjhiaaGreatKm
set_option maxRecDepth 100000
set_option linter.unusedVariables false
set_option linter.unusedSimpArgs false
set_option linter.unnecessarySimpa false
set_option linter.unusedSectionVars false

namespace Go.Ab
open Go.RowKit Go.Proofs
def zvA : List Memo := [⟨zcA, [zji], ze6⟩, ⟨zbc, [zxd, zji], zm7⟩, ⟨zcK, [zxd], zlT⟩]
def orc36c : zba := zun zvA zwi
theorem zp4 : orc36c.Sound Tryz.prog := zhc zc5 (by
  intro e he
  simp only [zvA, List.mem_cons, List.not_mem_nil, or_false] at he
  rcases he with rfl | rfl | rfl
  · exact zlC
  · exact zuz
  · exact zrZ)
end Go.Ab
