/-
  Part 15 of the proof: how the calls of this program run, over values instead of memory, and what each function computes.
-/
import Derived.Test.YtmlhipilbnjhiaaGreatNn
set_option maxRecDepth 100000
set_option linter.unusedVariables false
set_option linter.unusedSimpArgs false
set_option linter.unnecessarySimpa false
set_option linter.unusedSectionVars false
namespace Go.Ab
open Go.RowKit Go.Proofs
def zIh:List Memo:=[⟨zbC,[zoA],zi1⟩,⟨zaA,[zJt,zoA],zuY⟩,⟨zaq,[zJt],zrV⟩]
def orc36c:zcA:=zDK zIh zFL
theorem zzy:orc36c.Sound Tryz.prog:=zlY zf3 (by
 intro e b;simp only[zIh,List.mem_cons,List.not_mem_nil,or_false]at b;rcases b with rfl|rfl|rfl
 .exact zsn
 .exact zEh
 .exact zBO)
end Go.Ab
