/-
  Part 15 of the proof: how the calls of this program run, over values instead of memory, and what each function computes.
-/
import Derived.Test.YtmlhipilbnjhiaaGreatQn
set_option maxRecDepth 100000
set_option linter.unusedVariables false
set_option linter.unusedSimpArgs false
set_option linter.unnecessarySimpa false
set_option linter.unusedSectionVars false
namespace Go.Ab
open Go.RowKit Go.Proofs
def zF8:List Memo:=[⟨zbf,[znE],zia⟩,⟨zgD,[zHi,znE],zt9⟩,⟨zer,[zHi],zra⟩]
def orc36c:zb2:=zB7 zF8 zDS
theorem zyj:orc36c.Sound Tryz.prog:=zld zfa (by
 intro e b;simp only[zF8,List.mem_cons,List.not_mem_nil,or_false]at b;rcases b with rfl|rfl|rfl
 .exact zrB
 .exact zCy
 .exact zAj)
end Go.Ab
