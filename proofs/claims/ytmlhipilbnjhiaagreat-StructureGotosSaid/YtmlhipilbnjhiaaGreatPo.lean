/-
  Part 15 of the proof: how the calls of this program run, over values instead of memory, and what each function computes.
-/
import Derived.Test.YtmlhipilbnjhiaaGreatPn
set_option maxRecDepth 100000
set_option linter.unusedVariables false
set_option linter.unusedSimpArgs false
set_option linter.unnecessarySimpa false
set_option linter.unusedSectionVars false
namespace Go.Ab
open Go.RowKit Go.Proofs
def zEz:List Memo:=[⟨zaK,[zmO],zhT⟩,⟨zgs,[zFM,zmO],zsd⟩,⟨zel,[zFM],zpJ⟩]
def orc36c:zbN:=zAc zEz zB7
theorem zwc:orc36c.Sound Tryz.prog:=zkw zeY (by
 intro e b;simp only[zEz,List.mem_cons,List.not_mem_nil,or_false]at b;rcases b with rfl|rfl|rfl
 .exact zp6
 .exact zAH
 .exact zyd)
end Go.Ab
