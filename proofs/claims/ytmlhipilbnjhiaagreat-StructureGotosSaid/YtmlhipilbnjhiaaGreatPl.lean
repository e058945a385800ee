/-
  Part 12 of the proof: how the calls of this program run, over values instead of memory, and what each function computes.
-/
import Derived.Test.YtmlhipilbnjhiaaGreatPk
set_option maxRecDepth 100000
set_option linter.unusedVariables false
set_option linter.unusedSimpArgs false
set_option linter.unnecessarySimpa false
set_option linter.unusedSectionVars false
namespace Go.Ab
open Go.RowKit Go.Proofs
def zBR:List Memo:=[⟨zaK,[zmO],zhT⟩,⟨zb5,[zmO],zki⟩,⟨zaY,[zmO],zlL⟩,⟨zau,[zmO],zkB⟩]
def orc36b:zbN:=zAc zBR zB7
theorem zpK:orc36b.Sound Tryz.prog:=zkw zeY (by
 intro e b;simp only[zBR,List.mem_cons,List.not_mem_nil,or_false]at b;rcases b with rfl|rfl|rfl|rfl
 .exact zp6
 .exact zp0
 .exact zrM
 .exact zpF)
def zFM:AV:=match zhT with
 |.tup (a::_)=>a
 |_=>.undef
end Go.Ab
