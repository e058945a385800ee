/-
  Part 12 of the proof: how the calls of this program run, over values instead of memory, and what each function computes.
-/
import Derived.Test.YtmlhipilbnjhiaaGreatNk
set_option maxRecDepth 100000
set_option linter.unusedVariables false
set_option linter.unusedSimpArgs false
set_option linter.unnecessarySimpa false
set_option linter.unusedSectionVars false
namespace Go.Ab
open Go.RowKit Go.Proofs
def zFu:List Memo:=[⟨zbC,[zoA],zi1⟩,⟨zca,[zoA],zlF⟩,⟨zbu,[zoA],znk⟩,⟨zaY,[zoA],zl3⟩]
def orc36b:zcA:=zDK zFu zFL
theorem zrW:orc36b.Sound Tryz.prog:=zlY zf3 (by
 intro e b;simp only[zFu,List.mem_cons,List.not_mem_nil,or_false]at b;rcases b with rfl|rfl|rfl|rfl
 .exact zsn
 .exact zsf
 .exact zur
 .exact zrQ)
def zJt:AV:=match zi1 with
 |.tup (a::_)=>a
 |_=>.undef
end Go.Ab
