/-
  Part 12 of the proof: how the calls of this program run, over values instead of memory, and what each function computes.
-/
import Derived.Test.YtmlhipilbnjhiaaGreatQk
set_option maxRecDepth 100000
set_option linter.unusedVariables false
set_option linter.unusedSimpArgs false
set_option linter.unnecessarySimpa false
set_option linter.unusedSectionVars false
namespace Go.Ab
open Go.RowKit Go.Proofs
def zDB:List Memo:=[⟨zbf,[znE],zia⟩,⟨zcm,[znE],zkW⟩,⟨za8,[znE],zmA⟩,⟨zaH,[znE],zli⟩]
def orc36b:zb2:=zB7 zDB zDS
theorem zrb:orc36b.Sound Tryz.prog:=zld zfa (by
 intro e b;simp only[zDB,List.mem_cons,List.not_mem_nil,or_false]at b;rcases b with rfl|rfl|rfl|rfl
 .exact zrB
 .exact zrt
 .exact ztD
 .exact zq4)
def zHi:AV:=match zia with
 |.tup (a::_)=>a
 |_=>.undef
end Go.Ab
