/-
  Part 10 of the proof: how the calls of this program run, over values instead of memory, and what each function computes.
-/
import Derived.Test.YtmlhipilbnjhiaaGreatQi
set_option maxRecDepth 100000
set_option linter.unusedVariables false
set_option linter.unusedSimpArgs false
set_option linter.unnecessarySimpa false
set_option linter.unusedSectionVars false
namespace Go.Ab
open Go.RowKit Go.Proofs
def zkW:AV:=.int .i64 0
theorem zrt:zn Tryz.prog zcm [znE] (·=zkW):=zgI (qf:=q36) zfa 3000 (by kernel_rfl)
def zmA:AV:=(slL 1 [[.int .i64 (-1)],[.int .i64 0],[.int .i64 1],[.int .i64 1]])
theorem ztD:zn Tryz.prog za8 [znE] (·=zmA):=zgI (qf:=q36) zfa 3000 (by kernel_rfl)
def zli:AV:=(slL 1 [[.int .i64 0],[.int .i64 1],[.int .i64 3],[.int .i64 2]])
theorem zq4:zn Tryz.prog zaH [znE] (·=zli):=zgI (qf:=q36) zfa 3000 (by kernel_rfl)
def zEN:List Memo:=[⟨zff,[znE],zrq⟩,⟨zcm,[znE],zkW⟩,⟨za8,[znE],zmA⟩,⟨zaH,[znE],zli⟩]
def orc36a:zb2:=zB7 zEN zDS
theorem zxx:orc36a.Sound Tryz.prog:=zld zfa (by
 intro e b;simp only[zEN,List.mem_cons,List.not_mem_nil,or_false]at b;rcases b with rfl|rfl|rfl|rfl
 .exact zyZ
 .exact zrt
 .exact ztD
 .exact zq4)
end Go.Ab
