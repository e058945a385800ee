/-
  Part 10 of the proof: how the calls of this program run, over values instead of memory, and what each function computes.
-/
import Derived.Test.YtmlhipilbnjhiaaGreatNi
set_option maxRecDepth 100000
set_option linter.unusedVariables false
set_option linter.unusedSimpArgs false
set_option linter.unnecessarySimpa false
set_option linter.unusedSectionVars false
namespace Go.Ab
open Go.RowKit Go.Proofs
def zlF:AV:=.int .i64 0
theorem zsf:zo Tryz.prog zca [zoA] (·=zlF):=zhy (qf:=q36) zf3 3000 (by kernel_rfl)
def znk:AV:=(slL 1 [[.int .i64 (-1)],[.int .i64 0],[.int .i64 1],[.int .i64 1]])
theorem zur:zo Tryz.prog zbu [zoA] (·=znk):=zhy (qf:=q36) zf3 3000 (by kernel_rfl)
def zl3:AV:=(slL 1 [[.int .i64 0],[.int .i64 1],[.int .i64 3],[.int .i64 2]])
theorem zrQ:zo Tryz.prog zaY [zoA] (·=zl3):=zhy (qf:=q36) zf3 3000 (by kernel_rfl)
def zGO:List Memo:=[⟨zgc,[zoA],zsc⟩,⟨zca,[zoA],zlF⟩,⟨zbu,[zoA],znk⟩,⟨zaY,[zoA],zl3⟩]
def orc36a:zcA:=zDK zGO zFL
theorem zyG:orc36a.Sound Tryz.prog:=zlY zf3 (by
 intro e b;simp only[zGO,List.mem_cons,List.not_mem_nil,or_false]at b;rcases b with rfl|rfl|rfl|rfl
 .exact zAl
 .exact zsf
 .exact zur
 .exact zrQ)
end Go.Ab
