/-
  Part 10 of the proof: how the calls of this program run, over values instead of memory, and what each function computes.
-/
import Derived.Test.YtmlhipilbnjhiaaGreatPi
set_option maxRecDepth 100000
set_option linter.unusedVariables false
set_option linter.unusedSimpArgs false
set_option linter.unnecessarySimpa false
set_option linter.unusedSectionVars false
namespace Go.Ab
open Go.RowKit Go.Proofs
def zki:AV:=.int .i64 0
theorem zp0:zq Tryz.prog zb5 [zmO] (·=zki):=zgx (qf:=q36) zeY 3000 (by kernel_rfl)
def zlL:AV:=(slL 1 [[.int .i64 (-1)],[.int .i64 0],[.int .i64 1],[.int .i64 1]])
theorem zrM:zq Tryz.prog zaY [zmO] (·=zlL):=zgx (qf:=q36) zeY 3000 (by kernel_rfl)
def zkB:AV:=(slL 1 [[.int .i64 0],[.int .i64 1],[.int .i64 3],[.int .i64 2]])
theorem zpF:zq Tryz.prog zau [zmO] (·=zkB):=zgx (qf:=q36) zeY 3000 (by kernel_rfl)
def zDc:List Memo:=[⟨ze9,[zmO],zpX⟩,⟨zb5,[zmO],zki⟩,⟨zaY,[zmO],zlL⟩,⟨zau,[zmO],zkB⟩]
def orc36a:zbN:=zAc zDc zB7
theorem zvo:orc36a.Sound Tryz.prog:=zkw zeY (by
 intro e b;simp only[zDc,List.mem_cons,List.not_mem_nil,or_false]at b;rcases b with rfl|rfl|rfl|rfl
 .exact zwT
 .exact zp0
 .exact zrM
 .exact zpF)
end Go.Ab
