/-
  Part 9 of the proof: how the calls of this program run, over values instead of memory, and what each function computes.
-/
import Derived.Test.YtmlhipilbnjhiaaGreatKh
set_option maxRecDepth 100000
set_option linter.unusedVariables false
set_option linter.unusedSimpArgs false
set_option linter.unnecessarySimpa false
set_option linter.unusedSectionVars false

namespace Go.Ab
open Go.RowKit Go.Proofs
def zig : AV := .int .i64 0
theorem zme : zaj Tryz.prog zca [zjZ] (· = zig) := zeZ (qf := q36) zdY 3000 (by kernel_rfl)
def zjG : AV := (slL 1 [[.int .i64 (-1)], [.int .i64 0], [.int .i64 1], [.int .i64 1]])
theorem zn2 : zaj Tryz.prog zdT [zjZ] (· = zjG) := zeZ (qf := q36) zdY 3000 (by kernel_rfl)
def zid : AV := (slL 1 [[.int .i64 0], [.int .i64 1], [.int .i64 3], [.int .i64 2]])
theorem zmj : zaj Tryz.prog zbu [zjZ] (· = zid) := zeZ (qf := q36) zdY 3000 (by kernel_rfl)
def zxv : List Memo := [⟨zjg, [zjZ], zms⟩, ⟨zca, [zjZ], zig⟩, ⟨zdT, [zjZ], zjG⟩, ⟨zbu, [zjZ], zid⟩]
def orc36a : zb1 := zu0 zxv zxc
theorem zrj : orc36a.Sound Tryz.prog := zio zdY (by
  intro e he
  simp only [zxv, List.mem_cons, List.not_mem_nil, or_false] at he
  rcases he with rfl | rfl | rfl | rfl
  · exact zsG
  · exact zme
  · exact zn2
  · exact zmj)
end Go.Ab
