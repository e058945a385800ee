/-
  Part 9 of the proof: how the calls of this program run, over values instead of memory, and what each function computes.
-/
import Derived.Test.YtmlhipilbnjhiaaGreatKh
set_option maxRecDepth 100000
set_option linter.unusedVariables false
set_option linter.unusedSimpArgs false
set_option linter.unnecessarySimpa false
set_option linter.unusedSectionVars false

namespace Go.Ab
open Go.RowKit Go.Proofs
def zgX : AV := .int .i64 0
theorem zlx : zk Tryz.prog zbl [zji] (· = zgX) := zd5 (qf := q36) zc5 3000 (by kernel_rfl)
def zh7 : AV := (slL 1 [[.int .i64 (-1)], [.int .i64 0], [.int .i64 1], [.int .i64 1]])
theorem zm4 : zk Tryz.prog zc4 [zji] (· = zh7) := zd5 (qf := q36) zc5 3000 (by kernel_rfl)
def zhr : AV := (slL 1 [[.int .i64 0], [.int .i64 1], [.int .i64 3], [.int .i64 2]])
theorem zlK : zk Tryz.prog zaC [zji] (· = zhr) := zd5 (qf := q36) zc5 3000 (by kernel_rfl)
def zwG : List Memo := [⟨zid, [zji], zlV⟩, ⟨zbl, [zji], zgX⟩, ⟨zc4, [zji], zh7⟩, ⟨zaC, [zji], zhr⟩]
def orc36a : zba := zun zwG zwi
theorem zqx : orc36a.Sound Tryz.prog := zhc zc5 (by
  intro e he
  simp only [zwG, List.mem_cons, List.not_mem_nil, or_false] at he
  rcases he with rfl | rfl | rfl | rfl
  · exact zry
  · exact zlx
  · exact zm4
  · exact zlK)
end Go.Ab
