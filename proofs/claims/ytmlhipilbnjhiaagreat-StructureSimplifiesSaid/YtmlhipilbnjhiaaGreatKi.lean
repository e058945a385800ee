/-
  Part 9 of the proof: how the calls of this program run, over values instead of memory, and what each function computes.
-/
import Derived.Test.YtmlhipilbnjhiaaGreatKh
set_option linter.unusedVariables false
set_option linter.unusedSimpArgs false
set_option linter.unnecessarySimpa false
set_option linter.unusedSectionVars false

namespace Go.Ab
open Go.RowKit Go.Proofs

def ex36Check_res : AV := .int .i64 0

set_option maxRecDepth 1000000 in
theorem ex36Check_ok : PureFn Tryz.prog f_il_CheckGraph [exG36] (· = ex36Check_res) := execC_pure (qf := q36) orc36_sound 3000 (by kernel_rfl)

end Go.Ab

namespace Go.Ab
open Go.RowKit Go.Proofs

def ex36Tree_res : AV := (slL 1 [[.int .i64 (-1)], [.int .i64 0], [.int .i64 1], [.int .i64 1]])

set_option maxRecDepth 1000000 in
theorem ex36Tree_ok : PureFn Tryz.prog f_dominator_Tree [exG36] (· = ex36Tree_res) := execC_pure (qf := q36) orc36_sound 3000 (by kernel_rfl)

end Go.Ab

namespace Go.Ab
open Go.RowKit Go.Proofs

def ex36Order_res : AV := (slL 1 [[.int .i64 0], [.int .i64 1], [.int .i64 3], [.int .i64 2]])

set_option maxRecDepth 1000000 in
theorem ex36Order_ok : PureFn Tryz.prog f_dominator_Order [exG36] (· = ex36Order_res) := execC_pure (qf := q36) orc36_sound 3000 (by kernel_rfl)

end Go.Ab

namespace Go.Ab
open Go.RowKit Go.Proofs
def memo36a : List Memo := [⟨f_loops_Find, [exG36], ex36Find_res⟩, ⟨f_il_CheckGraph, [exG36], ex36Check_res⟩, ⟨f_dominator_Tree, [exG36], ex36Tree_res⟩, ⟨f_dominator_Order, [exG36], ex36Order_res⟩]
def orc36a : CallX := memoX memo36a orc36
theorem orc36a_sound : orc36a.Sound Tryz.prog := memoX_sound orc36_sound (by
  intro e he
  simp only [memo36a, List.mem_cons, List.not_mem_nil, or_false] at he
  rcases he with rfl | rfl | rfl | rfl
  · exact ex36Find_ok
  · exact ex36Check_ok
  · exact ex36Tree_ok
  · exact ex36Order_ok)
end Go.Ab
