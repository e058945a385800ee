/-
  Part 11 of the proof: how the calls of this program run, over values instead of memory, and what each function computes.
-/
import Derived.Test.YtmlhipilbnjhiaaGreatKj
set_option linter.unusedVariables false
set_option linter.unusedSimpArgs false
set_option linter.unnecessarySimpa false
set_option linter.unusedSectionVars false

namespace Go.Ab
open Go.RowKit Go.Proofs
def memo36b : List Memo := [⟨f_structure_Build, [exG36], ex36Build_res⟩, ⟨f_il_CheckGraph, [exG36], ex36Check_res⟩, ⟨f_dominator_Tree, [exG36], ex36Tree_res⟩, ⟨f_dominator_Order, [exG36], ex36Order_res⟩]
def orc36b : CallX := memoX memo36b orc36
theorem orc36b_sound : orc36b.Sound Tryz.prog := memoX_sound orc36_sound (by
  intro e he
  simp only [memo36b, List.mem_cons, List.not_mem_nil, or_false] at he
  rcases he with rfl | rfl | rfl | rfl
  · exact ex36Build_ok
  · exact ex36Check_ok
  · exact ex36Tree_ok
  · exact ex36Order_ok)
def ex36N : AV := match ex36Build_res with
  | .tup (a :: _) => a
  | _ => .undef
end Go.Ab
