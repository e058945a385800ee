/-
  Part 11 of the proof: how the calls of this program run, over values instead of memory, and what each function computes.
-/
import Derived.Test.YtmlhipilbnjhiaaGreatKj
set_option maxRecDepth 100000
set_option linter.unusedVariables false
set_option linter.unusedSimpArgs false
set_option linter.unnecessarySimpa false
set_option linter.unusedSectionVars false

namespace Go.Ab
open Go.RowKit Go.Proofs
def zvV : List Memo := [⟨zcA, [zji], ze6⟩, ⟨zbl, [zji], zgX⟩, ⟨zc4, [zji], zh7⟩, ⟨zaC, [zji], zhr⟩]
def orc36b : zba := zun zvV zwi
theorem zln : orc36b.Sound Tryz.prog := zhc zc5 (by
  intro e he
  simp only [zvV, List.mem_cons, List.not_mem_nil, or_false] at he
  rcases he with rfl | rfl | rfl | rfl
  · exact zlC
  · exact zlx
  · exact zm4
  · exact zlK)
def zxd : AV := match ze6 with
  | .tup (a :: _) => a
  | _ => .undef
end Go.Ab
