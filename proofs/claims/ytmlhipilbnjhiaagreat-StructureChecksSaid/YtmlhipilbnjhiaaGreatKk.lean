/-
  Part 11 of the proof: how the calls of this program run, over values instead of memory, and what each function computes.
-/
import Derived.Test.YtmlhipilbnjhiaaGreatKj
set_option maxRecDepth 100000
set_option linter.unusedVariables false
set_option linter.unusedSimpArgs false
set_option linter.unnecessarySimpa false
set_option linter.unusedSectionVars false

namespace Go.Ab
open Go.RowKit Go.Proofs
def zw1 : List Memo := [⟨zdo, [zjZ], zfW⟩, ⟨zca, [zjZ], zig⟩, ⟨zdT, [zjZ], zjG⟩, ⟨zbu, [zjZ], zid⟩]
def orc36b : zb1 := zu0 zw1 zxc
theorem zmT : orc36b.Sound Tryz.prog := zio zdY (by
  intro e he
  simp only [zw1, List.mem_cons, List.not_mem_nil, or_false] at he
  rcases he with rfl | rfl | rfl | rfl
  · exact zmg
  · exact zme
  · exact zn2
  · exact zmj)
def zzY : AV := match zfW with
  | .tup (a :: _) => a
  | _ => .undef
end Go.Ab
