/-
  NARROWER THAN 'FOR EVERY INPUT', by the rows' own cells (each row's printed sentence says how): DominatorPaths: loops · DominatorTree: loops · DominatorRemoval: loops · DominatorOrder: loops · DominatorFrontiers: loops · DominatorPredecessors: loops · DominatorPost: loops.
  DERIVED. THE GIVEN ROWS OF THIS SEAT. 8 by the template 'for every input the law returns true; each argument reads behind the call as it read before'; 0 by the template 'total and deterministic' (their statements: YtglokgacghadbaaTotals.lean).
  GIVEN WITH THE SEED: the statements are not yours to turn. If you find one false, say at which input.
  Laid BY PROGRAM, IN A SANDBOX (cutbox-rows.mjs): the forced cells as the released guide's own fill.sh prints them over the translation 472c6e6fc68a6d1f… (all of the seat's roots in one cut). By AI agents, Wed Nov 11 2026. No macro, syntax, notation, axiom, sorry.
-/
import Derived.Test.YtglokgacghadbaaChecked
import GoSem.Claim
import GoSem.ClaimJoined
import GoSem.ClaimMapViews
import Derived.JoinedTies
import Derived.KernelRfl
namespace Go.Proofs.Ytglokgacghadbaa
/- THE CELL 'sum', in the pinned program and in every row, IS THE sha256 OF THE DUMP (.gsa) THAT YtglokgacghadbaaProg.lean LOADS. Nothing in Lean hashes anything: it is a label: what it is worth is what the hold of that sum in a sandbox is worth. -/
noncomputable def Try.pinned : Pinned := { name := "ytglokgacghadbaa", sum := "472c6e6fc68a6d1f600f98c230b7a4713a2c853d77bb09209a912e46cff1b496", checked := Try.checked }
namespace Rows
def none {H : Type} : Left H := { results := [], args := [] }

/-- 'decompilerlaw24.DominatorPaths': WHATEVER THE INPUT: true; the input reads as it did. -/
def dominatorPathsSpec : ChangeSpec := { name := "dominatorPaths", fn := fun _ => fun
  | [d1, d2] => { results := [.lit (.bool true)], args := [d1, d2] }
  | _ => none }
def dominatorPathsRow : OpenClaim := { program := "ytglokgacghadbaa", sum := "472c6e6fc68a6d1f600f98c230b7a4713a2c853d77bb09209a912e46cff1b496", func := "decompiler/decompilerlaw24.DominatorPaths", spec := "dominatorPaths", unfollowed := true, recurses := true, loops := true, apart := false }
def DominatorPathsSaid : Prop := dominatorPathsRow.holds Try.pinned (OpenSpec.ofChange dominatorPathsSpec)

/-- ITS FALSE NEIGHBOUR: 'it returns false'. Refute it at one input. -/
def dominatorPathsWrong : ChangeSpec := { name := "dominatorPaths", fn := fun _ => fun
  | [d1, d2] => { results := [.lit (.bool false)], args := [d1, d2] }
  | _ => none }
def DominatorPathsWrongFalsely : Prop := dominatorPathsRow.holds Try.pinned (OpenSpec.ofChange dominatorPathsWrong)

/-- 'decompilerlaw24.DominatorTree': WHATEVER THE INPUT: true; the input reads as it did. -/
def dominatorTreeSpec : ChangeSpec := { name := "dominatorTree", fn := fun _ => fun
  | [d] => { results := [.lit (.bool true)], args := [d] }
  | _ => none }
def dominatorTreeRow : OpenClaim := { program := "ytglokgacghadbaa", sum := "472c6e6fc68a6d1f600f98c230b7a4713a2c853d77bb09209a912e46cff1b496", func := "decompiler/decompilerlaw24.DominatorTree", spec := "dominatorTree", unfollowed := true, recurses := true, loops := true, apart := false }
def DominatorTreeSaid : Prop := dominatorTreeRow.holds Try.pinned (OpenSpec.ofChange dominatorTreeSpec)

/-- ITS FALSE NEIGHBOUR: 'it returns false'. Refute it at one input. -/
def dominatorTreeWrong : ChangeSpec := { name := "dominatorTree", fn := fun _ => fun
  | [d] => { results := [.lit (.bool false)], args := [d] }
  | _ => none }
def DominatorTreeWrongFalsely : Prop := dominatorTreeRow.holds Try.pinned (OpenSpec.ofChange dominatorTreeWrong)

/-- 'decompilerlaw24.DominatorRemoval': WHATEVER THE INPUT: true; the input reads as it did. -/
def dominatorRemovalSpec : ChangeSpec := { name := "dominatorRemoval", fn := fun _ => fun
  | [d1, d2, d3] => { results := [.lit (.bool true)], args := [d1, d2, d3] }
  | _ => none }
def dominatorRemovalRow : OpenClaim := { program := "ytglokgacghadbaa", sum := "472c6e6fc68a6d1f600f98c230b7a4713a2c853d77bb09209a912e46cff1b496", func := "decompiler/decompilerlaw24.DominatorRemoval", spec := "dominatorRemoval", unfollowed := true, recurses := true, loops := true, apart := false }
def DominatorRemovalSaid : Prop := dominatorRemovalRow.holds Try.pinned (OpenSpec.ofChange dominatorRemovalSpec)

/-- ITS FALSE NEIGHBOUR: 'it returns false'. Refute it at one input. -/
def dominatorRemovalWrong : ChangeSpec := { name := "dominatorRemoval", fn := fun _ => fun
  | [d1, d2, d3] => { results := [.lit (.bool false)], args := [d1, d2, d3] }
  | _ => none }
def DominatorRemovalWrongFalsely : Prop := dominatorRemovalRow.holds Try.pinned (OpenSpec.ofChange dominatorRemovalWrong)

/-- 'decompilerlaw24.DominatorOrder': WHATEVER THE INPUT: true; the input reads as it did. -/
def dominatorOrderSpec : ChangeSpec := { name := "dominatorOrder", fn := fun _ => fun
  | [d] => { results := [.lit (.bool true)], args := [d] }
  | _ => none }
def dominatorOrderRow : OpenClaim := { program := "ytglokgacghadbaa", sum := "472c6e6fc68a6d1f600f98c230b7a4713a2c853d77bb09209a912e46cff1b496", func := "decompiler/decompilerlaw24.DominatorOrder", spec := "dominatorOrder", unfollowed := true, recurses := true, loops := true, apart := false }
def DominatorOrderSaid : Prop := dominatorOrderRow.holds Try.pinned (OpenSpec.ofChange dominatorOrderSpec)

/-- ITS FALSE NEIGHBOUR: 'it returns false'. Refute it at one input. -/
def dominatorOrderWrong : ChangeSpec := { name := "dominatorOrder", fn := fun _ => fun
  | [d] => { results := [.lit (.bool false)], args := [d] }
  | _ => none }
def DominatorOrderWrongFalsely : Prop := dominatorOrderRow.holds Try.pinned (OpenSpec.ofChange dominatorOrderWrong)

/-- 'decompilerlaw24.DominatorFrontiers': WHATEVER THE INPUT: true; the input reads as it did. -/
def dominatorFrontiersSpec : ChangeSpec := { name := "dominatorFrontiers", fn := fun _ => fun
  | [d] => { results := [.lit (.bool true)], args := [d] }
  | _ => none }
def dominatorFrontiersRow : OpenClaim := { program := "ytglokgacghadbaa", sum := "472c6e6fc68a6d1f600f98c230b7a4713a2c853d77bb09209a912e46cff1b496", func := "decompiler/decompilerlaw24.DominatorFrontiers", spec := "dominatorFrontiers", unfollowed := true, recurses := true, loops := true, apart := false }
def DominatorFrontiersSaid : Prop := dominatorFrontiersRow.holds Try.pinned (OpenSpec.ofChange dominatorFrontiersSpec)

/-- ITS FALSE NEIGHBOUR: 'it returns false'. Refute it at one input. -/
def dominatorFrontiersWrong : ChangeSpec := { name := "dominatorFrontiers", fn := fun _ => fun
  | [d] => { results := [.lit (.bool false)], args := [d] }
  | _ => none }
def DominatorFrontiersWrongFalsely : Prop := dominatorFrontiersRow.holds Try.pinned (OpenSpec.ofChange dominatorFrontiersWrong)

/-- 'decompilerlaw24.DominatorPredecessors': WHATEVER THE INPUT: true; the input reads as it did. -/
def dominatorPredecessorsSpec : ChangeSpec := { name := "dominatorPredecessors", fn := fun _ => fun
  | [d] => { results := [.lit (.bool true)], args := [d] }
  | _ => none }
def dominatorPredecessorsRow : OpenClaim := { program := "ytglokgacghadbaa", sum := "472c6e6fc68a6d1f600f98c230b7a4713a2c853d77bb09209a912e46cff1b496", func := "decompiler/decompilerlaw24.DominatorPredecessors", spec := "dominatorPredecessors", unfollowed := true, recurses := true, loops := true, apart := false }
def DominatorPredecessorsSaid : Prop := dominatorPredecessorsRow.holds Try.pinned (OpenSpec.ofChange dominatorPredecessorsSpec)

/-- ITS FALSE NEIGHBOUR: 'it returns false'. Refute it at one input. -/
def dominatorPredecessorsWrong : ChangeSpec := { name := "dominatorPredecessors", fn := fun _ => fun
  | [d] => { results := [.lit (.bool false)], args := [d] }
  | _ => none }
def DominatorPredecessorsWrongFalsely : Prop := dominatorPredecessorsRow.holds Try.pinned (OpenSpec.ofChange dominatorPredecessorsWrong)

/-- 'decompilerlaw24.DominatorPost': WHATEVER THE INPUT: true; the input reads as it did. -/
def dominatorPostSpec : ChangeSpec := { name := "dominatorPost", fn := fun _ => fun
  | [d1, d2, d3] => { results := [.lit (.bool true)], args := [d1, d2, d3] }
  | _ => none }
def dominatorPostRow : OpenClaim := { program := "ytglokgacghadbaa", sum := "472c6e6fc68a6d1f600f98c230b7a4713a2c853d77bb09209a912e46cff1b496", func := "decompiler/decompilerlaw24.DominatorPost", spec := "dominatorPost", unfollowed := true, recurses := true, loops := true, apart := false }
def DominatorPostSaid : Prop := dominatorPostRow.holds Try.pinned (OpenSpec.ofChange dominatorPostSpec)

/-- ITS FALSE NEIGHBOUR: 'it returns false'. Refute it at one input. -/
def dominatorPostWrong : ChangeSpec := { name := "dominatorPost", fn := fun _ => fun
  | [d1, d2, d3] => { results := [.lit (.bool false)], args := [d1, d2, d3] }
  | _ => none }
def DominatorPostWrongFalsely : Prop := dominatorPostRow.holds Try.pinned (OpenSpec.ofChange dominatorPostWrong)

/-- 'decompilerlaw24.DominatorLists': WHATEVER THE INPUT: true; the input reads as it did. -/
def dominatorListsSpec : ChangeSpec := { name := "dominatorLists", fn := fun _ => fun
  | [d1, d2, d3] => { results := [.lit (.bool true)], args := [d1, d2, d3] }
  | _ => none }
def dominatorListsRow : OpenClaim := { program := "ytglokgacghadbaa", sum := "472c6e6fc68a6d1f600f98c230b7a4713a2c853d77bb09209a912e46cff1b496", func := "decompiler/decompilerlaw24.DominatorLists", spec := "dominatorLists", unfollowed := true, recurses := true, apart := false }
def DominatorListsSaid : Prop := dominatorListsRow.holds Try.pinned (OpenSpec.ofChange dominatorListsSpec)

/-- ITS FALSE NEIGHBOUR: 'it returns false'. Refute it at one input. -/
def dominatorListsWrong : ChangeSpec := { name := "dominatorLists", fn := fun _ => fun
  | [d1, d2, d3] => { results := [.lit (.bool false)], args := [d1, d2, d3] }
  | _ => none }
def DominatorListsWrongFalsely : Prop := dominatorListsRow.holds Try.pinned (OpenSpec.ofChange dominatorListsWrong)

/- THE SECOND FORM. 'bulk': how many values and letters a reading holds, each counted each time it is reached (what is shared counts as often as it is met; a slice's spare places count too). A statement '..UptoSaid' is the law's where the arguments, and the package variables that the reading takes, are together of bulk at most 1048576: NARROWER than '..Said'. Prove '..Said' where nothing that the law and all that it calls make is longer than what came in: it says more and counts as full. Else prove '..UptoSaid'. A law counts once. -/
mutual
def uptoBulk {H : Type} : DataW H → Nat
  | .lit (.string bytes) => bytes.length + 1
  | .lit _ => 1
  | .nil => 1
  | .ptr d => uptoBulk d + 1
  | .slice elems spare => uptoBulkAll elems + uptoBulkAll spare + 1
  | .agg parts => uptoBulkAll parts + 1
  | .iface _ d => uptoBulk d + 1
  | .map entries => uptoBulkEntries entries + 1
  | .held _ => 1
def uptoBulkAll {H : Type} : List (DataW H) → Nat
  | [] => 0
  | d :: r => uptoBulk d + uptoBulkAll r
def uptoBulkEntries {H : Type} : List (Lit × DataW H) → Nat
  | [] => 0
  | x :: r => uptoBulkEntry x + uptoBulkEntries r
def uptoBulkEntry {H : Type} : Lit × DataW H → Nat
  | (.string bytes, d) => bytes.length + uptoBulk d + 1
  | (_, d) => uptoBulk d + 1
 end
def uptoSmall : (H : Type) → List (DataW H) → Bool := fun _ ds => decide (uptoBulkAll ds ≤ 1048576)
def OpenSpec.upto (s : _root_.Go.ChangeSpec) : _root_.Go.OpenSpec := { _root_.Go.OpenSpec.ofChange s with cond := some uptoSmall }

/-- 'decompilerlaw24.DominatorPaths', WHERE WHAT IT READS IS OF BULK AT MOST 1048576: true; the input reads as it did. -/
def dominatorPathsUptoRow : OpenClaim := { program := "ytglokgacghadbaa", sum := "472c6e6fc68a6d1f600f98c230b7a4713a2c853d77bb09209a912e46cff1b496", func := "decompiler/decompilerlaw24.DominatorPaths", spec := "dominatorPaths", unfollowed := true, recurses := true, loops := true, apart := false, narrowed := true }
def DominatorPathsUptoSaid : Prop := dominatorPathsUptoRow.holds Try.pinned (OpenSpec.upto dominatorPathsSpec)

/-- 'decompilerlaw24.DominatorTree', WHERE WHAT IT READS IS OF BULK AT MOST 1048576: true; the input reads as it did. -/
def dominatorTreeUptoRow : OpenClaim := { program := "ytglokgacghadbaa", sum := "472c6e6fc68a6d1f600f98c230b7a4713a2c853d77bb09209a912e46cff1b496", func := "decompiler/decompilerlaw24.DominatorTree", spec := "dominatorTree", unfollowed := true, recurses := true, loops := true, apart := false, narrowed := true }
def DominatorTreeUptoSaid : Prop := dominatorTreeUptoRow.holds Try.pinned (OpenSpec.upto dominatorTreeSpec)

/-- 'decompilerlaw24.DominatorRemoval', WHERE WHAT IT READS IS OF BULK AT MOST 1048576: true; the input reads as it did. -/
def dominatorRemovalUptoRow : OpenClaim := { program := "ytglokgacghadbaa", sum := "472c6e6fc68a6d1f600f98c230b7a4713a2c853d77bb09209a912e46cff1b496", func := "decompiler/decompilerlaw24.DominatorRemoval", spec := "dominatorRemoval", unfollowed := true, recurses := true, loops := true, apart := false, narrowed := true }
def DominatorRemovalUptoSaid : Prop := dominatorRemovalUptoRow.holds Try.pinned (OpenSpec.upto dominatorRemovalSpec)

/-- 'decompilerlaw24.DominatorOrder', WHERE WHAT IT READS IS OF BULK AT MOST 1048576: true; the input reads as it did. -/
def dominatorOrderUptoRow : OpenClaim := { program := "ytglokgacghadbaa", sum := "472c6e6fc68a6d1f600f98c230b7a4713a2c853d77bb09209a912e46cff1b496", func := "decompiler/decompilerlaw24.DominatorOrder", spec := "dominatorOrder", unfollowed := true, recurses := true, loops := true, apart := false, narrowed := true }
def DominatorOrderUptoSaid : Prop := dominatorOrderUptoRow.holds Try.pinned (OpenSpec.upto dominatorOrderSpec)

/-- 'decompilerlaw24.DominatorFrontiers', WHERE WHAT IT READS IS OF BULK AT MOST 1048576: true; the input reads as it did. -/
def dominatorFrontiersUptoRow : OpenClaim := { program := "ytglokgacghadbaa", sum := "472c6e6fc68a6d1f600f98c230b7a4713a2c853d77bb09209a912e46cff1b496", func := "decompiler/decompilerlaw24.DominatorFrontiers", spec := "dominatorFrontiers", unfollowed := true, recurses := true, loops := true, apart := false, narrowed := true }
def DominatorFrontiersUptoSaid : Prop := dominatorFrontiersUptoRow.holds Try.pinned (OpenSpec.upto dominatorFrontiersSpec)

/-- 'decompilerlaw24.DominatorPredecessors', WHERE WHAT IT READS IS OF BULK AT MOST 1048576: true; the input reads as it did. -/
def dominatorPredecessorsUptoRow : OpenClaim := { program := "ytglokgacghadbaa", sum := "472c6e6fc68a6d1f600f98c230b7a4713a2c853d77bb09209a912e46cff1b496", func := "decompiler/decompilerlaw24.DominatorPredecessors", spec := "dominatorPredecessors", unfollowed := true, recurses := true, loops := true, apart := false, narrowed := true }
def DominatorPredecessorsUptoSaid : Prop := dominatorPredecessorsUptoRow.holds Try.pinned (OpenSpec.upto dominatorPredecessorsSpec)

/-- 'decompilerlaw24.DominatorPost', WHERE WHAT IT READS IS OF BULK AT MOST 1048576: true; the input reads as it did. -/
def dominatorPostUptoRow : OpenClaim := { program := "ytglokgacghadbaa", sum := "472c6e6fc68a6d1f600f98c230b7a4713a2c853d77bb09209a912e46cff1b496", func := "decompiler/decompilerlaw24.DominatorPost", spec := "dominatorPost", unfollowed := true, recurses := true, loops := true, apart := false, narrowed := true }
def DominatorPostUptoSaid : Prop := dominatorPostUptoRow.holds Try.pinned (OpenSpec.upto dominatorPostSpec)

/-- 'decompilerlaw24.DominatorLists', WHERE WHAT IT READS IS OF BULK AT MOST 1048576: true; the input reads as it did. -/
def dominatorListsUptoRow : OpenClaim := { program := "ytglokgacghadbaa", sum := "472c6e6fc68a6d1f600f98c230b7a4713a2c853d77bb09209a912e46cff1b496", func := "decompiler/decompilerlaw24.DominatorLists", spec := "dominatorLists", unfollowed := true, recurses := true, apart := false, narrowed := true }
def DominatorListsUptoSaid : Prop := dominatorListsUptoRow.holds Try.pinned (OpenSpec.upto dominatorListsSpec)

end Rows
end Go.Proofs.Ytglokgacghadbaa
