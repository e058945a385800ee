/-
  NARROWER THAN 'FOR EVERY INPUT', by the rows' own cells (each row's printed sentence says how): TraceGraph: loops · TraceEdges: loops · TracePaths: loops · TracePathsCover: loops · TraceNode: loops · TraceBeginning: loops · TraceEqual: loops · TopStructure: loops.
  DERIVED. THE GIVEN ROWS OF THIS SEAT. 8 by the template 'for every input the law returns true; each argument reads behind the call as it read before'; 0 by the template 'total and deterministic' (their statements: YtjcbhpmmngfmeaaGreatTotals.lean).
  GIVEN WITH THE SEED: the statements are not yours to turn. If you find one false, say at which input.
  Laid BY PROGRAM, IN A SANDBOX (cutbox-rows.mjs): the forced cells as the released guide's own fill.sh prints them over the translation e5ebe09edc3addaf… (all of the seat's roots in one cut). By AI agents, Wed Nov 11 2026. No macro, syntax, notation, axiom, sorry.
-/
import Derived.Test.YtjcbhpmmngfmeaaGreatChecked
import GoSem.Claim
import GoSem.ClaimJoined
import GoSem.ClaimMapViews
import Derived.JoinedTies
import Derived.KernelRfl
namespace Go.Proofs.YtjcbhpmmngfmeaaGreat
/- THE CELL 'sum', in the pinned program and in every row, IS THE sha256 OF THE DUMP (.gsa) THAT YtjcbhpmmngfmeaaGreatProg.lean LOADS. Nothing in Lean hashes anything: it is a label: what it is worth is what the hold of that sum in a sandbox is worth. -/
noncomputable def Tryz.pinned : Pinned := { name := "ytjcbhpmmngfmeaagreat", sum := "e5ebe09edc3addaf054ee1fbdba65f520aa4e7f7318e732ee9c8d1572798cf23", checked := Tryz.checked }
namespace Rows
def none {H : Type} : Left H := { results := [], args := [] }

/-- 'decompilerlaw37.TraceGraph': WHATEVER THE INPUT: true; the input reads as it did. -/
def traceGraphSpec : ChangeSpec := { name := "traceGraph", fn := fun _ => fun
  | [d1, d2, d3] => { results := [.lit (.bool true)], args := [d1, d2, d3] }
  | _ => none }
def traceGraphRow : OpenClaim := { program := "ytjcbhpmmngfmeaagreat", sum := "e5ebe09edc3addaf054ee1fbdba65f520aa4e7f7318e732ee9c8d1572798cf23", func := "decompiler/decompilerlaw37.TraceGraph", spec := "traceGraph", unfollowed := true, recurses := true, loops := true, apart := false }
def TraceGraphSaid : Prop := traceGraphRow.holds Tryz.pinned (OpenSpec.ofChange traceGraphSpec)

/-- ITS FALSE NEIGHBOUR: 'it returns false'. Refute it at one input. -/
def traceGraphWrong : ChangeSpec := { name := "traceGraph", fn := fun _ => fun
  | [d1, d2, d3] => { results := [.lit (.bool false)], args := [d1, d2, d3] }
  | _ => none }
def TraceGraphWrongFalsely : Prop := traceGraphRow.holds Tryz.pinned (OpenSpec.ofChange traceGraphWrong)

/-- 'decompilerlaw37.TraceEdges': WHATEVER THE INPUT: true; the input reads as it did. -/
def traceEdgesSpec : ChangeSpec := { name := "traceEdges", fn := fun _ => fun
  | [d1, d2, d3] => { results := [.lit (.bool true)], args := [d1, d2, d3] }
  | _ => none }
def traceEdgesRow : OpenClaim := { program := "ytjcbhpmmngfmeaagreat", sum := "e5ebe09edc3addaf054ee1fbdba65f520aa4e7f7318e732ee9c8d1572798cf23", func := "decompiler/decompilerlaw37.TraceEdges", spec := "traceEdges", unfollowed := true, recurses := true, loops := true, apart := false }
def TraceEdgesSaid : Prop := traceEdgesRow.holds Tryz.pinned (OpenSpec.ofChange traceEdgesSpec)

/-- ITS FALSE NEIGHBOUR: 'it returns false'. Refute it at one input. -/
def traceEdgesWrong : ChangeSpec := { name := "traceEdges", fn := fun _ => fun
  | [d1, d2, d3] => { results := [.lit (.bool false)], args := [d1, d2, d3] }
  | _ => none }
def TraceEdgesWrongFalsely : Prop := traceEdgesRow.holds Tryz.pinned (OpenSpec.ofChange traceEdgesWrong)

/-- 'decompilerlaw37.TracePaths': WHATEVER THE INPUT: true; the input reads as it did. -/
def tracePathsSpec : ChangeSpec := { name := "tracePaths", fn := fun _ => fun
  | [d1, d2] => { results := [.lit (.bool true)], args := [d1, d2] }
  | _ => none }
def tracePathsRow : OpenClaim := { program := "ytjcbhpmmngfmeaagreat", sum := "e5ebe09edc3addaf054ee1fbdba65f520aa4e7f7318e732ee9c8d1572798cf23", func := "decompiler/decompilerlaw37.TracePaths", spec := "tracePaths", unfollowed := true, recurses := true, loops := true, apart := false }
def TracePathsSaid : Prop := tracePathsRow.holds Tryz.pinned (OpenSpec.ofChange tracePathsSpec)

/-- ITS FALSE NEIGHBOUR: 'it returns false'. Refute it at one input. -/
def tracePathsWrong : ChangeSpec := { name := "tracePaths", fn := fun _ => fun
  | [d1, d2] => { results := [.lit (.bool false)], args := [d1, d2] }
  | _ => none }
def TracePathsWrongFalsely : Prop := tracePathsRow.holds Tryz.pinned (OpenSpec.ofChange tracePathsWrong)

/-- 'decompilerlaw37.TracePathsCover': WHATEVER THE INPUT: true; the input reads as it did. -/
def tracePathsCoverSpec : ChangeSpec := { name := "tracePathsCover", fn := fun _ => fun
  | [d1, d2, d3] => { results := [.lit (.bool true)], args := [d1, d2, d3] }
  | _ => none }
def tracePathsCoverRow : OpenClaim := { program := "ytjcbhpmmngfmeaagreat", sum := "e5ebe09edc3addaf054ee1fbdba65f520aa4e7f7318e732ee9c8d1572798cf23", func := "decompiler/decompilerlaw37.TracePathsCover", spec := "tracePathsCover", unfollowed := true, recurses := true, loops := true, apart := false }
def TracePathsCoverSaid : Prop := tracePathsCoverRow.holds Tryz.pinned (OpenSpec.ofChange tracePathsCoverSpec)

/-- ITS FALSE NEIGHBOUR: 'it returns false'. Refute it at one input. -/
def tracePathsCoverWrong : ChangeSpec := { name := "tracePathsCover", fn := fun _ => fun
  | [d1, d2, d3] => { results := [.lit (.bool false)], args := [d1, d2, d3] }
  | _ => none }
def TracePathsCoverWrongFalsely : Prop := tracePathsCoverRow.holds Tryz.pinned (OpenSpec.ofChange tracePathsCoverWrong)

/-- 'decompilerlaw37.TraceNode': WHATEVER THE INPUT: true; the input reads as it did. -/
def traceNodeSpec : ChangeSpec := { name := "traceNode", fn := fun _ => fun
  | [d1, d2, d3, d4] => { results := [.lit (.bool true)], args := [d1, d2, d3, d4] }
  | _ => none }
def traceNodeRow : OpenClaim := { program := "ytjcbhpmmngfmeaagreat", sum := "e5ebe09edc3addaf054ee1fbdba65f520aa4e7f7318e732ee9c8d1572798cf23", func := "decompiler/decompilerlaw37.TraceNode", spec := "traceNode", unfollowed := true, recurses := true, loops := true, apart := false }
def TraceNodeSaid : Prop := traceNodeRow.holds Tryz.pinned (OpenSpec.ofChange traceNodeSpec)

/-- ITS FALSE NEIGHBOUR: 'it returns false'. Refute it at one input. -/
def traceNodeWrong : ChangeSpec := { name := "traceNode", fn := fun _ => fun
  | [d1, d2, d3, d4] => { results := [.lit (.bool false)], args := [d1, d2, d3, d4] }
  | _ => none }
def TraceNodeWrongFalsely : Prop := traceNodeRow.holds Tryz.pinned (OpenSpec.ofChange traceNodeWrong)

/-- 'decompilerlaw37.TraceBeginning': WHATEVER THE INPUT: true; the input reads as it did. -/
def traceBeginningSpec : ChangeSpec := { name := "traceBeginning", fn := fun _ => fun
  | [d1, d2, d3, d4] => { results := [.lit (.bool true)], args := [d1, d2, d3, d4] }
  | _ => none }
def traceBeginningRow : OpenClaim := { program := "ytjcbhpmmngfmeaagreat", sum := "e5ebe09edc3addaf054ee1fbdba65f520aa4e7f7318e732ee9c8d1572798cf23", func := "decompiler/decompilerlaw37.TraceBeginning", spec := "traceBeginning", unfollowed := true, recurses := true, loops := true, apart := false }
def TraceBeginningSaid : Prop := traceBeginningRow.holds Tryz.pinned (OpenSpec.ofChange traceBeginningSpec)

/-- ITS FALSE NEIGHBOUR: 'it returns false'. Refute it at one input. -/
def traceBeginningWrong : ChangeSpec := { name := "traceBeginning", fn := fun _ => fun
  | [d1, d2, d3, d4] => { results := [.lit (.bool false)], args := [d1, d2, d3, d4] }
  | _ => none }
def TraceBeginningWrongFalsely : Prop := traceBeginningRow.holds Tryz.pinned (OpenSpec.ofChange traceBeginningWrong)

/-- 'decompilerlaw37.TraceEqual': WHATEVER THE INPUT: true; the input reads as it did. -/
def traceEqualSpec : ChangeSpec := { name := "traceEqual", fn := fun _ => fun
  | [d1, d2, d3] => { results := [.lit (.bool true)], args := [d1, d2, d3] }
  | _ => none }
def traceEqualRow : OpenClaim := { program := "ytjcbhpmmngfmeaagreat", sum := "e5ebe09edc3addaf054ee1fbdba65f520aa4e7f7318e732ee9c8d1572798cf23", func := "decompiler/decompilerlaw37.TraceEqual", spec := "traceEqual", unfollowed := true, recurses := true, loops := true, apart := false }
def TraceEqualSaid : Prop := traceEqualRow.holds Tryz.pinned (OpenSpec.ofChange traceEqualSpec)

/-- ITS FALSE NEIGHBOUR: 'it returns false'. Refute it at one input. -/
def traceEqualWrong : ChangeSpec := { name := "traceEqual", fn := fun _ => fun
  | [d1, d2, d3] => { results := [.lit (.bool false)], args := [d1, d2, d3] }
  | _ => none }
def TraceEqualWrongFalsely : Prop := traceEqualRow.holds Tryz.pinned (OpenSpec.ofChange traceEqualWrong)

/-- 'decompilertop.TopStructure': WHATEVER THE INPUT: true; the input reads as it did. -/
def topStructureSpec : ChangeSpec := { name := "topStructure", fn := fun _ => fun
  | [d1, d2] => { results := [.lit (.bool true)], args := [d1, d2] }
  | _ => none }
def topStructureRow : OpenClaim := { program := "ytjcbhpmmngfmeaagreat", sum := "e5ebe09edc3addaf054ee1fbdba65f520aa4e7f7318e732ee9c8d1572798cf23", func := "decompiler/decompilertop.TopStructure", spec := "topStructure", inPlace := ["maps.clone"], unfollowed := true, recurses := true, loops := true, apart := false }
def TopStructureSaid : Prop := topStructureRow.holds Tryz.pinned (OpenSpec.ofChange topStructureSpec)

/-- ITS FALSE NEIGHBOUR: 'it returns false'. Refute it at one input. -/
def topStructureWrong : ChangeSpec := { name := "topStructure", fn := fun _ => fun
  | [d1, d2] => { results := [.lit (.bool false)], args := [d1, d2] }
  | _ => none }
def TopStructureWrongFalsely : Prop := topStructureRow.holds Tryz.pinned (OpenSpec.ofChange topStructureWrong)

/- THE SECOND FORM. 'bulk': how many values and letters a reading holds, each counted each time it is reached (what is shared counts as often as it is met; a slice's spare places count too). A statement '..UptoSaid' is the law's where the arguments, and the package variables that the reading takes, are together of bulk at most 1048576: NARROWER than '..Said'. Prove '..Said' where nothing that the law and all that it calls make is longer than what came in: it says more and counts as full. Else prove '..UptoSaid'. A law counts once. -/
mutual
def uptoBulk {H : Type} : DataW H → Nat
  | .lit (.string bytes) => bytes.length + 1
  | .lit _ => 1
  | .nil => 1
  | .ptr d => uptoBulk d + 1
  | .slice elems spare => uptoBulkAll elems + uptoBulkAll spare + 1
  | .agg parts => uptoBulkAll parts + 1
  | .iface _ d => uptoBulk d + 1
  | .map entries => uptoBulkEntries entries + 1
  | .held _ => 1
def uptoBulkAll {H : Type} : List (DataW H) → Nat
  | [] => 0
  | d :: r => uptoBulk d + uptoBulkAll r
def uptoBulkEntries {H : Type} : List (Lit × DataW H) → Nat
  | [] => 0
  | x :: r => uptoBulkEntry x + uptoBulkEntries r
def uptoBulkEntry {H : Type} : Lit × DataW H → Nat
  | (.string bytes, d) => bytes.length + uptoBulk d + 1
  | (_, d) => uptoBulk d + 1
 end
def uptoSmall : (H : Type) → List (DataW H) → Bool := fun _ ds => decide (uptoBulkAll ds ≤ 1048576)
def OpenSpec.upto (s : _root_.Go.ChangeSpec) : _root_.Go.OpenSpec := { _root_.Go.OpenSpec.ofChange s with cond := some uptoSmall }

/-- 'decompilerlaw37.TraceGraph', WHERE WHAT IT READS IS OF BULK AT MOST 1048576: true; the input reads as it did. -/
def traceGraphUptoRow : OpenClaim := { program := "ytjcbhpmmngfmeaagreat", sum := "e5ebe09edc3addaf054ee1fbdba65f520aa4e7f7318e732ee9c8d1572798cf23", func := "decompiler/decompilerlaw37.TraceGraph", spec := "traceGraph", unfollowed := true, recurses := true, loops := true, apart := false, narrowed := true }
def TraceGraphUptoSaid : Prop := traceGraphUptoRow.holds Tryz.pinned (OpenSpec.upto traceGraphSpec)

/-- 'decompilerlaw37.TraceEdges', WHERE WHAT IT READS IS OF BULK AT MOST 1048576: true; the input reads as it did. -/
def traceEdgesUptoRow : OpenClaim := { program := "ytjcbhpmmngfmeaagreat", sum := "e5ebe09edc3addaf054ee1fbdba65f520aa4e7f7318e732ee9c8d1572798cf23", func := "decompiler/decompilerlaw37.TraceEdges", spec := "traceEdges", unfollowed := true, recurses := true, loops := true, apart := false, narrowed := true }
def TraceEdgesUptoSaid : Prop := traceEdgesUptoRow.holds Tryz.pinned (OpenSpec.upto traceEdgesSpec)

/-- 'decompilerlaw37.TracePaths', WHERE WHAT IT READS IS OF BULK AT MOST 1048576: true; the input reads as it did. -/
def tracePathsUptoRow : OpenClaim := { program := "ytjcbhpmmngfmeaagreat", sum := "e5ebe09edc3addaf054ee1fbdba65f520aa4e7f7318e732ee9c8d1572798cf23", func := "decompiler/decompilerlaw37.TracePaths", spec := "tracePaths", unfollowed := true, recurses := true, loops := true, apart := false, narrowed := true }
def TracePathsUptoSaid : Prop := tracePathsUptoRow.holds Tryz.pinned (OpenSpec.upto tracePathsSpec)

/-- 'decompilerlaw37.TracePathsCover', WHERE WHAT IT READS IS OF BULK AT MOST 1048576: true; the input reads as it did. -/
def tracePathsCoverUptoRow : OpenClaim := { program := "ytjcbhpmmngfmeaagreat", sum := "e5ebe09edc3addaf054ee1fbdba65f520aa4e7f7318e732ee9c8d1572798cf23", func := "decompiler/decompilerlaw37.TracePathsCover", spec := "tracePathsCover", unfollowed := true, recurses := true, loops := true, apart := false, narrowed := true }
def TracePathsCoverUptoSaid : Prop := tracePathsCoverUptoRow.holds Tryz.pinned (OpenSpec.upto tracePathsCoverSpec)

/-- 'decompilerlaw37.TraceNode', WHERE WHAT IT READS IS OF BULK AT MOST 1048576: true; the input reads as it did. -/
def traceNodeUptoRow : OpenClaim := { program := "ytjcbhpmmngfmeaagreat", sum := "e5ebe09edc3addaf054ee1fbdba65f520aa4e7f7318e732ee9c8d1572798cf23", func := "decompiler/decompilerlaw37.TraceNode", spec := "traceNode", unfollowed := true, recurses := true, loops := true, apart := false, narrowed := true }
def TraceNodeUptoSaid : Prop := traceNodeUptoRow.holds Tryz.pinned (OpenSpec.upto traceNodeSpec)

/-- 'decompilerlaw37.TraceBeginning', WHERE WHAT IT READS IS OF BULK AT MOST 1048576: true; the input reads as it did. -/
def traceBeginningUptoRow : OpenClaim := { program := "ytjcbhpmmngfmeaagreat", sum := "e5ebe09edc3addaf054ee1fbdba65f520aa4e7f7318e732ee9c8d1572798cf23", func := "decompiler/decompilerlaw37.TraceBeginning", spec := "traceBeginning", unfollowed := true, recurses := true, loops := true, apart := false, narrowed := true }
def TraceBeginningUptoSaid : Prop := traceBeginningUptoRow.holds Tryz.pinned (OpenSpec.upto traceBeginningSpec)

/-- 'decompilerlaw37.TraceEqual', WHERE WHAT IT READS IS OF BULK AT MOST 1048576: true; the input reads as it did. -/
def traceEqualUptoRow : OpenClaim := { program := "ytjcbhpmmngfmeaagreat", sum := "e5ebe09edc3addaf054ee1fbdba65f520aa4e7f7318e732ee9c8d1572798cf23", func := "decompiler/decompilerlaw37.TraceEqual", spec := "traceEqual", unfollowed := true, recurses := true, loops := true, apart := false, narrowed := true }
def TraceEqualUptoSaid : Prop := traceEqualUptoRow.holds Tryz.pinned (OpenSpec.upto traceEqualSpec)

/-- 'decompilertop.TopStructure', WHERE WHAT IT READS IS OF BULK AT MOST 1048576: true; the input reads as it did. -/
def topStructureUptoRow : OpenClaim := { program := "ytjcbhpmmngfmeaagreat", sum := "e5ebe09edc3addaf054ee1fbdba65f520aa4e7f7318e732ee9c8d1572798cf23", func := "decompiler/decompilertop.TopStructure", spec := "topStructure", inPlace := ["maps.clone"], unfollowed := true, recurses := true, loops := true, apart := false, narrowed := true }
def TopStructureUptoSaid : Prop := topStructureUptoRow.holds Tryz.pinned (OpenSpec.upto topStructureSpec)

end Rows
end Go.Proofs.YtjcbhpmmngfmeaaGreat
