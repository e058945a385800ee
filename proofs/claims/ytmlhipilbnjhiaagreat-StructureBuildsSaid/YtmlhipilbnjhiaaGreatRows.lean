/-
  NARROWER THAN 'FOR EVERY INPUT', by the rows' own cells (each row's printed sentence says how): StructureOnce: loops · StructureBuilds: loops · StructureChecks: loops · StructureCounts: loops · StructureSimplifies: loops · StructureGotos: loops · StructureLoops: loops.
  DERIVED. THE GIVEN ROWS OF THIS SEAT. 7 by the template 'for every input the law returns true; each argument reads behind the call as it read before'; 0 by the template 'total and deterministic' (their statements: YtmlhipilbnjhiaaGreatTotals.lean).
  GIVEN WITH THE SEED: the statements are not yours to turn. If you find one false, say at which input.
  Laid BY PROGRAM, IN A SANDBOX (cutbox-rows.mjs): the forced cells as the released guide's own fill.sh prints them over the translation 7204fca3c4451921… (all of the seat's roots in one cut). By AI agents, Wed Nov 11 2026. No macro, syntax, notation, axiom, sorry.
-/
import Derived.Test.YtmlhipilbnjhiaaGreatChecked
import GoSem.Claim
import GoSem.ClaimJoined
import GoSem.ClaimMapViews
import Derived.JoinedTies
import Derived.KernelRfl
namespace Go.Proofs.YtmlhipilbnjhiaaGreat
/- THE CELL 'sum', in the pinned program and in every row, IS THE sha256 OF THE DUMP (.gsa) THAT YtmlhipilbnjhiaaGreatProg.lean LOADS. Nothing in Lean hashes anything: it is a label: what it is worth is what the hold of that sum in a sandbox is worth. -/
noncomputable def Tryz.pinned : Pinned := { name := "ytmlhipilbnjhiaagreat", sum := "7204fca3c4451921ce6ea6175643d6e09e4c71a5e39b095ab0191afd406216d6", checked := Tryz.checked }
namespace Rows
def none {H : Type} : Left H := { results := [], args := [] }

/-- 'decompilerlaw36.StructureOnce': WHATEVER THE INPUT: true; the input reads as it did. -/
def structureOnceSpec : ChangeSpec := { name := "structureOnce", fn := fun _ => fun
  | [d] => { results := [.lit (.bool true)], args := [d] }
  | _ => none }
def structureOnceRow : OpenClaim := { program := "ytmlhipilbnjhiaagreat", sum := "7204fca3c4451921ce6ea6175643d6e09e4c71a5e39b095ab0191afd406216d6", func := "decompiler/decompilerlaw36.StructureOnce", spec := "structureOnce", unfollowed := true, recurses := true, loops := true, apart := false }
def StructureOnceSaid : Prop := structureOnceRow.holds Tryz.pinned (OpenSpec.ofChange structureOnceSpec)

/-- ITS FALSE NEIGHBOUR: 'it returns false'. Refute it at one input. -/
def structureOnceWrong : ChangeSpec := { name := "structureOnce", fn := fun _ => fun
  | [d] => { results := [.lit (.bool false)], args := [d] }
  | _ => none }
def StructureOnceWrongFalsely : Prop := structureOnceRow.holds Tryz.pinned (OpenSpec.ofChange structureOnceWrong)

/-- 'decompilerlaw36.StructureBuilds': WHATEVER THE INPUT: true; the input reads as it did. -/
def structureBuildsSpec : ChangeSpec := { name := "structureBuilds", fn := fun _ => fun
  | [d] => { results := [.lit (.bool true)], args := [d] }
  | _ => none }
def structureBuildsRow : OpenClaim := { program := "ytmlhipilbnjhiaagreat", sum := "7204fca3c4451921ce6ea6175643d6e09e4c71a5e39b095ab0191afd406216d6", func := "decompiler/decompilerlaw36.StructureBuilds", spec := "structureBuilds", unfollowed := true, recurses := true, loops := true, apart := false }
def StructureBuildsSaid : Prop := structureBuildsRow.holds Tryz.pinned (OpenSpec.ofChange structureBuildsSpec)

/-- ITS FALSE NEIGHBOUR: 'it returns false'. Refute it at one input. -/
def structureBuildsWrong : ChangeSpec := { name := "structureBuilds", fn := fun _ => fun
  | [d] => { results := [.lit (.bool false)], args := [d] }
  | _ => none }
def StructureBuildsWrongFalsely : Prop := structureBuildsRow.holds Tryz.pinned (OpenSpec.ofChange structureBuildsWrong)

/-- 'decompilerlaw36.StructureChecks': WHATEVER THE INPUT: true; the input reads as it did. -/
def structureChecksSpec : ChangeSpec := { name := "structureChecks", fn := fun _ => fun
  | [d1, d2] => { results := [.lit (.bool true)], args := [d1, d2] }
  | _ => none }
def structureChecksRow : OpenClaim := { program := "ytmlhipilbnjhiaagreat", sum := "7204fca3c4451921ce6ea6175643d6e09e4c71a5e39b095ab0191afd406216d6", func := "decompiler/decompilerlaw36.StructureChecks", spec := "structureChecks", unfollowed := true, recurses := true, loops := true, apart := false }
def StructureChecksSaid : Prop := structureChecksRow.holds Tryz.pinned (OpenSpec.ofChange structureChecksSpec)

/-- ITS FALSE NEIGHBOUR: 'it returns false'. Refute it at one input. -/
def structureChecksWrong : ChangeSpec := { name := "structureChecks", fn := fun _ => fun
  | [d1, d2] => { results := [.lit (.bool false)], args := [d1, d2] }
  | _ => none }
def StructureChecksWrongFalsely : Prop := structureChecksRow.holds Tryz.pinned (OpenSpec.ofChange structureChecksWrong)

/-- 'decompilerlaw36.StructureCounts': WHATEVER THE INPUT: true; the input reads as it did. -/
def structureCountsSpec : ChangeSpec := { name := "structureCounts", fn := fun _ => fun
  | [d] => { results := [.lit (.bool true)], args := [d] }
  | _ => none }
def structureCountsRow : OpenClaim := { program := "ytmlhipilbnjhiaagreat", sum := "7204fca3c4451921ce6ea6175643d6e09e4c71a5e39b095ab0191afd406216d6", func := "decompiler/decompilerlaw36.StructureCounts", spec := "structureCounts", unfollowed := true, recurses := true, loops := true, apart := false }
def StructureCountsSaid : Prop := structureCountsRow.holds Tryz.pinned (OpenSpec.ofChange structureCountsSpec)

/-- ITS FALSE NEIGHBOUR: 'it returns false'. Refute it at one input. -/
def structureCountsWrong : ChangeSpec := { name := "structureCounts", fn := fun _ => fun
  | [d] => { results := [.lit (.bool false)], args := [d] }
  | _ => none }
def StructureCountsWrongFalsely : Prop := structureCountsRow.holds Tryz.pinned (OpenSpec.ofChange structureCountsWrong)

/-- 'decompilerlaw36.StructureSimplifies': WHATEVER THE INPUT: true; the input reads as it did. -/
def structureSimplifiesSpec : ChangeSpec := { name := "structureSimplifies", fn := fun _ => fun
  | [d] => { results := [.lit (.bool true)], args := [d] }
  | _ => none }
def structureSimplifiesRow : OpenClaim := { program := "ytmlhipilbnjhiaagreat", sum := "7204fca3c4451921ce6ea6175643d6e09e4c71a5e39b095ab0191afd406216d6", func := "decompiler/decompilerlaw36.StructureSimplifies", spec := "structureSimplifies", unfollowed := true, recurses := true, loops := true, apart := false }
def StructureSimplifiesSaid : Prop := structureSimplifiesRow.holds Tryz.pinned (OpenSpec.ofChange structureSimplifiesSpec)

/-- ITS FALSE NEIGHBOUR: 'it returns false'. Refute it at one input. -/
def structureSimplifiesWrong : ChangeSpec := { name := "structureSimplifies", fn := fun _ => fun
  | [d] => { results := [.lit (.bool false)], args := [d] }
  | _ => none }
def StructureSimplifiesWrongFalsely : Prop := structureSimplifiesRow.holds Tryz.pinned (OpenSpec.ofChange structureSimplifiesWrong)

/-- 'decompilerlaw36.StructureGotos': WHATEVER THE INPUT: true; the input reads as it did. -/
def structureGotosSpec : ChangeSpec := { name := "structureGotos", fn := fun _ => fun
  | [d] => { results := [.lit (.bool true)], args := [d] }
  | _ => none }
def structureGotosRow : OpenClaim := { program := "ytmlhipilbnjhiaagreat", sum := "7204fca3c4451921ce6ea6175643d6e09e4c71a5e39b095ab0191afd406216d6", func := "decompiler/decompilerlaw36.StructureGotos", spec := "structureGotos", unfollowed := true, recurses := true, loops := true, apart := false }
def StructureGotosSaid : Prop := structureGotosRow.holds Tryz.pinned (OpenSpec.ofChange structureGotosSpec)

/-- ITS FALSE NEIGHBOUR: 'it returns false'. Refute it at one input. -/
def structureGotosWrong : ChangeSpec := { name := "structureGotos", fn := fun _ => fun
  | [d] => { results := [.lit (.bool false)], args := [d] }
  | _ => none }
def StructureGotosWrongFalsely : Prop := structureGotosRow.holds Tryz.pinned (OpenSpec.ofChange structureGotosWrong)

/-- 'decompilerlaw36.StructureLoops': WHATEVER THE INPUT: true; the input reads as it did. -/
def structureLoopsSpec : ChangeSpec := { name := "structureLoops", fn := fun _ => fun
  | [d] => { results := [.lit (.bool true)], args := [d] }
  | _ => none }
def structureLoopsRow : OpenClaim := { program := "ytmlhipilbnjhiaagreat", sum := "7204fca3c4451921ce6ea6175643d6e09e4c71a5e39b095ab0191afd406216d6", func := "decompiler/decompilerlaw36.StructureLoops", spec := "structureLoops", unfollowed := true, recurses := true, loops := true, apart := false }
def StructureLoopsSaid : Prop := structureLoopsRow.holds Tryz.pinned (OpenSpec.ofChange structureLoopsSpec)

/-- ITS FALSE NEIGHBOUR: 'it returns false'. Refute it at one input. -/
def structureLoopsWrong : ChangeSpec := { name := "structureLoops", fn := fun _ => fun
  | [d] => { results := [.lit (.bool false)], args := [d] }
  | _ => none }
def StructureLoopsWrongFalsely : Prop := structureLoopsRow.holds Tryz.pinned (OpenSpec.ofChange structureLoopsWrong)

/- THE SECOND FORM. 'bulk': how many values and letters a reading holds, each counted each time it is reached (what is shared counts as often as it is met; a slice's spare places count too). A statement '..UptoSaid' is the law's where the arguments, and the package variables that the reading takes, are together of bulk at most 1048576: NARROWER than '..Said'. Prove '..Said' where nothing that the law and all that it calls make is longer than what came in: it says more and counts as full. Else prove '..UptoSaid'. A law counts once. -/
mutual
def uptoBulk {H : Type} : DataW H → Nat
  | .lit (.string bytes) => bytes.length + 1
  | .lit _ => 1
  | .nil => 1
  | .ptr d => uptoBulk d + 1
  | .slice elems spare => uptoBulkAll elems + uptoBulkAll spare + 1
  | .agg parts => uptoBulkAll parts + 1
  | .iface _ d => uptoBulk d + 1
  | .map entries => uptoBulkEntries entries + 1
  | .held _ => 1
def uptoBulkAll {H : Type} : List (DataW H) → Nat
  | [] => 0
  | d :: r => uptoBulk d + uptoBulkAll r
def uptoBulkEntries {H : Type} : List (Lit × DataW H) → Nat
  | [] => 0
  | x :: r => uptoBulkEntry x + uptoBulkEntries r
def uptoBulkEntry {H : Type} : Lit × DataW H → Nat
  | (.string bytes, d) => bytes.length + uptoBulk d + 1
  | (_, d) => uptoBulk d + 1
 end
def uptoSmall : (H : Type) → List (DataW H) → Bool := fun _ ds => decide (uptoBulkAll ds ≤ 1048576)
def OpenSpec.upto (s : _root_.Go.ChangeSpec) : _root_.Go.OpenSpec := { _root_.Go.OpenSpec.ofChange s with cond := some uptoSmall }

/-- 'decompilerlaw36.StructureOnce', WHERE WHAT IT READS IS OF BULK AT MOST 1048576: true; the input reads as it did. -/
def structureOnceUptoRow : OpenClaim := { program := "ytmlhipilbnjhiaagreat", sum := "7204fca3c4451921ce6ea6175643d6e09e4c71a5e39b095ab0191afd406216d6", func := "decompiler/decompilerlaw36.StructureOnce", spec := "structureOnce", unfollowed := true, recurses := true, loops := true, apart := false, narrowed := true }
def StructureOnceUptoSaid : Prop := structureOnceUptoRow.holds Tryz.pinned (OpenSpec.upto structureOnceSpec)

/-- 'decompilerlaw36.StructureBuilds', WHERE WHAT IT READS IS OF BULK AT MOST 1048576: true; the input reads as it did. -/
def structureBuildsUptoRow : OpenClaim := { program := "ytmlhipilbnjhiaagreat", sum := "7204fca3c4451921ce6ea6175643d6e09e4c71a5e39b095ab0191afd406216d6", func := "decompiler/decompilerlaw36.StructureBuilds", spec := "structureBuilds", unfollowed := true, recurses := true, loops := true, apart := false, narrowed := true }
def StructureBuildsUptoSaid : Prop := structureBuildsUptoRow.holds Tryz.pinned (OpenSpec.upto structureBuildsSpec)

/-- 'decompilerlaw36.StructureChecks', WHERE WHAT IT READS IS OF BULK AT MOST 1048576: true; the input reads as it did. -/
def structureChecksUptoRow : OpenClaim := { program := "ytmlhipilbnjhiaagreat", sum := "7204fca3c4451921ce6ea6175643d6e09e4c71a5e39b095ab0191afd406216d6", func := "decompiler/decompilerlaw36.StructureChecks", spec := "structureChecks", unfollowed := true, recurses := true, loops := true, apart := false, narrowed := true }
def StructureChecksUptoSaid : Prop := structureChecksUptoRow.holds Tryz.pinned (OpenSpec.upto structureChecksSpec)

/-- 'decompilerlaw36.StructureCounts', WHERE WHAT IT READS IS OF BULK AT MOST 1048576: true; the input reads as it did. -/
def structureCountsUptoRow : OpenClaim := { program := "ytmlhipilbnjhiaagreat", sum := "7204fca3c4451921ce6ea6175643d6e09e4c71a5e39b095ab0191afd406216d6", func := "decompiler/decompilerlaw36.StructureCounts", spec := "structureCounts", unfollowed := true, recurses := true, loops := true, apart := false, narrowed := true }
def StructureCountsUptoSaid : Prop := structureCountsUptoRow.holds Tryz.pinned (OpenSpec.upto structureCountsSpec)

/-- 'decompilerlaw36.StructureSimplifies', WHERE WHAT IT READS IS OF BULK AT MOST 1048576: true; the input reads as it did. -/
def structureSimplifiesUptoRow : OpenClaim := { program := "ytmlhipilbnjhiaagreat", sum := "7204fca3c4451921ce6ea6175643d6e09e4c71a5e39b095ab0191afd406216d6", func := "decompiler/decompilerlaw36.StructureSimplifies", spec := "structureSimplifies", unfollowed := true, recurses := true, loops := true, apart := false, narrowed := true }
def StructureSimplifiesUptoSaid : Prop := structureSimplifiesUptoRow.holds Tryz.pinned (OpenSpec.upto structureSimplifiesSpec)

/-- 'decompilerlaw36.StructureGotos', WHERE WHAT IT READS IS OF BULK AT MOST 1048576: true; the input reads as it did. -/
def structureGotosUptoRow : OpenClaim := { program := "ytmlhipilbnjhiaagreat", sum := "7204fca3c4451921ce6ea6175643d6e09e4c71a5e39b095ab0191afd406216d6", func := "decompiler/decompilerlaw36.StructureGotos", spec := "structureGotos", unfollowed := true, recurses := true, loops := true, apart := false, narrowed := true }
def StructureGotosUptoSaid : Prop := structureGotosUptoRow.holds Tryz.pinned (OpenSpec.upto structureGotosSpec)

/-- 'decompilerlaw36.StructureLoops', WHERE WHAT IT READS IS OF BULK AT MOST 1048576: true; the input reads as it did. -/
def structureLoopsUptoRow : OpenClaim := { program := "ytmlhipilbnjhiaagreat", sum := "7204fca3c4451921ce6ea6175643d6e09e4c71a5e39b095ab0191afd406216d6", func := "decompiler/decompilerlaw36.StructureLoops", spec := "structureLoops", unfollowed := true, recurses := true, loops := true, apart := false, narrowed := true }
def StructureLoopsUptoSaid : Prop := structureLoopsUptoRow.holds Tryz.pinned (OpenSpec.upto structureLoopsSpec)

end Rows
end Go.Proofs.YtmlhipilbnjhiaaGreat
