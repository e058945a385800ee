/-
  NARROWER THAN 'FOR EVERY INPUT', by the rows' own cells (each row's printed sentence says how): LivenessDead: loops · LivenessUnused: loops · LivenessLive: loops · LivenessEquations: loops · LivenessDeadExact: loops · LivenessDeadPart: loops.
  DERIVED. THE GIVEN ROWS OF THIS SEAT. 6 by the template 'for every input the law returns true; each argument reads behind the call as it read before'; 0 by the template 'total and deterministic' (their statements: YtdhlfajcofgpkaaGreatTotals.lean).
  GIVEN WITH THE SEED: the statements are not yours to turn. If you find one false, say at which input.
  Laid BY PROGRAM, IN A SANDBOX (cutbox-rows.mjs): the forced cells as the released guide's own fill.sh prints them over the translation fbaac9ae06ba1914… (all of the seat's roots in one cut). By AI agents, Wed Nov 11 2026. No macro, syntax, notation, axiom, sorry.
-/
import Derived.Test.YtdhlfajcofgpkaaGreatChecked
import GoSem.Claim
import GoSem.ClaimJoined
import GoSem.ClaimMapViews
import Derived.JoinedTies
import Derived.KernelRfl
namespace Go.Proofs.YtdhlfajcofgpkaaGreat
/- THE CELL 'sum', in the pinned program and in every row, IS THE sha256 OF THE DUMP (.gsa) THAT YtdhlfajcofgpkaaGreatProg.lean LOADS. Nothing in Lean hashes anything: it is a label: what it is worth is what the hold of that sum in a sandbox is worth. -/
noncomputable def Tryz.pinned : Pinned := { name := "ytdhlfajcofgpkaagreat", sum := "fbaac9ae06ba19148881d03c65f72df3d10e08ff707b642d061ca06465b5d556", checked := Tryz.checked }
namespace Rows
def none {H : Type} : Left H := { results := [], args := [] }

/-- 'decompilerlaw25.LivenessDead': WHATEVER THE INPUT: true; the input reads as it did. -/
def livenessDeadSpec : ChangeSpec := { name := "livenessDead", fn := fun _ => fun
  | [d1, d2, d3, d4] => { results := [.lit (.bool true)], args := [d1, d2, d3, d4] }
  | _ => none }
def livenessDeadRow : OpenClaim := { program := "ytdhlfajcofgpkaagreat", sum := "fbaac9ae06ba19148881d03c65f72df3d10e08ff707b642d061ca06465b5d556", func := "decompiler/decompilerlaw25.LivenessDead", spec := "livenessDead", unfollowed := true, recurses := true, loops := true, apart := false }
def LivenessDeadSaid : Prop := livenessDeadRow.holds Tryz.pinned (OpenSpec.ofChange livenessDeadSpec)

/-- ITS FALSE NEIGHBOUR: 'it returns false'. Refute it at one input. -/
def livenessDeadWrong : ChangeSpec := { name := "livenessDead", fn := fun _ => fun
  | [d1, d2, d3, d4] => { results := [.lit (.bool false)], args := [d1, d2, d3, d4] }
  | _ => none }
def LivenessDeadWrongFalsely : Prop := livenessDeadRow.holds Tryz.pinned (OpenSpec.ofChange livenessDeadWrong)

/-- 'decompilerlaw25.LivenessUnused': WHATEVER THE INPUT: true; the input reads as it did. -/
def livenessUnusedSpec : ChangeSpec := { name := "livenessUnused", fn := fun _ => fun
  | [d1, d2, d3, d4, d5, d6] => { results := [.lit (.bool true)], args := [d1, d2, d3, d4, d5, d6] }
  | _ => none }
def livenessUnusedRow : OpenClaim := { program := "ytdhlfajcofgpkaagreat", sum := "fbaac9ae06ba19148881d03c65f72df3d10e08ff707b642d061ca06465b5d556", func := "decompiler/decompilerlaw25.LivenessUnused", spec := "livenessUnused", unfollowed := true, recurses := true, loops := true, apart := false }
def LivenessUnusedSaid : Prop := livenessUnusedRow.holds Tryz.pinned (OpenSpec.ofChange livenessUnusedSpec)

/-- ITS FALSE NEIGHBOUR: 'it returns false'. Refute it at one input. -/
def livenessUnusedWrong : ChangeSpec := { name := "livenessUnused", fn := fun _ => fun
  | [d1, d2, d3, d4, d5, d6] => { results := [.lit (.bool false)], args := [d1, d2, d3, d4, d5, d6] }
  | _ => none }
def LivenessUnusedWrongFalsely : Prop := livenessUnusedRow.holds Tryz.pinned (OpenSpec.ofChange livenessUnusedWrong)

/-- 'decompilerlaw25.LivenessLive': WHATEVER THE INPUT: true; the input reads as it did. -/
def livenessLiveSpec : ChangeSpec := { name := "livenessLive", fn := fun _ => fun
  | [d1, d2] => { results := [.lit (.bool true)], args := [d1, d2] }
  | _ => none }
def livenessLiveRow : OpenClaim := { program := "ytdhlfajcofgpkaagreat", sum := "fbaac9ae06ba19148881d03c65f72df3d10e08ff707b642d061ca06465b5d556", func := "decompiler/decompilerlaw25.LivenessLive", spec := "livenessLive", unfollowed := true, recurses := true, loops := true, apart := false }
def LivenessLiveSaid : Prop := livenessLiveRow.holds Tryz.pinned (OpenSpec.ofChange livenessLiveSpec)

/-- ITS FALSE NEIGHBOUR: 'it returns false'. Refute it at one input. -/
def livenessLiveWrong : ChangeSpec := { name := "livenessLive", fn := fun _ => fun
  | [d1, d2] => { results := [.lit (.bool false)], args := [d1, d2] }
  | _ => none }
def LivenessLiveWrongFalsely : Prop := livenessLiveRow.holds Tryz.pinned (OpenSpec.ofChange livenessLiveWrong)

/-- 'decompilerlaw25.LivenessEquations': WHATEVER THE INPUT: true; the input reads as it did. -/
def livenessEquationsSpec : ChangeSpec := { name := "livenessEquations", fn := fun _ => fun
  | [d1, d2] => { results := [.lit (.bool true)], args := [d1, d2] }
  | _ => none }
def livenessEquationsRow : OpenClaim := { program := "ytdhlfajcofgpkaagreat", sum := "fbaac9ae06ba19148881d03c65f72df3d10e08ff707b642d061ca06465b5d556", func := "decompiler/decompilerlaw25.LivenessEquations", spec := "livenessEquations", unfollowed := true, recurses := true, loops := true, apart := false }
def LivenessEquationsSaid : Prop := livenessEquationsRow.holds Tryz.pinned (OpenSpec.ofChange livenessEquationsSpec)

/-- ITS FALSE NEIGHBOUR: 'it returns false'. Refute it at one input. -/
def livenessEquationsWrong : ChangeSpec := { name := "livenessEquations", fn := fun _ => fun
  | [d1, d2] => { results := [.lit (.bool false)], args := [d1, d2] }
  | _ => none }
def LivenessEquationsWrongFalsely : Prop := livenessEquationsRow.holds Tryz.pinned (OpenSpec.ofChange livenessEquationsWrong)

/-- 'decompilerlaw25.LivenessDeadExact': WHATEVER THE INPUT: true; the input reads as it did. -/
def livenessDeadExactSpec : ChangeSpec := { name := "livenessDeadExact", fn := fun _ => fun
  | [d1, d2] => { results := [.lit (.bool true)], args := [d1, d2] }
  | _ => none }
def livenessDeadExactRow : OpenClaim := { program := "ytdhlfajcofgpkaagreat", sum := "fbaac9ae06ba19148881d03c65f72df3d10e08ff707b642d061ca06465b5d556", func := "decompiler/decompilerlaw25.LivenessDeadExact", spec := "livenessDeadExact", unfollowed := true, recurses := true, loops := true, apart := false }
def LivenessDeadExactSaid : Prop := livenessDeadExactRow.holds Tryz.pinned (OpenSpec.ofChange livenessDeadExactSpec)

/-- ITS FALSE NEIGHBOUR: 'it returns false'. Refute it at one input. -/
def livenessDeadExactWrong : ChangeSpec := { name := "livenessDeadExact", fn := fun _ => fun
  | [d1, d2] => { results := [.lit (.bool false)], args := [d1, d2] }
  | _ => none }
def LivenessDeadExactWrongFalsely : Prop := livenessDeadExactRow.holds Tryz.pinned (OpenSpec.ofChange livenessDeadExactWrong)

/-- 'decompilerlaw25.LivenessDeadPart': WHATEVER THE INPUT: true; the input reads as it did. -/
def livenessDeadPartSpec : ChangeSpec := { name := "livenessDeadPart", fn := fun _ => fun
  | [d1, d2] => { results := [.lit (.bool true)], args := [d1, d2] }
  | _ => none }
def livenessDeadPartRow : OpenClaim := { program := "ytdhlfajcofgpkaagreat", sum := "fbaac9ae06ba19148881d03c65f72df3d10e08ff707b642d061ca06465b5d556", func := "decompiler/decompilerlaw25.LivenessDeadPart", spec := "livenessDeadPart", unfollowed := true, recurses := true, loops := true, apart := false }
def LivenessDeadPartSaid : Prop := livenessDeadPartRow.holds Tryz.pinned (OpenSpec.ofChange livenessDeadPartSpec)

/-- ITS FALSE NEIGHBOUR: 'it returns false'. Refute it at one input. -/
def livenessDeadPartWrong : ChangeSpec := { name := "livenessDeadPart", fn := fun _ => fun
  | [d1, d2] => { results := [.lit (.bool false)], args := [d1, d2] }
  | _ => none }
def LivenessDeadPartWrongFalsely : Prop := livenessDeadPartRow.holds Tryz.pinned (OpenSpec.ofChange livenessDeadPartWrong)

/- THE SECOND FORM. 'bulk': how many values and letters a reading holds, each counted each time it is reached (what is shared counts as often as it is met; a slice's spare places count too). A statement '..UptoSaid' is the law's where the arguments, and the package variables that the reading takes, are together of bulk at most 1048576: NARROWER than '..Said'. Prove '..Said' where nothing that the law and all that it calls make is longer than what came in: it says more and counts as full. Else prove '..UptoSaid'. A law counts once. -/
mutual
def uptoBulk {H : Type} : DataW H → Nat
  | .lit (.string bytes) => bytes.length + 1
  | .lit _ => 1
  | .nil => 1
  | .ptr d => uptoBulk d + 1
  | .slice elems spare => uptoBulkAll elems + uptoBulkAll spare + 1
  | .agg parts => uptoBulkAll parts + 1
  | .iface _ d => uptoBulk d + 1
  | .map entries => uptoBulkEntries entries + 1
  | .held _ => 1
def uptoBulkAll {H : Type} : List (DataW H) → Nat
  | [] => 0
  | d :: r => uptoBulk d + uptoBulkAll r
def uptoBulkEntries {H : Type} : List (Lit × DataW H) → Nat
  | [] => 0
  | x :: r => uptoBulkEntry x + uptoBulkEntries r
def uptoBulkEntry {H : Type} : Lit × DataW H → Nat
  | (.string bytes, d) => bytes.length + uptoBulk d + 1
  | (_, d) => uptoBulk d + 1
 end
def uptoSmall : (H : Type) → List (DataW H) → Bool := fun _ ds => decide (uptoBulkAll ds ≤ 1048576)
def OpenSpec.upto (s : _root_.Go.ChangeSpec) : _root_.Go.OpenSpec := { _root_.Go.OpenSpec.ofChange s with cond := some uptoSmall }

/-- 'decompilerlaw25.LivenessDead', WHERE WHAT IT READS IS OF BULK AT MOST 1048576: true; the input reads as it did. -/
def livenessDeadUptoRow : OpenClaim := { program := "ytdhlfajcofgpkaagreat", sum := "fbaac9ae06ba19148881d03c65f72df3d10e08ff707b642d061ca06465b5d556", func := "decompiler/decompilerlaw25.LivenessDead", spec := "livenessDead", unfollowed := true, recurses := true, loops := true, apart := false, narrowed := true }
def LivenessDeadUptoSaid : Prop := livenessDeadUptoRow.holds Tryz.pinned (OpenSpec.upto livenessDeadSpec)

/-- 'decompilerlaw25.LivenessUnused', WHERE WHAT IT READS IS OF BULK AT MOST 1048576: true; the input reads as it did. -/
def livenessUnusedUptoRow : OpenClaim := { program := "ytdhlfajcofgpkaagreat", sum := "fbaac9ae06ba19148881d03c65f72df3d10e08ff707b642d061ca06465b5d556", func := "decompiler/decompilerlaw25.LivenessUnused", spec := "livenessUnused", unfollowed := true, recurses := true, loops := true, apart := false, narrowed := true }
def LivenessUnusedUptoSaid : Prop := livenessUnusedUptoRow.holds Tryz.pinned (OpenSpec.upto livenessUnusedSpec)

/-- 'decompilerlaw25.LivenessLive', WHERE WHAT IT READS IS OF BULK AT MOST 1048576: true; the input reads as it did. -/
def livenessLiveUptoRow : OpenClaim := { program := "ytdhlfajcofgpkaagreat", sum := "fbaac9ae06ba19148881d03c65f72df3d10e08ff707b642d061ca06465b5d556", func := "decompiler/decompilerlaw25.LivenessLive", spec := "livenessLive", unfollowed := true, recurses := true, loops := true, apart := false, narrowed := true }
def LivenessLiveUptoSaid : Prop := livenessLiveUptoRow.holds Tryz.pinned (OpenSpec.upto livenessLiveSpec)

/-- 'decompilerlaw25.LivenessEquations', WHERE WHAT IT READS IS OF BULK AT MOST 1048576: true; the input reads as it did. -/
def livenessEquationsUptoRow : OpenClaim := { program := "ytdhlfajcofgpkaagreat", sum := "fbaac9ae06ba19148881d03c65f72df3d10e08ff707b642d061ca06465b5d556", func := "decompiler/decompilerlaw25.LivenessEquations", spec := "livenessEquations", unfollowed := true, recurses := true, loops := true, apart := false, narrowed := true }
def LivenessEquationsUptoSaid : Prop := livenessEquationsUptoRow.holds Tryz.pinned (OpenSpec.upto livenessEquationsSpec)

/-- 'decompilerlaw25.LivenessDeadExact', WHERE WHAT IT READS IS OF BULK AT MOST 1048576: true; the input reads as it did. -/
def livenessDeadExactUptoRow : OpenClaim := { program := "ytdhlfajcofgpkaagreat", sum := "fbaac9ae06ba19148881d03c65f72df3d10e08ff707b642d061ca06465b5d556", func := "decompiler/decompilerlaw25.LivenessDeadExact", spec := "livenessDeadExact", unfollowed := true, recurses := true, loops := true, apart := false, narrowed := true }
def LivenessDeadExactUptoSaid : Prop := livenessDeadExactUptoRow.holds Tryz.pinned (OpenSpec.upto livenessDeadExactSpec)

/-- 'decompilerlaw25.LivenessDeadPart', WHERE WHAT IT READS IS OF BULK AT MOST 1048576: true; the input reads as it did. -/
def livenessDeadPartUptoRow : OpenClaim := { program := "ytdhlfajcofgpkaagreat", sum := "fbaac9ae06ba19148881d03c65f72df3d10e08ff707b642d061ca06465b5d556", func := "decompiler/decompilerlaw25.LivenessDeadPart", spec := "livenessDeadPart", unfollowed := true, recurses := true, loops := true, apart := false, narrowed := true }
def LivenessDeadPartUptoSaid : Prop := livenessDeadPartUptoRow.holds Tryz.pinned (OpenSpec.upto livenessDeadPartSpec)

end Rows
end Go.Proofs.YtdhlfajcofgpkaaGreat
