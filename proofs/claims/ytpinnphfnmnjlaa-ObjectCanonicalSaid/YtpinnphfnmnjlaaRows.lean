/-
  No cell of these rows narrows 'for every input' (looked for: loops, veiled, ifaces, maps, wideKeys, modest, calm, conditions, laid).
  DERIVED. THE GIVEN ROWS OF THIS SEAT. 7 by the template 'for every input the law returns true; each argument reads behind the call as it read before'; 0 by the template 'total and deterministic' (their statements: YtpinnphfnmnjlaaTotals.lean).
  GIVEN WITH THE SEED: the statements are not yours to turn. If you find one false, say at which input.
  Laid BY PROGRAM, IN A SANDBOX (cutbox-rows.mjs): the forced cells as the released guide's own fill.sh prints them over the translation 9a40fc1ccb5458c4… (all of the seat's roots in one cut). By AI agents, Wed Nov 11 2026. No macro, syntax, notation, axiom, sorry.
-/
import Derived.Test.YtpinnphfnmnjlaaChecked
import GoSem.Claim
import GoSem.ClaimJoined
import GoSem.ClaimMapViews
import Derived.JoinedTies
import Derived.KernelRfl
namespace Go.Proofs.Ytpinnphfnmnjlaa
/- THE CELL 'sum', in the pinned program and in every row, IS THE sha256 OF THE DUMP (.gsa) THAT YtpinnphfnmnjlaaProg.lean LOADS. Nothing in Lean hashes anything: it is a label: what it is worth is what the hold of that sum in a sandbox is worth. -/
noncomputable def Try.pinned : Pinned := { name := "ytpinnphfnmnjlaa", sum := "9a40fc1ccb5458c4e597ffc51432c046a6d9998404c56d5e15a82fd31c44e61b", checked := Try.checked }
namespace Rows
def none {H : Type} : Left H := { results := [], args := [] }

/-- 'decompilerlaw08.ObjectChecks': WHATEVER THE INPUT: true; the input reads as it did. -/
def objectChecksSpec : ChangeSpec := { name := "objectChecks", fn := fun _ => fun
  | [d] => { results := [.lit (.bool true)], args := [d] }
  | _ => none }
def objectChecksRow : OpenClaim := { program := "ytpinnphfnmnjlaa", sum := "9a40fc1ccb5458c4e597ffc51432c046a6d9998404c56d5e15a82fd31c44e61b", func := "decompiler/decompilerlaw08.ObjectChecks", spec := "objectChecks", unfollowed := true, recurses := true, apart := false }
def ObjectChecksSaid : Prop := objectChecksRow.holds Try.pinned (OpenSpec.ofChange objectChecksSpec)

/-- ITS FALSE NEIGHBOUR: 'it returns false'. Refute it at one input. -/
def objectChecksWrong : ChangeSpec := { name := "objectChecks", fn := fun _ => fun
  | [d] => { results := [.lit (.bool false)], args := [d] }
  | _ => none }
def ObjectChecksWrongFalsely : Prop := objectChecksRow.holds Try.pinned (OpenSpec.ofChange objectChecksWrong)

/-- 'decompilerlaw08.ObjectEncodes': WHATEVER THE INPUT: true; the input reads as it did. -/
def objectEncodesSpec : ChangeSpec := { name := "objectEncodes", fn := fun _ => fun
  | [d] => { results := [.lit (.bool true)], args := [d] }
  | _ => none }
def objectEncodesRow : OpenClaim := { program := "ytpinnphfnmnjlaa", sum := "9a40fc1ccb5458c4e597ffc51432c046a6d9998404c56d5e15a82fd31c44e61b", func := "decompiler/decompilerlaw08.ObjectEncodes", spec := "objectEncodes", unfollowed := true, recurses := true, apart := false }
def ObjectEncodesSaid : Prop := objectEncodesRow.holds Try.pinned (OpenSpec.ofChange objectEncodesSpec)

/-- ITS FALSE NEIGHBOUR: 'it returns false'. Refute it at one input. -/
def objectEncodesWrong : ChangeSpec := { name := "objectEncodes", fn := fun _ => fun
  | [d] => { results := [.lit (.bool false)], args := [d] }
  | _ => none }
def ObjectEncodesWrongFalsely : Prop := objectEncodesRow.holds Try.pinned (OpenSpec.ofChange objectEncodesWrong)

/-- 'decompilerlaw08.ObjectSame': WHATEVER THE INPUT: true; the input reads as it did. -/
def objectSameSpec : ChangeSpec := { name := "objectSame", fn := fun _ => fun
  | [d1, d2] => { results := [.lit (.bool true)], args := [d1, d2] }
  | _ => none }
def objectSameRow : OpenClaim := { program := "ytpinnphfnmnjlaa", sum := "9a40fc1ccb5458c4e597ffc51432c046a6d9998404c56d5e15a82fd31c44e61b", func := "decompiler/decompilerlaw08.ObjectSame", spec := "objectSame", unfollowed := true, recurses := true, apart := false }
def ObjectSameSaid : Prop := objectSameRow.holds Try.pinned (OpenSpec.ofChange objectSameSpec)

/-- ITS FALSE NEIGHBOUR: 'it returns false'. Refute it at one input. -/
def objectSameWrong : ChangeSpec := { name := "objectSame", fn := fun _ => fun
  | [d1, d2] => { results := [.lit (.bool false)], args := [d1, d2] }
  | _ => none }
def ObjectSameWrongFalsely : Prop := objectSameRow.holds Try.pinned (OpenSpec.ofChange objectSameWrong)

/-- 'decompilerlaw08.ObjectDecodes': WHATEVER THE INPUT: true; the input reads as it did. -/
def objectDecodesSpec : ChangeSpec := { name := "objectDecodes", fn := fun _ => fun
  | [d] => { results := [.lit (.bool true)], args := [d] }
  | _ => none }
def objectDecodesRow : OpenClaim := { program := "ytpinnphfnmnjlaa", sum := "9a40fc1ccb5458c4e597ffc51432c046a6d9998404c56d5e15a82fd31c44e61b", func := "decompiler/decompilerlaw08.ObjectDecodes", spec := "objectDecodes", unfollowed := true, recurses := true, apart := false }
def ObjectDecodesSaid : Prop := objectDecodesRow.holds Try.pinned (OpenSpec.ofChange objectDecodesSpec)

/-- ITS FALSE NEIGHBOUR: 'it returns false'. Refute it at one input. -/
def objectDecodesWrong : ChangeSpec := { name := "objectDecodes", fn := fun _ => fun
  | [d] => { results := [.lit (.bool false)], args := [d] }
  | _ => none }
def ObjectDecodesWrongFalsely : Prop := objectDecodesRow.holds Try.pinned (OpenSpec.ofChange objectDecodesWrong)

/-- 'decompilerlaw08.ObjectRoundTrip': WHATEVER THE INPUT: true; the input reads as it did. -/
def objectRoundTripSpec : ChangeSpec := { name := "objectRoundTrip", fn := fun _ => fun
  | [d] => { results := [.lit (.bool true)], args := [d] }
  | _ => none }
def objectRoundTripRow : OpenClaim := { program := "ytpinnphfnmnjlaa", sum := "9a40fc1ccb5458c4e597ffc51432c046a6d9998404c56d5e15a82fd31c44e61b", func := "decompiler/decompilerlaw08.ObjectRoundTrip", spec := "objectRoundTrip", unfollowed := true, recurses := true, apart := false }
def ObjectRoundTripSaid : Prop := objectRoundTripRow.holds Try.pinned (OpenSpec.ofChange objectRoundTripSpec)

/-- ITS FALSE NEIGHBOUR: 'it returns false'. Refute it at one input. -/
def objectRoundTripWrong : ChangeSpec := { name := "objectRoundTrip", fn := fun _ => fun
  | [d] => { results := [.lit (.bool false)], args := [d] }
  | _ => none }
def ObjectRoundTripWrongFalsely : Prop := objectRoundTripRow.holds Try.pinned (OpenSpec.ofChange objectRoundTripWrong)

/-- 'decompilerlaw08.ObjectCanonical': WHATEVER THE INPUT: true; the input reads as it did. -/
def objectCanonicalSpec : ChangeSpec := { name := "objectCanonical", fn := fun _ => fun
  | [d] => { results := [.lit (.bool true)], args := [d] }
  | _ => none }
def objectCanonicalRow : OpenClaim := { program := "ytpinnphfnmnjlaa", sum := "9a40fc1ccb5458c4e597ffc51432c046a6d9998404c56d5e15a82fd31c44e61b", func := "decompiler/decompilerlaw08.ObjectCanonical", spec := "objectCanonical", unfollowed := true, recurses := true, apart := false }
def ObjectCanonicalSaid : Prop := objectCanonicalRow.holds Try.pinned (OpenSpec.ofChange objectCanonicalSpec)

/-- ITS FALSE NEIGHBOUR: 'it returns false'. Refute it at one input. -/
def objectCanonicalWrong : ChangeSpec := { name := "objectCanonical", fn := fun _ => fun
  | [d] => { results := [.lit (.bool false)], args := [d] }
  | _ => none }
def ObjectCanonicalWrongFalsely : Prop := objectCanonicalRow.holds Try.pinned (OpenSpec.ofChange objectCanonicalWrong)

/-- 'decompilerlaw08.ObjectDamage': WHATEVER THE INPUT: true; the input reads as it did. -/
def objectDamageSpec : ChangeSpec := { name := "objectDamage", fn := fun _ => fun
  | [d1, d2, d3] => { results := [.lit (.bool true)], args := [d1, d2, d3] }
  | _ => none }
def objectDamageRow : OpenClaim := { program := "ytpinnphfnmnjlaa", sum := "9a40fc1ccb5458c4e597ffc51432c046a6d9998404c56d5e15a82fd31c44e61b", func := "decompiler/decompilerlaw08.ObjectDamage", spec := "objectDamage", unfollowed := true, recurses := true, apart := false }
def ObjectDamageSaid : Prop := objectDamageRow.holds Try.pinned (OpenSpec.ofChange objectDamageSpec)

/-- ITS FALSE NEIGHBOUR: 'it returns false'. Refute it at one input. -/
def objectDamageWrong : ChangeSpec := { name := "objectDamage", fn := fun _ => fun
  | [d1, d2, d3] => { results := [.lit (.bool false)], args := [d1, d2, d3] }
  | _ => none }
def ObjectDamageWrongFalsely : Prop := objectDamageRow.holds Try.pinned (OpenSpec.ofChange objectDamageWrong)

/- THE SECOND FORM. 'bulk': how many values and letters a reading holds, each counted each time it is reached (what is shared counts as often as it is met; a slice's spare places count too). A statement '..UptoSaid' is the law's where the arguments, and the package variables that the reading takes, are together of bulk at most 1048576: NARROWER than '..Said'. Prove '..Said' where nothing that the law and all that it calls make is longer than what came in: it says more and counts as full. Else prove '..UptoSaid'. A law counts once. -/
mutual
def uptoBulk {H : Type} : DataW H → Nat
  | .lit (.string bytes) => bytes.length + 1
  | .lit _ => 1
  | .nil => 1
  | .ptr d => uptoBulk d + 1
  | .slice elems spare => uptoBulkAll elems + uptoBulkAll spare + 1
  | .agg parts => uptoBulkAll parts + 1
  | .iface _ d => uptoBulk d + 1
  | .map entries => uptoBulkEntries entries + 1
  | .held _ => 1
def uptoBulkAll {H : Type} : List (DataW H) → Nat
  | [] => 0
  | d :: r => uptoBulk d + uptoBulkAll r
def uptoBulkEntries {H : Type} : List (Lit × DataW H) → Nat
  | [] => 0
  | x :: r => uptoBulkEntry x + uptoBulkEntries r
def uptoBulkEntry {H : Type} : Lit × DataW H → Nat
  | (.string bytes, d) => bytes.length + uptoBulk d + 1
  | (_, d) => uptoBulk d + 1
 end
def uptoSmall : (H : Type) → List (DataW H) → Bool := fun _ ds => decide (uptoBulkAll ds ≤ 1048576)
def OpenSpec.upto (s : _root_.Go.ChangeSpec) : _root_.Go.OpenSpec := { _root_.Go.OpenSpec.ofChange s with cond := some uptoSmall }

/-- 'decompilerlaw08.ObjectChecks', WHERE WHAT IT READS IS OF BULK AT MOST 1048576: true; the input reads as it did. -/
def objectChecksUptoRow : OpenClaim := { program := "ytpinnphfnmnjlaa", sum := "9a40fc1ccb5458c4e597ffc51432c046a6d9998404c56d5e15a82fd31c44e61b", func := "decompiler/decompilerlaw08.ObjectChecks", spec := "objectChecks", unfollowed := true, recurses := true, apart := false, narrowed := true }
def ObjectChecksUptoSaid : Prop := objectChecksUptoRow.holds Try.pinned (OpenSpec.upto objectChecksSpec)

/-- 'decompilerlaw08.ObjectEncodes', WHERE WHAT IT READS IS OF BULK AT MOST 1048576: true; the input reads as it did. -/
def objectEncodesUptoRow : OpenClaim := { program := "ytpinnphfnmnjlaa", sum := "9a40fc1ccb5458c4e597ffc51432c046a6d9998404c56d5e15a82fd31c44e61b", func := "decompiler/decompilerlaw08.ObjectEncodes", spec := "objectEncodes", unfollowed := true, recurses := true, apart := false, narrowed := true }
def ObjectEncodesUptoSaid : Prop := objectEncodesUptoRow.holds Try.pinned (OpenSpec.upto objectEncodesSpec)

/-- 'decompilerlaw08.ObjectSame', WHERE WHAT IT READS IS OF BULK AT MOST 1048576: true; the input reads as it did. -/
def objectSameUptoRow : OpenClaim := { program := "ytpinnphfnmnjlaa", sum := "9a40fc1ccb5458c4e597ffc51432c046a6d9998404c56d5e15a82fd31c44e61b", func := "decompiler/decompilerlaw08.ObjectSame", spec := "objectSame", unfollowed := true, recurses := true, apart := false, narrowed := true }
def ObjectSameUptoSaid : Prop := objectSameUptoRow.holds Try.pinned (OpenSpec.upto objectSameSpec)

/-- 'decompilerlaw08.ObjectDecodes', WHERE WHAT IT READS IS OF BULK AT MOST 1048576: true; the input reads as it did. -/
def objectDecodesUptoRow : OpenClaim := { program := "ytpinnphfnmnjlaa", sum := "9a40fc1ccb5458c4e597ffc51432c046a6d9998404c56d5e15a82fd31c44e61b", func := "decompiler/decompilerlaw08.ObjectDecodes", spec := "objectDecodes", unfollowed := true, recurses := true, apart := false, narrowed := true }
def ObjectDecodesUptoSaid : Prop := objectDecodesUptoRow.holds Try.pinned (OpenSpec.upto objectDecodesSpec)

/-- 'decompilerlaw08.ObjectRoundTrip', WHERE WHAT IT READS IS OF BULK AT MOST 1048576: true; the input reads as it did. -/
def objectRoundTripUptoRow : OpenClaim := { program := "ytpinnphfnmnjlaa", sum := "9a40fc1ccb5458c4e597ffc51432c046a6d9998404c56d5e15a82fd31c44e61b", func := "decompiler/decompilerlaw08.ObjectRoundTrip", spec := "objectRoundTrip", unfollowed := true, recurses := true, apart := false, narrowed := true }
def ObjectRoundTripUptoSaid : Prop := objectRoundTripUptoRow.holds Try.pinned (OpenSpec.upto objectRoundTripSpec)

/-- 'decompilerlaw08.ObjectCanonical', WHERE WHAT IT READS IS OF BULK AT MOST 1048576: true; the input reads as it did. -/
def objectCanonicalUptoRow : OpenClaim := { program := "ytpinnphfnmnjlaa", sum := "9a40fc1ccb5458c4e597ffc51432c046a6d9998404c56d5e15a82fd31c44e61b", func := "decompiler/decompilerlaw08.ObjectCanonical", spec := "objectCanonical", unfollowed := true, recurses := true, apart := false, narrowed := true }
def ObjectCanonicalUptoSaid : Prop := objectCanonicalUptoRow.holds Try.pinned (OpenSpec.upto objectCanonicalSpec)

/-- 'decompilerlaw08.ObjectDamage', WHERE WHAT IT READS IS OF BULK AT MOST 1048576: true; the input reads as it did. -/
def objectDamageUptoRow : OpenClaim := { program := "ytpinnphfnmnjlaa", sum := "9a40fc1ccb5458c4e597ffc51432c046a6d9998404c56d5e15a82fd31c44e61b", func := "decompiler/decompilerlaw08.ObjectDamage", spec := "objectDamage", unfollowed := true, recurses := true, apart := false, narrowed := true }
def ObjectDamageUptoSaid : Prop := objectDamageUptoRow.holds Try.pinned (OpenSpec.upto objectDamageSpec)

end Rows
end Go.Proofs.Ytpinnphfnmnjlaa
