/-
  NARROWER THAN 'FOR EVERY INPUT', by the rows' own cells (each row's printed sentence says how): CallconvSound: loops · CallconvPreserves: loops · CallconvOf: loops · CallconvAll: loops · CallconvPrune: loops · CallconvPruneRuns: loops.
  DERIVED. THE GIVEN ROWS OF THIS SEAT. 7 by the template 'for every input the law returns true; each argument reads behind the call as it read before'; 0 by the template 'total and deterministic' (their statements: YtihlaappclhhaaaGreatTotals.lean).
  GIVEN WITH THE SEED: the statements are not yours to turn. If you find one false, say at which input.
  Laid BY PROGRAM, IN A SANDBOX (cutbox-rows.mjs): the forced cells as the released guide's own fill.sh prints them over the translation 2a9563c72cd437be… (all of the seat's roots in one cut). By AI agents, Wed Nov 11 2026. No macro, syntax, notation, axiom, sorry.
-/
import Derived.Test.YtihlaappclhhaaaGreatChecked
import GoSem.Claim
import GoSem.ClaimJoined
import GoSem.ClaimMapViews
import Derived.JoinedTies
import Derived.KernelRfl
namespace Go.Proofs.YtihlaappclhhaaaGreat
/- THE CELL 'sum', in the pinned program and in every row, IS THE sha256 OF THE DUMP (.gsa) THAT YtihlaappclhhaaaGreatProg.lean LOADS. Nothing in Lean hashes anything: it is a label: what it is worth is what the hold of that sum in a sandbox is worth. -/
noncomputable def Tryz.pinned : Pinned := { name := "ytihlaappclhhaaagreat", sum := "2a9563c72cd437be333b8295ac10ebded8c3fbf9f5a1a873c71a13797217fd20", checked := Tryz.checked }
namespace Rows
def none {H : Type} : Left H := { results := [], args := [] }

/-- 'decompilerlaw30.CallconvSound': WHATEVER THE INPUT: true; the input reads as it did. -/
def callconvSoundSpec : ChangeSpec := { name := "callconvSound", fn := fun _ => fun
  | [d] => { results := [.lit (.bool true)], args := [d] }
  | _ => none }
def callconvSoundRow : OpenClaim := { program := "ytihlaappclhhaaagreat", sum := "2a9563c72cd437be333b8295ac10ebded8c3fbf9f5a1a873c71a13797217fd20", func := "decompiler/decompilerlaw30.CallconvSound", spec := "callconvSound", unfollowed := true, recurses := true, loops := true, apart := false }
def CallconvSoundSaid : Prop := callconvSoundRow.holds Tryz.pinned (OpenSpec.ofChange callconvSoundSpec)

/-- ITS FALSE NEIGHBOUR: 'it returns false'. Refute it at one input. -/
def callconvSoundWrong : ChangeSpec := { name := "callconvSound", fn := fun _ => fun
  | [d] => { results := [.lit (.bool false)], args := [d] }
  | _ => none }
def CallconvSoundWrongFalsely : Prop := callconvSoundRow.holds Tryz.pinned (OpenSpec.ofChange callconvSoundWrong)

/-- 'decompilerlaw30.CallconvPreserves': WHATEVER THE INPUT: true; the input reads as it did. -/
def callconvPreservesSpec : ChangeSpec := { name := "callconvPreserves", fn := fun _ => fun
  | [d] => { results := [.lit (.bool true)], args := [d] }
  | _ => none }
def callconvPreservesRow : OpenClaim := { program := "ytihlaappclhhaaagreat", sum := "2a9563c72cd437be333b8295ac10ebded8c3fbf9f5a1a873c71a13797217fd20", func := "decompiler/decompilerlaw30.CallconvPreserves", spec := "callconvPreserves", unfollowed := true, recurses := true, loops := true, apart := false }
def CallconvPreservesSaid : Prop := callconvPreservesRow.holds Tryz.pinned (OpenSpec.ofChange callconvPreservesSpec)

/-- ITS FALSE NEIGHBOUR: 'it returns false'. Refute it at one input. -/
def callconvPreservesWrong : ChangeSpec := { name := "callconvPreserves", fn := fun _ => fun
  | [d] => { results := [.lit (.bool false)], args := [d] }
  | _ => none }
def CallconvPreservesWrongFalsely : Prop := callconvPreservesRow.holds Tryz.pinned (OpenSpec.ofChange callconvPreservesWrong)

/-- 'decompilerlaw30.CallconvOf': WHATEVER THE INPUT: true; the input reads as it did. -/
def callconvOfSpec : ChangeSpec := { name := "callconvOf", fn := fun _ => fun
  | [d1, d2, d3] => { results := [.lit (.bool true)], args := [d1, d2, d3] }
  | _ => none }
def callconvOfRow : OpenClaim := { program := "ytihlaappclhhaaagreat", sum := "2a9563c72cd437be333b8295ac10ebded8c3fbf9f5a1a873c71a13797217fd20", func := "decompiler/decompilerlaw30.CallconvOf", spec := "callconvOf", unfollowed := true, recurses := true, loops := true, apart := false }
def CallconvOfSaid : Prop := callconvOfRow.holds Tryz.pinned (OpenSpec.ofChange callconvOfSpec)

/-- ITS FALSE NEIGHBOUR: 'it returns false'. Refute it at one input. -/
def callconvOfWrong : ChangeSpec := { name := "callconvOf", fn := fun _ => fun
  | [d1, d2, d3] => { results := [.lit (.bool false)], args := [d1, d2, d3] }
  | _ => none }
def CallconvOfWrongFalsely : Prop := callconvOfRow.holds Tryz.pinned (OpenSpec.ofChange callconvOfWrong)

/-- 'decompilerlaw30.CallconvAll': WHATEVER THE INPUT: true; the input reads as it did. -/
def callconvAllSpec : ChangeSpec := { name := "callconvAll", fn := fun _ => fun
  | [d] => { results := [.lit (.bool true)], args := [d] }
  | _ => none }
def callconvAllRow : OpenClaim := { program := "ytihlaappclhhaaagreat", sum := "2a9563c72cd437be333b8295ac10ebded8c3fbf9f5a1a873c71a13797217fd20", func := "decompiler/decompilerlaw30.CallconvAll", spec := "callconvAll", unfollowed := true, recurses := true, loops := true, apart := false }
def CallconvAllSaid : Prop := callconvAllRow.holds Tryz.pinned (OpenSpec.ofChange callconvAllSpec)

/-- ITS FALSE NEIGHBOUR: 'it returns false'. Refute it at one input. -/
def callconvAllWrong : ChangeSpec := { name := "callconvAll", fn := fun _ => fun
  | [d] => { results := [.lit (.bool false)], args := [d] }
  | _ => none }
def CallconvAllWrongFalsely : Prop := callconvAllRow.holds Tryz.pinned (OpenSpec.ofChange callconvAllWrong)

/-- 'decompilerlaw30.CallconvClobbers': WHATEVER THE INPUT: true; the input reads as it did. -/
def callconvClobbersSpec : ChangeSpec := { name := "callconvClobbers", fn := fun _ => fun
  | [d] => { results := [.lit (.bool true)], args := [d] }
  | _ => none }
def callconvClobbersRow : OpenClaim := { program := "ytihlaappclhhaaagreat", sum := "2a9563c72cd437be333b8295ac10ebded8c3fbf9f5a1a873c71a13797217fd20", func := "decompiler/decompilerlaw30.CallconvClobbers", spec := "callconvClobbers", unfollowed := true, recurses := true, apart := false }
def CallconvClobbersSaid : Prop := callconvClobbersRow.holds Tryz.pinned (OpenSpec.ofChange callconvClobbersSpec)

/-- ITS FALSE NEIGHBOUR: 'it returns false'. Refute it at one input. -/
def callconvClobbersWrong : ChangeSpec := { name := "callconvClobbers", fn := fun _ => fun
  | [d] => { results := [.lit (.bool false)], args := [d] }
  | _ => none }
def CallconvClobbersWrongFalsely : Prop := callconvClobbersRow.holds Tryz.pinned (OpenSpec.ofChange callconvClobbersWrong)

/-- 'decompilerlaw30.CallconvPrune': WHATEVER THE INPUT: true; the input reads as it did. -/
def callconvPruneSpec : ChangeSpec := { name := "callconvPrune", fn := fun _ => fun
  | [d1, d2, d3] => { results := [.lit (.bool true)], args := [d1, d2, d3] }
  | _ => none }
def callconvPruneRow : OpenClaim := { program := "ytihlaappclhhaaagreat", sum := "2a9563c72cd437be333b8295ac10ebded8c3fbf9f5a1a873c71a13797217fd20", func := "decompiler/decompilerlaw30.CallconvPrune", spec := "callconvPrune", unfollowed := true, recurses := true, loops := true, apart := false }
def CallconvPruneSaid : Prop := callconvPruneRow.holds Tryz.pinned (OpenSpec.ofChange callconvPruneSpec)

/-- ITS FALSE NEIGHBOUR: 'it returns false'. Refute it at one input. -/
def callconvPruneWrong : ChangeSpec := { name := "callconvPrune", fn := fun _ => fun
  | [d1, d2, d3] => { results := [.lit (.bool false)], args := [d1, d2, d3] }
  | _ => none }
def CallconvPruneWrongFalsely : Prop := callconvPruneRow.holds Tryz.pinned (OpenSpec.ofChange callconvPruneWrong)

/-- 'decompilerlaw30.CallconvPruneRuns': WHATEVER THE INPUT: true; the input reads as it did. -/
def callconvPruneRunsSpec : ChangeSpec := { name := "callconvPruneRuns", fn := fun _ => fun
  | [d] => { results := [.lit (.bool true)], args := [d] }
  | _ => none }
def callconvPruneRunsRow : OpenClaim := { program := "ytihlaappclhhaaagreat", sum := "2a9563c72cd437be333b8295ac10ebded8c3fbf9f5a1a873c71a13797217fd20", func := "decompiler/decompilerlaw30.CallconvPruneRuns", spec := "callconvPruneRuns", unfollowed := true, recurses := true, loops := true, apart := false }
def CallconvPruneRunsSaid : Prop := callconvPruneRunsRow.holds Tryz.pinned (OpenSpec.ofChange callconvPruneRunsSpec)

/-- ITS FALSE NEIGHBOUR: 'it returns false'. Refute it at one input. -/
def callconvPruneRunsWrong : ChangeSpec := { name := "callconvPruneRuns", fn := fun _ => fun
  | [d] => { results := [.lit (.bool false)], args := [d] }
  | _ => none }
def CallconvPruneRunsWrongFalsely : Prop := callconvPruneRunsRow.holds Tryz.pinned (OpenSpec.ofChange callconvPruneRunsWrong)

/- THE SECOND FORM. 'bulk': how many values and letters a reading holds, each counted each time it is reached (what is shared counts as often as it is met; a slice's spare places count too). A statement '..UptoSaid' is the law's where the arguments, and the package variables that the reading takes, are together of bulk at most 1048576: NARROWER than '..Said'. Prove '..Said' where nothing that the law and all that it calls make is longer than what came in: it says more and counts as full. Else prove '..UptoSaid'. A law counts once. -/
mutual
def uptoBulk {H : Type} : DataW H → Nat
  | .lit (.string bytes) => bytes.length + 1
  | .lit _ => 1
  | .nil => 1
  | .ptr d => uptoBulk d + 1
  | .slice elems spare => uptoBulkAll elems + uptoBulkAll spare + 1
  | .agg parts => uptoBulkAll parts + 1
  | .iface _ d => uptoBulk d + 1
  | .map entries => uptoBulkEntries entries + 1
  | .held _ => 1
def uptoBulkAll {H : Type} : List (DataW H) → Nat
  | [] => 0
  | d :: r => uptoBulk d + uptoBulkAll r
def uptoBulkEntries {H : Type} : List (Lit × DataW H) → Nat
  | [] => 0
  | x :: r => uptoBulkEntry x + uptoBulkEntries r
def uptoBulkEntry {H : Type} : Lit × DataW H → Nat
  | (.string bytes, d) => bytes.length + uptoBulk d + 1
  | (_, d) => uptoBulk d + 1
 end
def uptoSmall : (H : Type) → List (DataW H) → Bool := fun _ ds => decide (uptoBulkAll ds ≤ 1048576)
def OpenSpec.upto (s : _root_.Go.ChangeSpec) : _root_.Go.OpenSpec := { _root_.Go.OpenSpec.ofChange s with cond := some uptoSmall }

/-- 'decompilerlaw30.CallconvSound', WHERE WHAT IT READS IS OF BULK AT MOST 1048576: true; the input reads as it did. -/
def callconvSoundUptoRow : OpenClaim := { program := "ytihlaappclhhaaagreat", sum := "2a9563c72cd437be333b8295ac10ebded8c3fbf9f5a1a873c71a13797217fd20", func := "decompiler/decompilerlaw30.CallconvSound", spec := "callconvSound", unfollowed := true, recurses := true, loops := true, apart := false, narrowed := true }
def CallconvSoundUptoSaid : Prop := callconvSoundUptoRow.holds Tryz.pinned (OpenSpec.upto callconvSoundSpec)

/-- 'decompilerlaw30.CallconvPreserves', WHERE WHAT IT READS IS OF BULK AT MOST 1048576: true; the input reads as it did. -/
def callconvPreservesUptoRow : OpenClaim := { program := "ytihlaappclhhaaagreat", sum := "2a9563c72cd437be333b8295ac10ebded8c3fbf9f5a1a873c71a13797217fd20", func := "decompiler/decompilerlaw30.CallconvPreserves", spec := "callconvPreserves", unfollowed := true, recurses := true, loops := true, apart := false, narrowed := true }
def CallconvPreservesUptoSaid : Prop := callconvPreservesUptoRow.holds Tryz.pinned (OpenSpec.upto callconvPreservesSpec)

/-- 'decompilerlaw30.CallconvOf', WHERE WHAT IT READS IS OF BULK AT MOST 1048576: true; the input reads as it did. -/
def callconvOfUptoRow : OpenClaim := { program := "ytihlaappclhhaaagreat", sum := "2a9563c72cd437be333b8295ac10ebded8c3fbf9f5a1a873c71a13797217fd20", func := "decompiler/decompilerlaw30.CallconvOf", spec := "callconvOf", unfollowed := true, recurses := true, loops := true, apart := false, narrowed := true }
def CallconvOfUptoSaid : Prop := callconvOfUptoRow.holds Tryz.pinned (OpenSpec.upto callconvOfSpec)

/-- 'decompilerlaw30.CallconvAll', WHERE WHAT IT READS IS OF BULK AT MOST 1048576: true; the input reads as it did. -/
def callconvAllUptoRow : OpenClaim := { program := "ytihlaappclhhaaagreat", sum := "2a9563c72cd437be333b8295ac10ebded8c3fbf9f5a1a873c71a13797217fd20", func := "decompiler/decompilerlaw30.CallconvAll", spec := "callconvAll", unfollowed := true, recurses := true, loops := true, apart := false, narrowed := true }
def CallconvAllUptoSaid : Prop := callconvAllUptoRow.holds Tryz.pinned (OpenSpec.upto callconvAllSpec)

/-- 'decompilerlaw30.CallconvClobbers', WHERE WHAT IT READS IS OF BULK AT MOST 1048576: true; the input reads as it did. -/
def callconvClobbersUptoRow : OpenClaim := { program := "ytihlaappclhhaaagreat", sum := "2a9563c72cd437be333b8295ac10ebded8c3fbf9f5a1a873c71a13797217fd20", func := "decompiler/decompilerlaw30.CallconvClobbers", spec := "callconvClobbers", unfollowed := true, recurses := true, apart := false, narrowed := true }
def CallconvClobbersUptoSaid : Prop := callconvClobbersUptoRow.holds Tryz.pinned (OpenSpec.upto callconvClobbersSpec)

/-- 'decompilerlaw30.CallconvPrune', WHERE WHAT IT READS IS OF BULK AT MOST 1048576: true; the input reads as it did. -/
def callconvPruneUptoRow : OpenClaim := { program := "ytihlaappclhhaaagreat", sum := "2a9563c72cd437be333b8295ac10ebded8c3fbf9f5a1a873c71a13797217fd20", func := "decompiler/decompilerlaw30.CallconvPrune", spec := "callconvPrune", unfollowed := true, recurses := true, loops := true, apart := false, narrowed := true }
def CallconvPruneUptoSaid : Prop := callconvPruneUptoRow.holds Tryz.pinned (OpenSpec.upto callconvPruneSpec)

/-- 'decompilerlaw30.CallconvPruneRuns', WHERE WHAT IT READS IS OF BULK AT MOST 1048576: true; the input reads as it did. -/
def callconvPruneRunsUptoRow : OpenClaim := { program := "ytihlaappclhhaaagreat", sum := "2a9563c72cd437be333b8295ac10ebded8c3fbf9f5a1a873c71a13797217fd20", func := "decompiler/decompilerlaw30.CallconvPruneRuns", spec := "callconvPruneRuns", unfollowed := true, recurses := true, loops := true, apart := false, narrowed := true }
def CallconvPruneRunsUptoSaid : Prop := callconvPruneRunsUptoRow.holds Tryz.pinned (OpenSpec.upto callconvPruneRunsSpec)

end Rows
end Go.Proofs.YtihlaappclhhaaaGreat
