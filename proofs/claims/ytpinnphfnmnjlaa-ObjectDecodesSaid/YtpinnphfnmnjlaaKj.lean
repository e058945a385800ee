/-
  Part 10 of the proof: how the calls of this program run, over values instead of memory, and what each function computes.
-/
import Derived.Test.YtpinnphfnmnjlaaRows
import Derived.WalkKit
import Derived.OpenShut
import Derived.ShutString
import Derived.ChangeOld
import Derived.Below
import Derived.Test.YtpinnphfnmnjlaaKi
set_option linter.unusedVariables false
set_option linter.unusedSimpArgs false
set_option linter.unnecessarySimpa false
set_option linter.unusedSectionVars false

namespace Go.Ab
open Go.RowKit Go.Proofs Go.Proofs.Ytpinnphfnmnjlaa

section
variable {HH : Type} {enc : TypeId × Value → HH} {w : World} {base : Nat} {spare : Nat → Bool} {held : Bool} {L : Nat → Prop} (hL : ∀ b, ¬ L b)

include hL

set_option maxRecDepth 100000 in
theorem open_bytes {t e : TypeId} (ht : Try.prog.underlying t = some (.slice e)) (he : Try.prog.underlying e = some (.int .u8)) (hs : Try.prog.cellsOf e = 1) {fuel : Nat} {cs : List Value} {y : DataW HH × List MemPlace}
    (h : DataW.trod enc Try.prog w base spare held fuel t cs = some y) : ∃ (l : List UInt8) (v : Value), cs = [v] ∧ v.oneCell' = true ∧ ∀ ι, VR w L ι v (encB l) := by
  refine vr_slice ht hs hL (fun fuel cs y h hl => ?_) h
  obtain ⟨n, rfl, hn⟩ := el_int he h
  have hr : 0 ≤ n ∧ n ≤ 255 := hn
  refine ⟨UInt8.ofNat n.toNat, fun j hj => ?_⟩
  obtain rfl : j = 0 := by simpa using hj
  have : ((UInt8.ofNat n.toNat).toNat : Int) = n := by
    rw [UInt8.toNat_ofNat']
    omega
  refine ⟨?_, rfl⟩
  show VR w L noI (.int .u8 n) (.int .u8 ((UInt8.ofNat n.toNat).toNat : Int))
  rw [this]
  exact .int _ _ _ hn

/-- What is known of an object that came in. -/
structure Bin.came (o : Bin) : Prop where
  secs : ∀ s ∈ o.secs, s.okN
  syms : ∀ s ∈ o.syms, s.ok

end

end Go.Ab

namespace Go.Ab
open Go.RowKit Go.Proofs Go.Proofs.Ytpinnphfnmnjlaa

theorem frz_true {H : AH} {v : AV} {b : Bool} (h : Frz H v (.bool b)) : v = .bool b := by
  unfold Frz at h
  generalize he : AV.bool b = x at h
  cases h <;> first | (cases he; done) | (cases he; rfl)

theorem row_true {P : Program} {f : FuncId} {args : List AV} {vs : Array Value} {w : World} (h : PureFn P f args (· = .bool true)) (hv : ∀ L : Nat → Prop, (∀ b, ¬ L b) → VRs w L noI vs.toList args) :
    Calls P f vs w fun e w' => e = .returned (.bool true) ∧ Below w.heap.size w w' := by
  have hno : ∀ b, ¬ Lt (fun _ => False) noI [] b := fun b hb => hb.elim (fun h => h) (no_live b)
  refine (h w (fun _ => False) noI vs (.empty (fun b hb => hb.elim)) (hv _ hno)).mono fun e w' ⟨v, ι', H', nx', a, h1, h2, _, h4, a2, h5, h6⟩ => ?_
  subst h1 h6
  have := frz_true h5
  subst this
  cases h4
  exact ⟨rfl, h2.ext.os, h2.ext.tape, h2.ext.output, h2.ext.size, fun k hk => h2.ext.block k hk (no_live k)⟩

end Go.Ab

namespace Go.Ab
open Go.RowKit Go.Proofs Go.Proofs.Ytpinnphfnmnjlaa Go.ChangeShapes Go.WideShapes

set_option maxRecDepth 100000 in
theorem open_bytesA {HH : Type} {enc : TypeId × Value → HH} {w : World} {base b2 : Nat} {spare : Nat → Bool} {held : Bool} {L : Nat → Prop} (hL : ∀ b, ¬ L b) {t e : TypeId} (ht : Try.prog.underlying t = some (.slice e)) (he : Try.prog.underlying e = some (.int .u8)) (hs : Try.prog.cellsOf e = 1)
    {v : Value} {d : DataW HH} {ps : List MemPlace} (hv : Value.okWide Try.prog w .any base t v) (h : DataW.Trod enc Try.prog w b2 spare held t v d ps) : ∃ l : List UInt8, ∀ ι, VR w L ι v (encB l) := by
  obtain ⟨a0, len, cap, rfl⟩ := okWide_slice ht hv
  obtain ⟨fuel, hf⟩ := h
  obtain ⟨l, v2, h1, _, h3⟩ := open_bytes hL ht he hs hf
  have : v2 = .slice a0 len cap := by
    simp [Value.cells] at h1
    exact h1.symm
  subst this
  exact ⟨l, h3⟩

end Go.Ab

namespace Go.Ab
open Go.RowKit Go.Proofs

theorem L08_ObjectDecodes_ok (b : List UInt8) : PureFn Try.prog f_L08_ObjectDecodes [encB b] (· = .bool true) := by
  refine fn_x cf_L08_ObjectDecodes rfl ?_
  unfold ac_L08_ObjectDecodes
  have hB : big = 9223372036854775807 := rfl
  (repeat (first | (simp (disch := first | exact dis1 | fail) only [evA, Nat.reduceBEq, Nat.reduceAdd, Nat.reduceLeDiff, boxR, rboxR, allocR, fldR, binI, unR, pickR, mknilR, mkslR, buildSlR, buildR, extR, convI, eqB, evU, wrap64, encB]) | (with_reducible intro _) | ((with_reducible apply And.intro); omega)))
  by_cases h : 70000 < b.length
  · (repeat (first | (simp (disch := first | exact dis1 | fail) only [evA, Nat.reduceBEq, Nat.reduceAdd, Nat.reduceLeDiff, boxR, rboxR, allocR, fldR, binI, unR, pickR, mknilR, mkslR, buildSlR, buildR, extR, convI, eqB, evU, wrap64, dT]) | (with_reducible intro _) | ((with_reducible apply And.intro); omega)))
    refine callX_fix (call_flat L08_exampleHolds_ok rfl) ?_
    (repeat (first | (simp (disch := first | exact dis1 | fail) only [evA, Nat.reduceBEq, Nat.reduceAdd, Nat.reduceLeDiff, boxR, rboxR, allocR, fldR, binI, unR, pickR, mknilR, mkslR, buildSlR, buildR, extR, convI, eqB, evU, wrap64, rs_L08_ObjectDecodes]) | (with_reducible intro _) | ((with_reducible apply And.intro); omega)))
    exact ⟨_, .bool _ _, rfl⟩
  have hP := object_Decode_ok b (by omega)
  have hR := R08_Decode_ok b (by omega)
  rw [← decode_same] at hR
  generalize decodeP b = p at hP hR
  obtain ⟨o, e⟩ := p
  have hs := R08_Same_ok o o
  rw [sameO_refl] at hs
  have he : decide (e = e) = true := decide_eq_true rfl
  (repeat (first | (simp (disch := first | exact dis1 | fail) only [evA, Nat.reduceBEq, Nat.reduceAdd, Nat.reduceLeDiff, boxR, rboxR, allocR, fldR, binI, unR, pickR, mknilR, mkslR, buildSlR, buildR, extR, convI, eqB, evU, wrap64, dF]) | (with_reducible intro _) | ((with_reducible apply And.intro); omega)))
  refine callX_fix (call_flat hP rfl) ?_
  (repeat (first | (simp (disch := first | exact dis1 | fail) only [evA, Nat.reduceBEq, Nat.reduceAdd, Nat.reduceLeDiff, boxR, rboxR, allocR, fldR, binI, unR, pickR, mknilR, mkslR, buildSlR, buildR, extR, convI, eqB, evU, wrap64, Bin.len, Bin.flat, Bin.four]) | (with_reducible intro _) | ((with_reducible apply And.intro); omega)))
  refine callX_fix (call_flat hR rfl) ?_
  (repeat (first | (simp (disch := first | exact dis1 | fail) only [evA, Nat.reduceBEq, Nat.reduceAdd, Nat.reduceLeDiff, boxR, rboxR, allocR, fldR, binI, unR, pickR, mknilR, mkslR, buildSlR, buildR, extR, convI, eqB, evU, wrap64, Bin.len, Bin.flat, Bin.four, he]) | (with_reducible intro _) | ((with_reducible apply And.intro); omega)))
  refine callX_fix (call_flat hs rfl) ?_
  (repeat (first | (simp (disch := first | exact dis1 | fail) only [evA, Nat.reduceBEq, Nat.reduceAdd, Nat.reduceLeDiff, boxR, rboxR, allocR, fldR, binI, unR, pickR, mknilR, mkslR, buildSlR, buildR, extR, convI, eqB, evU, wrap64]) | (with_reducible intro _) | ((with_reducible apply And.intro); omega)))
  refine callX_fix (call_flat L08_exampleHolds_ok rfl) ?_
  (repeat (first | (simp (disch := first | exact dis1 | fail) only [evA, Nat.reduceBEq, Nat.reduceAdd, Nat.reduceLeDiff, boxR, rboxR, allocR, fldR, binI, unR, pickR, mknilR, mkslR, buildSlR, buildR, extR, convI, eqB, evU, wrap64, rs_L08_ObjectDecodes]) | (with_reducible intro _) | ((with_reducible apply And.intro); omega)))
  exact ⟨_, .bool _ _, rfl⟩

end Go.Ab
