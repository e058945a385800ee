/-
  Part 17 of the proof: how the calls of this program run, over values instead of memory, and what each function computes.
-/
import Derived.KernelRfl
import Derived.Test.YtmlhipilbnjhiaaGreatKp
set_option maxRecDepth 100000
set_option linter.unusedVariables false
set_option linter.unusedSimpArgs false
set_option linter.unnecessarySimpa false
set_option linter.unusedSectionVars false

namespace Go.Ab
open Go.RowKit Go.Proofs
def zaQ (op : Int) : Int := if op = 2 then 2 else if op = 1 ∨ op = 4 ∨ op = 7 ∨ op = 8 then 1 else if op = 3 ∨ op = 5 ∨ op = 6 ∨ op = 9 ∨ op = 10 then 0 else -1
def zax (op var width next els tgt : Int) (k : Nat) : Bool := decide (((op = 1 ∨ op = 3) ∨ var = 0) ∧ (op = 2 ∨ width = 0) ∧ ((op = 6 ∨ op = 7) ∨ next = 0) ∧ (op = 7 ∨ els = 0) ∧ (op = 5 ∨ tgt = 0) ∧ (op = 8 ∨ k = 0))
def zas (op var width next els tgt : Int) (k : Nat) : Bool := decide ((((op = 1 ∨ op = 3) ∨ var = 0) ∧ (op = 2 ∨ width = 0) ∧ ((op = 6 ∨ op = 7) ∨ next = 0) ∧ (op = 7 ∨ els = 0) ∧ (op = 5 ∨ tgt = 0) ∧ (op = 8 ∨ k = 0)) ∧ (0 ≤ var ∧ var < 65536) ∧ (op = 2 → width = 1 ∨ width = 2 ∨ width = 4) ∧ (op = 8 → 1 ≤ k ∧ k ≤ 64))
theorem zlO (op : Int) : zaj Tryz.prog zdQ [.int .i64 op] (· = .int .i64 (zaQ op)) := by
  refine fn_x zl3 rfl ?_
  unfold zhn
  by_cases h1 : op = 1
  · have hr : zaQ op = 1 := by unfold zaQ; subst h1; rfl
    rw [hr]
    (repeat first | simp (disch := try exact dis1) only [evD, Nat.reduceBEq, Nat.reduceAdd, Nat.reduceLeDiff, dT, dF, zaL] | with_reducible intro _ | ((with_reducible apply And.intro); omega))
    exact ⟨_, .int _ _ _, rfl⟩
  by_cases h4 : op = 4
  · have hr : zaQ op = 1 := by unfold zaQ; subst h4; rfl
    rw [hr]
    (repeat first | simp (disch := try exact dis1) only [evD, Nat.reduceBEq, Nat.reduceAdd, Nat.reduceLeDiff, dT, dF, zaL] | with_reducible intro _ | ((with_reducible apply And.intro); omega))
    exact ⟨_, .int _ _ _, rfl⟩
  by_cases h7 : op = 7
  · have hr : zaQ op = 1 := by unfold zaQ; subst h7; rfl
    rw [hr]
    (repeat first | simp (disch := try exact dis1) only [evD, Nat.reduceBEq, Nat.reduceAdd, Nat.reduceLeDiff, dT, dF, zaL] | with_reducible intro _ | ((with_reducible apply And.intro); omega))
    exact ⟨_, .int _ _ _, rfl⟩
  by_cases h8 : op = 8
  · have hr : zaQ op = 1 := by unfold zaQ; subst h8; rfl
    rw [hr]
    (repeat first | simp (disch := try exact dis1) only [evD, Nat.reduceBEq, Nat.reduceAdd, Nat.reduceLeDiff, dT, dF, zaL] | with_reducible intro _ | ((with_reducible apply And.intro); omega))
    exact ⟨_, .int _ _ _, rfl⟩
  by_cases h2 : op = 2
  · have hr : zaQ op = 2 := by unfold zaQ; subst h2; rfl
    rw [hr]
    (repeat first | simp (disch := try exact dis1) only [evD, Nat.reduceBEq, Nat.reduceAdd, Nat.reduceLeDiff, dT, dF, zaL] | with_reducible intro _ | ((with_reducible apply And.intro); omega))
    exact ⟨_, .int _ _ _, rfl⟩
  by_cases h3 : op = 3
  · have hr : zaQ op = 0 := by unfold zaQ; subst h3; rfl
    rw [hr]
    (repeat first | simp (disch := try exact dis1) only [evD, Nat.reduceBEq, Nat.reduceAdd, Nat.reduceLeDiff, dT, dF, zaL] | with_reducible intro _ | ((with_reducible apply And.intro); omega))
    exact ⟨_, .int _ _ _, rfl⟩
  by_cases h5 : op = 5
  · have hr : zaQ op = 0 := by unfold zaQ; subst h5; rfl
    rw [hr]
    (repeat first | simp (disch := try exact dis1) only [evD, Nat.reduceBEq, Nat.reduceAdd, Nat.reduceLeDiff, dT, dF, zaL] | with_reducible intro _ | ((with_reducible apply And.intro); omega))
    exact ⟨_, .int _ _ _, rfl⟩
  by_cases h6 : op = 6
  · have hr : zaQ op = 0 := by unfold zaQ; subst h6; rfl
    rw [hr]
    (repeat first | simp (disch := try exact dis1) only [evD, Nat.reduceBEq, Nat.reduceAdd, Nat.reduceLeDiff, dT, dF, zaL] | with_reducible intro _ | ((with_reducible apply And.intro); omega))
    exact ⟨_, .int _ _ _, rfl⟩
  by_cases h9 : op = 9
  · have hr : zaQ op = 0 := by unfold zaQ; subst h9; rfl
    rw [hr]
    (repeat first | simp (disch := try exact dis1) only [evD, Nat.reduceBEq, Nat.reduceAdd, Nat.reduceLeDiff, dT, dF, zaL] | with_reducible intro _ | ((with_reducible apply And.intro); omega))
    exact ⟨_, .int _ _ _, rfl⟩
  by_cases h10 : op = 10
  · have hr : zaQ op = 0 := by unfold zaQ; subst h10; rfl
    rw [hr]
    (repeat first | simp (disch := try exact dis1) only [evD, Nat.reduceBEq, Nat.reduceAdd, Nat.reduceLeDiff, dT, dF, zaL] | with_reducible intro _ | ((with_reducible apply And.intro); omega))
    exact ⟨_, .int _ _ _, rfl⟩
  have hr : zaQ op = -1 := by unfold zaQ; rw [if_neg (by omega), if_neg (by omega), if_neg (by omega)]
  rw [hr]
  (repeat first | simp (disch := try exact dis1) only [evD, Nat.reduceBEq, Nat.reduceAdd, Nat.reduceLeDiff, dT, dF, zaL] | with_reducible intro _ | ((with_reducible apply And.intro); omega))
  exact ⟨_, .int _ _ _, rfl⟩
theorem zry (op : Int) (h1 : 1 ≤ op) (h2 : op ≤ 10) : zaj Tryz.prog zil [.int .i64 op] (· = .int .i64 (zaQ op)) := by
  refine fn_x zrQ rfl ?_
  unfold zmd
  by_cases h2 : op = 2
  · have hr : zaQ op = 2 := by unfold zaQ; subst h2; rfl
    rw [hr]
    (repeat first | simp (disch := try exact dis1) only [evD, Nat.reduceBEq, Nat.reduceAdd, Nat.reduceLeDiff, dT, dF, zdj] | with_reducible intro _ | ((with_reducible apply And.intro); omega))
    exact ⟨_, .int _ _ _, rfl⟩
  by_cases h1 : op = 1
  · have hr : zaQ op = 1 := by unfold zaQ; subst h1; rfl
    rw [hr]
    (repeat first | simp (disch := try exact dis1) only [evD, Nat.reduceBEq, Nat.reduceAdd, Nat.reduceLeDiff, dT, dF, zdj] | with_reducible intro _ | ((with_reducible apply And.intro); omega))
    exact ⟨_, .int _ _ _, rfl⟩
  by_cases h4 : op = 4
  · have hr : zaQ op = 1 := by unfold zaQ; subst h4; rfl
    rw [hr]
    (repeat first | simp (disch := try exact dis1) only [evD, Nat.reduceBEq, Nat.reduceAdd, Nat.reduceLeDiff, dT, dF, zdj] | with_reducible intro _ | ((with_reducible apply And.intro); omega))
    exact ⟨_, .int _ _ _, rfl⟩
  by_cases h7 : op = 7
  · have hr : zaQ op = 1 := by unfold zaQ; subst h7; rfl
    rw [hr]
    (repeat first | simp (disch := try exact dis1) only [evD, Nat.reduceBEq, Nat.reduceAdd, Nat.reduceLeDiff, dT, dF, zdj] | with_reducible intro _ | ((with_reducible apply And.intro); omega))
    exact ⟨_, .int _ _ _, rfl⟩
  by_cases h8 : op = 8
  · have hr : zaQ op = 1 := by unfold zaQ; subst h8; rfl
    rw [hr]
    (repeat first | simp (disch := try exact dis1) only [evD, Nat.reduceBEq, Nat.reduceAdd, Nat.reduceLeDiff, dT, dF, zdj] | with_reducible intro _ | ((with_reducible apply And.intro); omega))
    exact ⟨_, .int _ _ _, rfl⟩
  have hr : zaQ op = 0 := by unfold zaQ; rw [if_neg (by omega), if_neg (by omega), if_pos (by omega)]
  rw [hr]
  (repeat first | simp (disch := try exact dis1) only [evD, Nat.reduceBEq, Nat.reduceAdd, Nat.reduceLeDiff, dT, dF, zdj] | with_reducible intro _ | ((with_reducible apply And.intro); omega))
  exact ⟨_, .int _ _ _, rfl⟩
theorem zqq (op var width next els tgt : Int) (e : List Ex) (cs : List Int) (h : op = 1) : zaj Tryz.prog zbe [.agg [.int .i64 op, .int .i64 var, .int .i64 width, .int .i64 next, .int .i64 els, .int .u32 tgt, encL 5 encX e, zaa cs]] (· = .bool (zax op var width next els tgt cs.length)) := by
  refine fn_x zbI rfl ?_
  unfold zbq
  have hB := hBig
  (repeat first | simp (disch := try exact dis1) only [evD, Nat.reduceBEq, Nat.reduceAdd, Nat.reduceLeDiff, dT, dF, fldP, zaa, zag] | with_reducible intro _ | ((with_reducible apply And.intro); omega))
  by_cases q0 : width = 0 <;> (repeat first | simp (disch := try exact dis1) only [evD, Nat.reduceBEq, Nat.reduceAdd, Nat.reduceLeDiff, dT, dF, fldP, zaa, zag] | with_reducible intro _ | ((with_reducible apply And.intro); omega))
  case neg =>
    exact ⟨_, .bool _ _, congrArg AV.bool (by unfold zax; exact lb)⟩
  by_cases q1 : next = 0 <;> (repeat first | simp (disch := try exact dis1) only [evD, Nat.reduceBEq, Nat.reduceAdd, Nat.reduceLeDiff, dT, dF, fldP, zaa, zag] | with_reducible intro _ | ((with_reducible apply And.intro); omega))
  case neg =>
    exact ⟨_, .bool _ _, congrArg AV.bool (by unfold zax; exact lb)⟩
  by_cases q2 : els = 0 <;> (repeat first | simp (disch := try exact dis1) only [evD, Nat.reduceBEq, Nat.reduceAdd, Nat.reduceLeDiff, dT, dF, fldP, zaa, zag] | with_reducible intro _ | ((with_reducible apply And.intro); omega))
  case neg =>
    exact ⟨_, .bool _ _, congrArg AV.bool (by unfold zax; exact lb)⟩
  by_cases q3 : tgt = 0 <;> (repeat first | simp (disch := try exact dis1) only [evD, Nat.reduceBEq, Nat.reduceAdd, Nat.reduceLeDiff, dT, dF, fldP, zaa, zag] | with_reducible intro _ | ((with_reducible apply And.intro); omega))
  case neg =>
    exact ⟨_, .bool _ _, congrArg AV.bool (by unfold zax; exact lb)⟩
  exact ⟨_, .bool _ _, congrArg AV.bool (by unfold zax; exact lb)⟩
theorem zrc (op var width next els tgt : Int) (e : List Ex) (cs : List Int) (h : op = 2) : zaj Tryz.prog zbe [.agg [.int .i64 op, .int .i64 var, .int .i64 width, .int .i64 next, .int .i64 els, .int .u32 tgt, encL 5 encX e, zaa cs]] (· = .bool (zax op var width next els tgt cs.length)) := by
  refine fn_x zbI rfl ?_
  unfold zbq
  have hB := hBig
  (repeat first | simp (disch := try exact dis1) only [evD, Nat.reduceBEq, Nat.reduceAdd, Nat.reduceLeDiff, dT, dF, fldP, zaa, zag] | with_reducible intro _ | ((with_reducible apply And.intro); omega))
  by_cases q0 : var = 0 <;> (repeat first | simp (disch := try exact dis1) only [evD, Nat.reduceBEq, Nat.reduceAdd, Nat.reduceLeDiff, dT, dF, fldP, zaa, zag] | with_reducible intro _ | ((with_reducible apply And.intro); omega))
  case neg =>
    exact ⟨_, .bool _ _, congrArg AV.bool (by unfold zax; exact lb)⟩
  by_cases q1 : next = 0 <;> (repeat first | simp (disch := try exact dis1) only [evD, Nat.reduceBEq, Nat.reduceAdd, Nat.reduceLeDiff, dT, dF, fldP, zaa, zag] | with_reducible intro _ | ((with_reducible apply And.intro); omega))
  case neg =>
    exact ⟨_, .bool _ _, congrArg AV.bool (by unfold zax; exact lb)⟩
  by_cases q2 : els = 0 <;> (repeat first | simp (disch := try exact dis1) only [evD, Nat.reduceBEq, Nat.reduceAdd, Nat.reduceLeDiff, dT, dF, fldP, zaa, zag] | with_reducible intro _ | ((with_reducible apply And.intro); omega))
  case neg =>
    exact ⟨_, .bool _ _, congrArg AV.bool (by unfold zax; exact lb)⟩
  by_cases q3 : tgt = 0 <;> (repeat first | simp (disch := try exact dis1) only [evD, Nat.reduceBEq, Nat.reduceAdd, Nat.reduceLeDiff, dT, dF, fldP, zaa, zag] | with_reducible intro _ | ((with_reducible apply And.intro); omega))
  case neg =>
    exact ⟨_, .bool _ _, congrArg AV.bool (by unfold zax; exact lb)⟩
  exact ⟨_, .bool _ _, congrArg AV.bool (by unfold zax; exact lb)⟩
theorem zqR (op var width next els tgt : Int) (e : List Ex) (cs : List Int) (h : op = 3) : zaj Tryz.prog zbe [.agg [.int .i64 op, .int .i64 var, .int .i64 width, .int .i64 next, .int .i64 els, .int .u32 tgt, encL 5 encX e, zaa cs]] (· = .bool (zax op var width next els tgt cs.length)) := by
  refine fn_x zbI rfl ?_
  unfold zbq
  have hB := hBig
  (repeat first | simp (disch := try exact dis1) only [evD, Nat.reduceBEq, Nat.reduceAdd, Nat.reduceLeDiff, dT, dF, fldP, zaa, zag] | with_reducible intro _ | ((with_reducible apply And.intro); omega))
  by_cases q0 : width = 0 <;> (repeat first | simp (disch := try exact dis1) only [evD, Nat.reduceBEq, Nat.reduceAdd, Nat.reduceLeDiff, dT, dF, fldP, zaa, zag] | with_reducible intro _ | ((with_reducible apply And.intro); omega))
  case neg =>
    exact ⟨_, .bool _ _, congrArg AV.bool (by unfold zax; exact lb)⟩
  by_cases q1 : next = 0 <;> (repeat first | simp (disch := try exact dis1) only [evD, Nat.reduceBEq, Nat.reduceAdd, Nat.reduceLeDiff, dT, dF, fldP, zaa, zag] | with_reducible intro _ | ((with_reducible apply And.intro); omega))
  case neg =>
    exact ⟨_, .bool _ _, congrArg AV.bool (by unfold zax; exact lb)⟩
  by_cases q2 : els = 0 <;> (repeat first | simp (disch := try exact dis1) only [evD, Nat.reduceBEq, Nat.reduceAdd, Nat.reduceLeDiff, dT, dF, fldP, zaa, zag] | with_reducible intro _ | ((with_reducible apply And.intro); omega))
  case neg =>
    exact ⟨_, .bool _ _, congrArg AV.bool (by unfold zax; exact lb)⟩
  by_cases q3 : tgt = 0 <;> (repeat first | simp (disch := try exact dis1) only [evD, Nat.reduceBEq, Nat.reduceAdd, Nat.reduceLeDiff, dT, dF, fldP, zaa, zag] | with_reducible intro _ | ((with_reducible apply And.intro); omega))
  case neg =>
    exact ⟨_, .bool _ _, congrArg AV.bool (by unfold zax; exact lb)⟩
  exact ⟨_, .bool _ _, congrArg AV.bool (by unfold zax; exact lb)⟩
theorem zrz (op var width next els tgt : Int) (e : List Ex) (cs : List Int) (h : op = 4) : zaj Tryz.prog zbe [.agg [.int .i64 op, .int .i64 var, .int .i64 width, .int .i64 next, .int .i64 els, .int .u32 tgt, encL 5 encX e, zaa cs]] (· = .bool (zax op var width next els tgt cs.length)) := by
  refine fn_x zbI rfl ?_
  unfold zbq
  have hB := hBig
  (repeat first | simp (disch := try exact dis1) only [evD, Nat.reduceBEq, Nat.reduceAdd, Nat.reduceLeDiff, dT, dF, fldP, zaa, zag] | with_reducible intro _ | ((with_reducible apply And.intro); omega))
  by_cases q0 : var = 0 <;> (repeat first | simp (disch := try exact dis1) only [evD, Nat.reduceBEq, Nat.reduceAdd, Nat.reduceLeDiff, dT, dF, fldP, zaa, zag] | with_reducible intro _ | ((with_reducible apply And.intro); omega))
  case neg =>
    exact ⟨_, .bool _ _, congrArg AV.bool (by unfold zax; exact lb)⟩
  by_cases q1 : width = 0 <;> (repeat first | simp (disch := try exact dis1) only [evD, Nat.reduceBEq, Nat.reduceAdd, Nat.reduceLeDiff, dT, dF, fldP, zaa, zag] | with_reducible intro _ | ((with_reducible apply And.intro); omega))
  case neg =>
    exact ⟨_, .bool _ _, congrArg AV.bool (by unfold zax; exact lb)⟩
  by_cases q2 : next = 0 <;> (repeat first | simp (disch := try exact dis1) only [evD, Nat.reduceBEq, Nat.reduceAdd, Nat.reduceLeDiff, dT, dF, fldP, zaa, zag] | with_reducible intro _ | ((with_reducible apply And.intro); omega))
  case neg =>
    exact ⟨_, .bool _ _, congrArg AV.bool (by unfold zax; exact lb)⟩
  by_cases q3 : els = 0 <;> (repeat first | simp (disch := try exact dis1) only [evD, Nat.reduceBEq, Nat.reduceAdd, Nat.reduceLeDiff, dT, dF, fldP, zaa, zag] | with_reducible intro _ | ((with_reducible apply And.intro); omega))
  case neg =>
    exact ⟨_, .bool _ _, congrArg AV.bool (by unfold zax; exact lb)⟩
  by_cases q4 : tgt = 0 <;> (repeat first | simp (disch := try exact dis1) only [evD, Nat.reduceBEq, Nat.reduceAdd, Nat.reduceLeDiff, dT, dF, fldP, zaa, zag] | with_reducible intro _ | ((with_reducible apply And.intro); omega))
  case neg =>
    exact ⟨_, .bool _ _, congrArg AV.bool (by unfold zax; exact lb)⟩
  exact ⟨_, .bool _ _, congrArg AV.bool (by unfold zax; exact lb)⟩
theorem zq3 (op var width next els tgt : Int) (e : List Ex) (cs : List Int) (h : op = 5) : zaj Tryz.prog zbe [.agg [.int .i64 op, .int .i64 var, .int .i64 width, .int .i64 next, .int .i64 els, .int .u32 tgt, encL 5 encX e, zaa cs]] (· = .bool (zax op var width next els tgt cs.length)) := by
  refine fn_x zbI rfl ?_
  unfold zbq
  have hB := hBig
  (repeat first | simp (disch := try exact dis1) only [evD, Nat.reduceBEq, Nat.reduceAdd, Nat.reduceLeDiff, dT, dF, fldP, zaa, zag] | with_reducible intro _ | ((with_reducible apply And.intro); omega))
  by_cases q0 : var = 0 <;> (repeat first | simp (disch := try exact dis1) only [evD, Nat.reduceBEq, Nat.reduceAdd, Nat.reduceLeDiff, dT, dF, fldP, zaa, zag] | with_reducible intro _ | ((with_reducible apply And.intro); omega))
  case neg =>
    exact ⟨_, .bool _ _, congrArg AV.bool (by unfold zax; exact lb)⟩
  by_cases q1 : width = 0 <;> (repeat first | simp (disch := try exact dis1) only [evD, Nat.reduceBEq, Nat.reduceAdd, Nat.reduceLeDiff, dT, dF, fldP, zaa, zag] | with_reducible intro _ | ((with_reducible apply And.intro); omega))
  case neg =>
    exact ⟨_, .bool _ _, congrArg AV.bool (by unfold zax; exact lb)⟩
  by_cases q2 : next = 0 <;> (repeat first | simp (disch := try exact dis1) only [evD, Nat.reduceBEq, Nat.reduceAdd, Nat.reduceLeDiff, dT, dF, fldP, zaa, zag] | with_reducible intro _ | ((with_reducible apply And.intro); omega))
  case neg =>
    exact ⟨_, .bool _ _, congrArg AV.bool (by unfold zax; exact lb)⟩
  by_cases q3 : els = 0 <;> (repeat first | simp (disch := try exact dis1) only [evD, Nat.reduceBEq, Nat.reduceAdd, Nat.reduceLeDiff, dT, dF, fldP, zaa, zag] | with_reducible intro _ | ((with_reducible apply And.intro); omega))
  case neg =>
    exact ⟨_, .bool _ _, congrArg AV.bool (by unfold zax; exact lb)⟩
  exact ⟨_, .bool _ _, congrArg AV.bool (by unfold zax; exact lb)⟩
theorem zq4 (op var width next els tgt : Int) (e : List Ex) (cs : List Int) (h : op = 6) : zaj Tryz.prog zbe [.agg [.int .i64 op, .int .i64 var, .int .i64 width, .int .i64 next, .int .i64 els, .int .u32 tgt, encL 5 encX e, zaa cs]] (· = .bool (zax op var width next els tgt cs.length)) := by
  refine fn_x zbI rfl ?_
  unfold zbq
  have hB := hBig
  (repeat first | simp (disch := try exact dis1) only [evD, Nat.reduceBEq, Nat.reduceAdd, Nat.reduceLeDiff, dT, dF, fldP, zaa, zag] | with_reducible intro _ | ((with_reducible apply And.intro); omega))
  by_cases q0 : var = 0 <;> (repeat first | simp (disch := try exact dis1) only [evD, Nat.reduceBEq, Nat.reduceAdd, Nat.reduceLeDiff, dT, dF, fldP, zaa, zag] | with_reducible intro _ | ((with_reducible apply And.intro); omega))
  case neg =>
    exact ⟨_, .bool _ _, congrArg AV.bool (by unfold zax; exact lb)⟩
  by_cases q1 : width = 0 <;> (repeat first | simp (disch := try exact dis1) only [evD, Nat.reduceBEq, Nat.reduceAdd, Nat.reduceLeDiff, dT, dF, fldP, zaa, zag] | with_reducible intro _ | ((with_reducible apply And.intro); omega))
  case neg =>
    exact ⟨_, .bool _ _, congrArg AV.bool (by unfold zax; exact lb)⟩
  by_cases q2 : els = 0 <;> (repeat first | simp (disch := try exact dis1) only [evD, Nat.reduceBEq, Nat.reduceAdd, Nat.reduceLeDiff, dT, dF, fldP, zaa, zag] | with_reducible intro _ | ((with_reducible apply And.intro); omega))
  case neg =>
    exact ⟨_, .bool _ _, congrArg AV.bool (by unfold zax; exact lb)⟩
  by_cases q3 : tgt = 0 <;> (repeat first | simp (disch := try exact dis1) only [evD, Nat.reduceBEq, Nat.reduceAdd, Nat.reduceLeDiff, dT, dF, fldP, zaa, zag] | with_reducible intro _ | ((with_reducible apply And.intro); omega))
  case neg =>
    exact ⟨_, .bool _ _, congrArg AV.bool (by unfold zax; exact lb)⟩
  exact ⟨_, .bool _ _, congrArg AV.bool (by unfold zax; exact lb)⟩
theorem zrg (op var width next els tgt : Int) (e : List Ex) (cs : List Int) (h : op = 7) : zaj Tryz.prog zbe [.agg [.int .i64 op, .int .i64 var, .int .i64 width, .int .i64 next, .int .i64 els, .int .u32 tgt, encL 5 encX e, zaa cs]] (· = .bool (zax op var width next els tgt cs.length)) := by
  refine fn_x zbI rfl ?_
  unfold zbq
  have hB := hBig
  (repeat first | simp (disch := try exact dis1) only [evD, Nat.reduceBEq, Nat.reduceAdd, Nat.reduceLeDiff, dT, dF, fldP, zaa, zag] | with_reducible intro _ | ((with_reducible apply And.intro); omega))
  by_cases q0 : var = 0 <;> (repeat first | simp (disch := try exact dis1) only [evD, Nat.reduceBEq, Nat.reduceAdd, Nat.reduceLeDiff, dT, dF, fldP, zaa, zag] | with_reducible intro _ | ((with_reducible apply And.intro); omega))
  case neg =>
    exact ⟨_, .bool _ _, congrArg AV.bool (by unfold zax; exact lb)⟩
  by_cases q1 : width = 0 <;> (repeat first | simp (disch := try exact dis1) only [evD, Nat.reduceBEq, Nat.reduceAdd, Nat.reduceLeDiff, dT, dF, fldP, zaa, zag] | with_reducible intro _ | ((with_reducible apply And.intro); omega))
  case neg =>
    exact ⟨_, .bool _ _, congrArg AV.bool (by unfold zax; exact lb)⟩
  by_cases q2 : tgt = 0 <;> (repeat first | simp (disch := try exact dis1) only [evD, Nat.reduceBEq, Nat.reduceAdd, Nat.reduceLeDiff, dT, dF, fldP, zaa, zag] | with_reducible intro _ | ((with_reducible apply And.intro); omega))
  case neg =>
    exact ⟨_, .bool _ _, congrArg AV.bool (by unfold zax; exact lb)⟩
  exact ⟨_, .bool _ _, congrArg AV.bool (by unfold zax; exact lb)⟩
theorem zqJ (op var width next els tgt : Int) (e : List Ex) (cs : List Int) (h : op = 8) : zaj Tryz.prog zbe [.agg [.int .i64 op, .int .i64 var, .int .i64 width, .int .i64 next, .int .i64 els, .int .u32 tgt, encL 5 encX e, zaa cs]] (· = .bool (zax op var width next els tgt cs.length)) := by
  refine fn_x zbI rfl ?_
  unfold zbq
  have hB := hBig
  (repeat first | simp (disch := try exact dis1) only [evD, Nat.reduceBEq, Nat.reduceAdd, Nat.reduceLeDiff, dT, dF, fldP, zaa, zag] | with_reducible intro _ | ((with_reducible apply And.intro); omega))
  by_cases q0 : var = 0 <;> (repeat first | simp (disch := try exact dis1) only [evD, Nat.reduceBEq, Nat.reduceAdd, Nat.reduceLeDiff, dT, dF, fldP, zaa, zag] | with_reducible intro _ | ((with_reducible apply And.intro); omega))
  case neg =>
    exact ⟨_, .bool _ _, congrArg AV.bool (by unfold zax; exact lb)⟩
  by_cases q1 : width = 0 <;> (repeat first | simp (disch := try exact dis1) only [evD, Nat.reduceBEq, Nat.reduceAdd, Nat.reduceLeDiff, dT, dF, fldP, zaa, zag] | with_reducible intro _ | ((with_reducible apply And.intro); omega))
  case neg =>
    exact ⟨_, .bool _ _, congrArg AV.bool (by unfold zax; exact lb)⟩
  by_cases q2 : next = 0 <;> (repeat first | simp (disch := try exact dis1) only [evD, Nat.reduceBEq, Nat.reduceAdd, Nat.reduceLeDiff, dT, dF, fldP, zaa, zag] | with_reducible intro _ | ((with_reducible apply And.intro); omega))
  case neg =>
    exact ⟨_, .bool _ _, congrArg AV.bool (by unfold zax; exact lb)⟩
  by_cases q3 : els = 0 <;> (repeat first | simp (disch := try exact dis1) only [evD, Nat.reduceBEq, Nat.reduceAdd, Nat.reduceLeDiff, dT, dF, fldP, zaa, zag] | with_reducible intro _ | ((with_reducible apply And.intro); omega))
  case neg =>
    exact ⟨_, .bool _ _, congrArg AV.bool (by unfold zax; exact lb)⟩
  by_cases q4 : tgt = 0 <;> (repeat first | simp (disch := try exact dis1) only [evD, Nat.reduceBEq, Nat.reduceAdd, Nat.reduceLeDiff, dT, dF, fldP, zaa, zag] | with_reducible intro _ | ((with_reducible apply And.intro); omega))
  case neg =>
    exact ⟨_, .bool _ _, congrArg AV.bool (by unfold zax; exact lb)⟩
  exact ⟨_, .bool _ _, congrArg AV.bool (by unfold zax; exact lb)⟩
theorem zrD (op var width next els tgt : Int) (e : List Ex) (cs : List Int) (h : op = 9) : zaj Tryz.prog zbe [.agg [.int .i64 op, .int .i64 var, .int .i64 width, .int .i64 next, .int .i64 els, .int .u32 tgt, encL 5 encX e, zaa cs]] (· = .bool (zax op var width next els tgt cs.length)) := by
  refine fn_x zbI rfl ?_
  unfold zbq
  have hB := hBig
  (repeat first | simp (disch := try exact dis1) only [evD, Nat.reduceBEq, Nat.reduceAdd, Nat.reduceLeDiff, dT, dF, fldP, zaa, zag] | with_reducible intro _ | ((with_reducible apply And.intro); omega))
  by_cases q0 : var = 0 <;> (repeat first | simp (disch := try exact dis1) only [evD, Nat.reduceBEq, Nat.reduceAdd, Nat.reduceLeDiff, dT, dF, fldP, zaa, zag] | with_reducible intro _ | ((with_reducible apply And.intro); omega))
  case neg =>
    exact ⟨_, .bool _ _, congrArg AV.bool (by unfold zax; exact lb)⟩
  by_cases q1 : width = 0 <;> (repeat first | simp (disch := try exact dis1) only [evD, Nat.reduceBEq, Nat.reduceAdd, Nat.reduceLeDiff, dT, dF, fldP, zaa, zag] | with_reducible intro _ | ((with_reducible apply And.intro); omega))
  case neg =>
    exact ⟨_, .bool _ _, congrArg AV.bool (by unfold zax; exact lb)⟩
  by_cases q2 : next = 0 <;> (repeat first | simp (disch := try exact dis1) only [evD, Nat.reduceBEq, Nat.reduceAdd, Nat.reduceLeDiff, dT, dF, fldP, zaa, zag] | with_reducible intro _ | ((with_reducible apply And.intro); omega))
  case neg =>
    exact ⟨_, .bool _ _, congrArg AV.bool (by unfold zax; exact lb)⟩
  by_cases q3 : els = 0 <;> (repeat first | simp (disch := try exact dis1) only [evD, Nat.reduceBEq, Nat.reduceAdd, Nat.reduceLeDiff, dT, dF, fldP, zaa, zag] | with_reducible intro _ | ((with_reducible apply And.intro); omega))
  case neg =>
    exact ⟨_, .bool _ _, congrArg AV.bool (by unfold zax; exact lb)⟩
  by_cases q4 : tgt = 0 <;> (repeat first | simp (disch := try exact dis1) only [evD, Nat.reduceBEq, Nat.reduceAdd, Nat.reduceLeDiff, dT, dF, fldP, zaa, zag] | with_reducible intro _ | ((with_reducible apply And.intro); omega))
  case neg =>
    exact ⟨_, .bool _ _, congrArg AV.bool (by unfold zax; exact lb)⟩
  exact ⟨_, .bool _ _, congrArg AV.bool (by unfold zax; exact lb)⟩
theorem zpl (op var width next els tgt : Int) (e : List Ex) (cs : List Int) (h : op = 10) : zaj Tryz.prog zbe [.agg [.int .i64 op, .int .i64 var, .int .i64 width, .int .i64 next, .int .i64 els, .int .u32 tgt, encL 5 encX e, zaa cs]] (· = .bool (zax op var width next els tgt cs.length)) := by
  refine fn_x zbI rfl ?_
  unfold zbq
  have hB := hBig
  (repeat first | simp (disch := try exact dis1) only [evD, Nat.reduceBEq, Nat.reduceAdd, Nat.reduceLeDiff, dT, dF, fldP, zaa, zag] | with_reducible intro _ | ((with_reducible apply And.intro); omega))
  by_cases q0 : var = 0 <;> (repeat first | simp (disch := try exact dis1) only [evD, Nat.reduceBEq, Nat.reduceAdd, Nat.reduceLeDiff, dT, dF, fldP, zaa, zag] | with_reducible intro _ | ((with_reducible apply And.intro); omega))
  case neg =>
    exact ⟨_, .bool _ _, congrArg AV.bool (by unfold zax; exact lb)⟩
  by_cases q1 : width = 0 <;> (repeat first | simp (disch := try exact dis1) only [evD, Nat.reduceBEq, Nat.reduceAdd, Nat.reduceLeDiff, dT, dF, fldP, zaa, zag] | with_reducible intro _ | ((with_reducible apply And.intro); omega))
  case neg =>
    exact ⟨_, .bool _ _, congrArg AV.bool (by unfold zax; exact lb)⟩
  by_cases q2 : next = 0 <;> (repeat first | simp (disch := try exact dis1) only [evD, Nat.reduceBEq, Nat.reduceAdd, Nat.reduceLeDiff, dT, dF, fldP, zaa, zag] | with_reducible intro _ | ((with_reducible apply And.intro); omega))
  case neg =>
    exact ⟨_, .bool _ _, congrArg AV.bool (by unfold zax; exact lb)⟩
  by_cases q3 : els = 0 <;> (repeat first | simp (disch := try exact dis1) only [evD, Nat.reduceBEq, Nat.reduceAdd, Nat.reduceLeDiff, dT, dF, fldP, zaa, zag] | with_reducible intro _ | ((with_reducible apply And.intro); omega))
  case neg =>
    exact ⟨_, .bool _ _, congrArg AV.bool (by unfold zax; exact lb)⟩
  by_cases q4 : tgt = 0 <;> (repeat first | simp (disch := try exact dis1) only [evD, Nat.reduceBEq, Nat.reduceAdd, Nat.reduceLeDiff, dT, dF, fldP, zaa, zag] | with_reducible intro _ | ((with_reducible apply And.intro); omega))
  case neg =>
    exact ⟨_, .bool _ _, congrArg AV.bool (by unfold zax; exact lb)⟩
  exact ⟨_, .bool _ _, congrArg AV.bool (by unfold zax; exact lb)⟩
theorem zpP (op var width next els tgt : Int) (e : List Ex) (cs : List Int) (h1 : 1 ≤ op) (h2 : op ≤ 10) : zaj Tryz.prog zbe [.agg [.int .i64 op, .int .i64 var, .int .i64 width, .int .i64 next, .int .i64 els, .int .u32 tgt, encL 5 encX e, zaa cs]] (· = .bool (zax op var width next els tgt cs.length)) := by
  by_cases h10 : op = 1
  · exact zqq op var width next els tgt e cs h10
  by_cases h20 : op = 2
  · exact zrc op var width next els tgt e cs h20
  by_cases h30 : op = 3
  · exact zqR op var width next els tgt e cs h30
  by_cases h40 : op = 4
  · exact zrz op var width next els tgt e cs h40
  by_cases h50 : op = 5
  · exact zq3 op var width next els tgt e cs h50
  by_cases h60 : op = 6
  · exact zq4 op var width next els tgt e cs h60
  by_cases h70 : op = 7
  · exact zrg op var width next els tgt e cs h70
  by_cases h80 : op = 8
  · exact zqJ op var width next els tgt e cs h80
  by_cases h90 : op = 9
  · exact zrD op var width next els tgt e cs h90
  by_cases h100 : op = 10
  · exact zpl op var width next els tgt e cs h100
  omega
theorem zr0 (op var width next els tgt : Int) (e : List Ex) (cs : List Int) (h : op = 1) : zaj Tryz.prog zbl [.agg [.int .i64 op, .int .i64 var, .int .i64 width, .int .i64 next, .int .i64 els, .int .u32 tgt, encL 5 encX e, zaa cs]] (· = .bool (zas op var width next els tgt cs.length)) := by
  refine fn_x zb2 rfl ?_
  unfold zbL
  have hB := hBig
  (repeat first | simp (disch := try exact dis1) only [evD, Nat.reduceBEq, Nat.reduceAdd, Nat.reduceLeDiff, dT, dF, fldP, zaa, zad] | with_reducible intro _ | ((with_reducible apply And.intro); omega))
  refine zae (zah (zhf var) rfl) ?_
  unfold zpH
  by_cases hv : 0 ≤ var ∧ var < 65536 <;> (repeat first | simp (disch := try exact dis1) only [evD, Nat.reduceBEq, Nat.reduceAdd, Nat.reduceLeDiff, dT, dF, fldP, zaa, zad] | with_reducible intro _ | ((with_reducible apply And.intro); omega))
  case neg =>
    exact ⟨_, .bool _ _, congrArg AV.bool (by unfold zas; exact lb)⟩
  by_cases q0 : width = 0 <;> (repeat first | simp (disch := try exact dis1) only [evD, Nat.reduceBEq, Nat.reduceAdd, Nat.reduceLeDiff, dT, dF, fldP, zaa, zad] | with_reducible intro _ | ((with_reducible apply And.intro); omega))
  case neg =>
    exact ⟨_, .bool _ _, congrArg AV.bool (by unfold zas; exact lb)⟩
  by_cases q1 : tgt = 0 <;> (repeat first | simp (disch := try exact dis1) only [evD, Nat.reduceBEq, Nat.reduceAdd, Nat.reduceLeDiff, dT, dF, fldP, zaa, zad] | with_reducible intro _ | ((with_reducible apply And.intro); omega))
  case neg =>
    exact ⟨_, .bool _ _, congrArg AV.bool (by unfold zas; exact lb)⟩
  by_cases q2 : next = 0 <;> (repeat first | simp (disch := try exact dis1) only [evD, Nat.reduceBEq, Nat.reduceAdd, Nat.reduceLeDiff, dT, dF, fldP, zaa, zad] | with_reducible intro _ | ((with_reducible apply And.intro); omega))
  case neg =>
    exact ⟨_, .bool _ _, congrArg AV.bool (by unfold zas; exact lb)⟩
  by_cases q3 : els = 0 <;> (repeat first | simp (disch := try exact dis1) only [evD, Nat.reduceBEq, Nat.reduceAdd, Nat.reduceLeDiff, dT, dF, fldP, zaa, zad] | with_reducible intro _ | ((with_reducible apply And.intro); omega))
  case neg =>
    exact ⟨_, .bool _ _, congrArg AV.bool (by unfold zas; exact lb)⟩
  exact ⟨_, .bool _ _, congrArg AV.bool (by unfold zas; exact lb)⟩
theorem zsV (op var width next els tgt : Int) (e : List Ex) (cs : List Int) (h : op = 2) : zaj Tryz.prog zbl [.agg [.int .i64 op, .int .i64 var, .int .i64 width, .int .i64 next, .int .i64 els, .int .u32 tgt, encL 5 encX e, zaa cs]] (· = .bool (zas op var width next els tgt cs.length)) := by
  refine fn_x zb2 rfl ?_
  unfold zbL
  have hB := hBig
  (repeat first | simp (disch := try exact dis1) only [evD, Nat.reduceBEq, Nat.reduceAdd, Nat.reduceLeDiff, dT, dF, fldP, zaa, zad] | with_reducible intro _ | ((with_reducible apply And.intro); omega))
  refine zae (zah (zmE width) rfl) ?_
  unfold zpK
  by_cases hv : width = 1 ∨ width = 2 ∨ width = 4 <;> (repeat first | simp (disch := try exact dis1) only [evD, Nat.reduceBEq, Nat.reduceAdd, Nat.reduceLeDiff, dT, dF, fldP, zaa, zad] | with_reducible intro _ | ((with_reducible apply And.intro); omega))
  case neg =>
    exact ⟨_, .bool _ _, congrArg AV.bool (by unfold zas; exact lb)⟩
  by_cases q0 : var = 0 <;> (repeat first | simp (disch := try exact dis1) only [evD, Nat.reduceBEq, Nat.reduceAdd, Nat.reduceLeDiff, dT, dF, fldP, zaa, zad] | with_reducible intro _ | ((with_reducible apply And.intro); omega))
  case neg =>
    exact ⟨_, .bool _ _, congrArg AV.bool (by unfold zas; exact lb)⟩
  by_cases q1 : tgt = 0 <;> (repeat first | simp (disch := try exact dis1) only [evD, Nat.reduceBEq, Nat.reduceAdd, Nat.reduceLeDiff, dT, dF, fldP, zaa, zad] | with_reducible intro _ | ((with_reducible apply And.intro); omega))
  case neg =>
    exact ⟨_, .bool _ _, congrArg AV.bool (by unfold zas; exact lb)⟩
  by_cases q2 : next = 0 <;> (repeat first | simp (disch := try exact dis1) only [evD, Nat.reduceBEq, Nat.reduceAdd, Nat.reduceLeDiff, dT, dF, fldP, zaa, zad] | with_reducible intro _ | ((with_reducible apply And.intro); omega))
  case neg =>
    exact ⟨_, .bool _ _, congrArg AV.bool (by unfold zas; exact lb)⟩
  by_cases q3 : els = 0 <;> (repeat first | simp (disch := try exact dis1) only [evD, Nat.reduceBEq, Nat.reduceAdd, Nat.reduceLeDiff, dT, dF, fldP, zaa, zad] | with_reducible intro _ | ((with_reducible apply And.intro); omega))
  case neg =>
    exact ⟨_, .bool _ _, congrArg AV.bool (by unfold zas; exact lb)⟩
  exact ⟨_, .bool _ _, congrArg AV.bool (by unfold zas; exact lb)⟩
theorem ztm (op var width next els tgt : Int) (e : List Ex) (cs : List Int) (h : op = 3) : zaj Tryz.prog zbl [.agg [.int .i64 op, .int .i64 var, .int .i64 width, .int .i64 next, .int .i64 els, .int .u32 tgt, encL 5 encX e, zaa cs]] (· = .bool (zas op var width next els tgt cs.length)) := by
  refine fn_x zb2 rfl ?_
  unfold zbL
  have hB := hBig
  (repeat first | simp (disch := try exact dis1) only [evD, Nat.reduceBEq, Nat.reduceAdd, Nat.reduceLeDiff, dT, dF, fldP, zaa, zad] | with_reducible intro _ | ((with_reducible apply And.intro); omega))
  refine zae (zah (zhf var) rfl) ?_
  unfold zpH
  by_cases hv : 0 ≤ var ∧ var < 65536 <;> (repeat first | simp (disch := try exact dis1) only [evD, Nat.reduceBEq, Nat.reduceAdd, Nat.reduceLeDiff, dT, dF, fldP, zaa, zad] | with_reducible intro _ | ((with_reducible apply And.intro); omega))
  case neg =>
    exact ⟨_, .bool _ _, congrArg AV.bool (by unfold zas; exact lb)⟩
  by_cases q0 : width = 0 <;> (repeat first | simp (disch := try exact dis1) only [evD, Nat.reduceBEq, Nat.reduceAdd, Nat.reduceLeDiff, dT, dF, fldP, zaa, zad] | with_reducible intro _ | ((with_reducible apply And.intro); omega))
  case neg =>
    exact ⟨_, .bool _ _, congrArg AV.bool (by unfold zas; exact lb)⟩
  by_cases q1 : tgt = 0 <;> (repeat first | simp (disch := try exact dis1) only [evD, Nat.reduceBEq, Nat.reduceAdd, Nat.reduceLeDiff, dT, dF, fldP, zaa, zad] | with_reducible intro _ | ((with_reducible apply And.intro); omega))
  case neg =>
    exact ⟨_, .bool _ _, congrArg AV.bool (by unfold zas; exact lb)⟩
  by_cases q2 : next = 0 <;> (repeat first | simp (disch := try exact dis1) only [evD, Nat.reduceBEq, Nat.reduceAdd, Nat.reduceLeDiff, dT, dF, fldP, zaa, zad] | with_reducible intro _ | ((with_reducible apply And.intro); omega))
  case neg =>
    exact ⟨_, .bool _ _, congrArg AV.bool (by unfold zas; exact lb)⟩
  by_cases q3 : els = 0 <;> (repeat first | simp (disch := try exact dis1) only [evD, Nat.reduceBEq, Nat.reduceAdd, Nat.reduceLeDiff, dT, dF, fldP, zaa, zad] | with_reducible intro _ | ((with_reducible apply And.intro); omega))
  case neg =>
    exact ⟨_, .bool _ _, congrArg AV.bool (by unfold zas; exact lb)⟩
  exact ⟨_, .bool _ _, congrArg AV.bool (by unfold zas; exact lb)⟩
theorem zsH (op var width next els tgt : Int) (e : List Ex) (cs : List Int) (h : op = 4) : zaj Tryz.prog zbl [.agg [.int .i64 op, .int .i64 var, .int .i64 width, .int .i64 next, .int .i64 els, .int .u32 tgt, encL 5 encX e, zaa cs]] (· = .bool (zas op var width next els tgt cs.length)) := by
  refine fn_x zb2 rfl ?_
  unfold zbL
  have hB := hBig
  (repeat first | simp (disch := try exact dis1) only [evD, Nat.reduceBEq, Nat.reduceAdd, Nat.reduceLeDiff, dT, dF, fldP, zaa, zad] | with_reducible intro _ | ((with_reducible apply And.intro); omega))
  by_cases q0 : var = 0 <;> (repeat first | simp (disch := try exact dis1) only [evD, Nat.reduceBEq, Nat.reduceAdd, Nat.reduceLeDiff, dT, dF, fldP, zaa, zad] | with_reducible intro _ | ((with_reducible apply And.intro); omega))
  case neg =>
    exact ⟨_, .bool _ _, congrArg AV.bool (by unfold zas; exact lb)⟩
  by_cases q1 : width = 0 <;> (repeat first | simp (disch := try exact dis1) only [evD, Nat.reduceBEq, Nat.reduceAdd, Nat.reduceLeDiff, dT, dF, fldP, zaa, zad] | with_reducible intro _ | ((with_reducible apply And.intro); omega))
  case neg =>
    exact ⟨_, .bool _ _, congrArg AV.bool (by unfold zas; exact lb)⟩
  by_cases q2 : tgt = 0 <;> (repeat first | simp (disch := try exact dis1) only [evD, Nat.reduceBEq, Nat.reduceAdd, Nat.reduceLeDiff, dT, dF, fldP, zaa, zad] | with_reducible intro _ | ((with_reducible apply And.intro); omega))
  case neg =>
    exact ⟨_, .bool _ _, congrArg AV.bool (by unfold zas; exact lb)⟩
  by_cases q3 : next = 0 <;> (repeat first | simp (disch := try exact dis1) only [evD, Nat.reduceBEq, Nat.reduceAdd, Nat.reduceLeDiff, dT, dF, fldP, zaa, zad] | with_reducible intro _ | ((with_reducible apply And.intro); omega))
  case neg =>
    exact ⟨_, .bool _ _, congrArg AV.bool (by unfold zas; exact lb)⟩
  by_cases q4 : els = 0 <;> (repeat first | simp (disch := try exact dis1) only [evD, Nat.reduceBEq, Nat.reduceAdd, Nat.reduceLeDiff, dT, dF, fldP, zaa, zad] | with_reducible intro _ | ((with_reducible apply And.intro); omega))
  case neg =>
    exact ⟨_, .bool _ _, congrArg AV.bool (by unfold zas; exact lb)⟩
  exact ⟨_, .bool _ _, congrArg AV.bool (by unfold zas; exact lb)⟩
theorem zsy (op var width next els tgt : Int) (e : List Ex) (cs : List Int) (h : op = 5) : zaj Tryz.prog zbl [.agg [.int .i64 op, .int .i64 var, .int .i64 width, .int .i64 next, .int .i64 els, .int .u32 tgt, encL 5 encX e, zaa cs]] (· = .bool (zas op var width next els tgt cs.length)) := by
  refine fn_x zb2 rfl ?_
  unfold zbL
  have hB := hBig
  (repeat first | simp (disch := try exact dis1) only [evD, Nat.reduceBEq, Nat.reduceAdd, Nat.reduceLeDiff, dT, dF, fldP, zaa, zad] | with_reducible intro _ | ((with_reducible apply And.intro); omega))
  by_cases q0 : var = 0 <;> (repeat first | simp (disch := try exact dis1) only [evD, Nat.reduceBEq, Nat.reduceAdd, Nat.reduceLeDiff, dT, dF, fldP, zaa, zad] | with_reducible intro _ | ((with_reducible apply And.intro); omega))
  case neg =>
    exact ⟨_, .bool _ _, congrArg AV.bool (by unfold zas; exact lb)⟩
  by_cases q1 : width = 0 <;> (repeat first | simp (disch := try exact dis1) only [evD, Nat.reduceBEq, Nat.reduceAdd, Nat.reduceLeDiff, dT, dF, fldP, zaa, zad] | with_reducible intro _ | ((with_reducible apply And.intro); omega))
  case neg =>
    exact ⟨_, .bool _ _, congrArg AV.bool (by unfold zas; exact lb)⟩
  by_cases q2 : next = 0 <;> (repeat first | simp (disch := try exact dis1) only [evD, Nat.reduceBEq, Nat.reduceAdd, Nat.reduceLeDiff, dT, dF, fldP, zaa, zad] | with_reducible intro _ | ((with_reducible apply And.intro); omega))
  case neg =>
    exact ⟨_, .bool _ _, congrArg AV.bool (by unfold zas; exact lb)⟩
  by_cases q3 : els = 0 <;> (repeat first | simp (disch := try exact dis1) only [evD, Nat.reduceBEq, Nat.reduceAdd, Nat.reduceLeDiff, dT, dF, fldP, zaa, zad] | with_reducible intro _ | ((with_reducible apply And.intro); omega))
  case neg =>
    exact ⟨_, .bool _ _, congrArg AV.bool (by unfold zas; exact lb)⟩
  exact ⟨_, .bool _ _, congrArg AV.bool (by unfold zas; exact lb)⟩
theorem zsP (op var width next els tgt : Int) (e : List Ex) (cs : List Int) (h : op = 6) : zaj Tryz.prog zbl [.agg [.int .i64 op, .int .i64 var, .int .i64 width, .int .i64 next, .int .i64 els, .int .u32 tgt, encL 5 encX e, zaa cs]] (· = .bool (zas op var width next els tgt cs.length)) := by
  refine fn_x zb2 rfl ?_
  unfold zbL
  have hB := hBig
  (repeat first | simp (disch := try exact dis1) only [evD, Nat.reduceBEq, Nat.reduceAdd, Nat.reduceLeDiff, dT, dF, fldP, zaa, zad] | with_reducible intro _ | ((with_reducible apply And.intro); omega))
  by_cases q0 : var = 0 <;> (repeat first | simp (disch := try exact dis1) only [evD, Nat.reduceBEq, Nat.reduceAdd, Nat.reduceLeDiff, dT, dF, fldP, zaa, zad] | with_reducible intro _ | ((with_reducible apply And.intro); omega))
  case neg =>
    exact ⟨_, .bool _ _, congrArg AV.bool (by unfold zas; exact lb)⟩
  by_cases q1 : width = 0 <;> (repeat first | simp (disch := try exact dis1) only [evD, Nat.reduceBEq, Nat.reduceAdd, Nat.reduceLeDiff, dT, dF, fldP, zaa, zad] | with_reducible intro _ | ((with_reducible apply And.intro); omega))
  case neg =>
    exact ⟨_, .bool _ _, congrArg AV.bool (by unfold zas; exact lb)⟩
  by_cases q2 : tgt = 0 <;> (repeat first | simp (disch := try exact dis1) only [evD, Nat.reduceBEq, Nat.reduceAdd, Nat.reduceLeDiff, dT, dF, fldP, zaa, zad] | with_reducible intro _ | ((with_reducible apply And.intro); omega))
  case neg =>
    exact ⟨_, .bool _ _, congrArg AV.bool (by unfold zas; exact lb)⟩
  by_cases q3 : els = 0 <;> (repeat first | simp (disch := try exact dis1) only [evD, Nat.reduceBEq, Nat.reduceAdd, Nat.reduceLeDiff, dT, dF, fldP, zaa, zad] | with_reducible intro _ | ((with_reducible apply And.intro); omega))
  case neg =>
    exact ⟨_, .bool _ _, congrArg AV.bool (by unfold zas; exact lb)⟩
  exact ⟨_, .bool _ _, congrArg AV.bool (by unfold zas; exact lb)⟩
theorem ztq (op var width next els tgt : Int) (e : List Ex) (cs : List Int) (h : op = 7) : zaj Tryz.prog zbl [.agg [.int .i64 op, .int .i64 var, .int .i64 width, .int .i64 next, .int .i64 els, .int .u32 tgt, encL 5 encX e, zaa cs]] (· = .bool (zas op var width next els tgt cs.length)) := by
  refine fn_x zb2 rfl ?_
  unfold zbL
  have hB := hBig
  by_cases q0 : var = 0
  case neg =>
    ((repeat first | simp (disch := try exact dis1) only [evD, Nat.reduceBEq, Nat.reduceAdd, Nat.reduceLeDiff, dT, dF, fldP, zaa, zad] | with_reducible intro _ | ((with_reducible apply And.intro); omega)); (repeat' with_reducible apply And.intro) <;> (repeat first | simp (disch := try exact dis1) only [evD, Nat.reduceBEq, Nat.reduceAdd, Nat.reduceLeDiff, dT, dF, fldP, zaa, zad] | with_reducible intro _ | ((with_reducible apply And.intro); omega)); all_goals (exact ⟨_, .bool _ _, congrArg AV.bool (by unfold zas; exact lb)⟩))
  by_cases q1 : width = 0
  case neg =>
    ((repeat first | simp (disch := try exact dis1) only [evD, Nat.reduceBEq, Nat.reduceAdd, Nat.reduceLeDiff, dT, dF, fldP, zaa, zad] | with_reducible intro _ | ((with_reducible apply And.intro); omega)); (repeat' with_reducible apply And.intro) <;> (repeat first | simp (disch := try exact dis1) only [evD, Nat.reduceBEq, Nat.reduceAdd, Nat.reduceLeDiff, dT, dF, fldP, zaa, zad] | with_reducible intro _ | ((with_reducible apply And.intro); omega)); all_goals (exact ⟨_, .bool _ _, congrArg AV.bool (by unfold zas; exact lb)⟩))
  by_cases q2 : tgt = 0
  case neg =>
    ((repeat first | simp (disch := try exact dis1) only [evD, Nat.reduceBEq, Nat.reduceAdd, Nat.reduceLeDiff, dT, dF, fldP, zaa, zad] | with_reducible intro _ | ((with_reducible apply And.intro); omega)); (repeat' with_reducible apply And.intro) <;> (repeat first | simp (disch := try exact dis1) only [evD, Nat.reduceBEq, Nat.reduceAdd, Nat.reduceLeDiff, dT, dF, fldP, zaa, zad] | with_reducible intro _ | ((with_reducible apply And.intro); omega)); all_goals (exact ⟨_, .bool _ _, congrArg AV.bool (by unfold zas; exact lb)⟩))
  by_cases q3 : cs.length = 0
  case neg =>
    ((repeat first | simp (disch := try exact dis1) only [evD, Nat.reduceBEq, Nat.reduceAdd, Nat.reduceLeDiff, dT, dF, fldP, zaa, zad] | with_reducible intro _ | ((with_reducible apply And.intro); omega)); (repeat' with_reducible apply And.intro) <;> (repeat first | simp (disch := try exact dis1) only [evD, Nat.reduceBEq, Nat.reduceAdd, Nat.reduceLeDiff, dT, dF, fldP, zaa, zad] | with_reducible intro _ | ((with_reducible apply And.intro); omega)); all_goals (exact ⟨_, .bool _ _, congrArg AV.bool (by unfold zas; exact lb)⟩))
  ((repeat first | simp (disch := try exact dis1) only [evD, Nat.reduceBEq, Nat.reduceAdd, Nat.reduceLeDiff, dT, dF, fldP, zaa, zad] | with_reducible intro _ | ((with_reducible apply And.intro); omega)); (repeat' with_reducible apply And.intro) <;> (repeat first | simp (disch := try exact dis1) only [evD, Nat.reduceBEq, Nat.reduceAdd, Nat.reduceLeDiff, dT, dF, fldP, zaa, zad] | with_reducible intro _ | ((with_reducible apply And.intro); omega)); all_goals (exact ⟨_, .bool _ _, congrArg AV.bool (by unfold zas; exact lb)⟩))
theorem ztf (op var width next els tgt : Int) (e : List Ex) (cs : List Int) (h : op = 8) : zaj Tryz.prog zbl [.agg [.int .i64 op, .int .i64 var, .int .i64 width, .int .i64 next, .int .i64 els, .int .u32 tgt, encL 5 encX e, zaa cs]] (· = .bool (zas op var width next els tgt cs.length)) := by
  refine fn_x zb2 rfl ?_
  unfold zbL
  have hB := hBig
  (repeat first | simp (disch := try exact dis1) only [evD, Nat.reduceBEq, Nat.reduceAdd, Nat.reduceLeDiff, dT, dF, fldP, zaa, zad] | with_reducible intro _ | ((with_reducible apply And.intro); omega))
  by_cases g1 : 1 ≤ cs.length <;> (repeat first | simp (disch := try exact dis1) only [evD, Nat.reduceBEq, Nat.reduceAdd, Nat.reduceLeDiff, dT, dF, fldP, zaa, zad] | with_reducible intro _ | ((with_reducible apply And.intro); omega))
  case neg =>
    exact ⟨_, .bool _ _, congrArg AV.bool (by unfold zas; exact lb)⟩
  by_cases g2 : cs.length ≤ 64 <;> (repeat first | simp (disch := try exact dis1) only [evD, Nat.reduceBEq, Nat.reduceAdd, Nat.reduceLeDiff, dT, dF, fldP, zaa, zad] | with_reducible intro _ | ((with_reducible apply And.intro); omega))
  case neg =>
    exact ⟨_, .bool _ _, congrArg AV.bool (by unfold zas; exact lb)⟩
  by_cases q0 : var = 0 <;> (repeat first | simp (disch := try exact dis1) only [evD, Nat.reduceBEq, Nat.reduceAdd, Nat.reduceLeDiff, dT, dF, fldP, zaa, zad] | with_reducible intro _ | ((with_reducible apply And.intro); omega))
  case neg =>
    exact ⟨_, .bool _ _, congrArg AV.bool (by unfold zas; exact lb)⟩
  by_cases q1 : width = 0 <;> (repeat first | simp (disch := try exact dis1) only [evD, Nat.reduceBEq, Nat.reduceAdd, Nat.reduceLeDiff, dT, dF, fldP, zaa, zad] | with_reducible intro _ | ((with_reducible apply And.intro); omega))
  case neg =>
    exact ⟨_, .bool _ _, congrArg AV.bool (by unfold zas; exact lb)⟩
  by_cases q2 : tgt = 0 <;> (repeat first | simp (disch := try exact dis1) only [evD, Nat.reduceBEq, Nat.reduceAdd, Nat.reduceLeDiff, dT, dF, fldP, zaa, zad] | with_reducible intro _ | ((with_reducible apply And.intro); omega))
  case neg =>
    exact ⟨_, .bool _ _, congrArg AV.bool (by unfold zas; exact lb)⟩
  by_cases q3 : next = 0 <;> (repeat first | simp (disch := try exact dis1) only [evD, Nat.reduceBEq, Nat.reduceAdd, Nat.reduceLeDiff, dT, dF, fldP, zaa, zad] | with_reducible intro _ | ((with_reducible apply And.intro); omega))
  case neg =>
    exact ⟨_, .bool _ _, congrArg AV.bool (by unfold zas; exact lb)⟩
  by_cases q4 : els = 0 <;> (repeat first | simp (disch := try exact dis1) only [evD, Nat.reduceBEq, Nat.reduceAdd, Nat.reduceLeDiff, dT, dF, fldP, zaa, zad] | with_reducible intro _ | ((with_reducible apply And.intro); omega))
  case neg =>
    exact ⟨_, .bool _ _, congrArg AV.bool (by unfold zas; exact lb)⟩
  exact ⟨_, .bool _ _, congrArg AV.bool (by unfold zas; exact lb)⟩
theorem ztb (op var width next els tgt : Int) (e : List Ex) (cs : List Int) (h : op = 9) : zaj Tryz.prog zbl [.agg [.int .i64 op, .int .i64 var, .int .i64 width, .int .i64 next, .int .i64 els, .int .u32 tgt, encL 5 encX e, zaa cs]] (· = .bool (zas op var width next els tgt cs.length)) := by
  refine fn_x zb2 rfl ?_
  unfold zbL
  have hB := hBig
  (repeat first | simp (disch := try exact dis1) only [evD, Nat.reduceBEq, Nat.reduceAdd, Nat.reduceLeDiff, dT, dF, fldP, zaa, zad] | with_reducible intro _ | ((with_reducible apply And.intro); omega))
  by_cases q0 : var = 0 <;> (repeat first | simp (disch := try exact dis1) only [evD, Nat.reduceBEq, Nat.reduceAdd, Nat.reduceLeDiff, dT, dF, fldP, zaa, zad] | with_reducible intro _ | ((with_reducible apply And.intro); omega))
  case neg =>
    exact ⟨_, .bool _ _, congrArg AV.bool (by unfold zas; exact lb)⟩
  by_cases q1 : width = 0 <;> (repeat first | simp (disch := try exact dis1) only [evD, Nat.reduceBEq, Nat.reduceAdd, Nat.reduceLeDiff, dT, dF, fldP, zaa, zad] | with_reducible intro _ | ((with_reducible apply And.intro); omega))
  case neg =>
    exact ⟨_, .bool _ _, congrArg AV.bool (by unfold zas; exact lb)⟩
  by_cases q2 : tgt = 0 <;> (repeat first | simp (disch := try exact dis1) only [evD, Nat.reduceBEq, Nat.reduceAdd, Nat.reduceLeDiff, dT, dF, fldP, zaa, zad] | with_reducible intro _ | ((with_reducible apply And.intro); omega))
  case neg =>
    exact ⟨_, .bool _ _, congrArg AV.bool (by unfold zas; exact lb)⟩
  by_cases q3 : next = 0 <;> (repeat first | simp (disch := try exact dis1) only [evD, Nat.reduceBEq, Nat.reduceAdd, Nat.reduceLeDiff, dT, dF, fldP, zaa, zad] | with_reducible intro _ | ((with_reducible apply And.intro); omega))
  case neg =>
    exact ⟨_, .bool _ _, congrArg AV.bool (by unfold zas; exact lb)⟩
  by_cases q4 : els = 0 <;> (repeat first | simp (disch := try exact dis1) only [evD, Nat.reduceBEq, Nat.reduceAdd, Nat.reduceLeDiff, dT, dF, fldP, zaa, zad] | with_reducible intro _ | ((with_reducible apply And.intro); omega))
  case neg =>
    exact ⟨_, .bool _ _, congrArg AV.bool (by unfold zas; exact lb)⟩
  exact ⟨_, .bool _ _, congrArg AV.bool (by unfold zas; exact lb)⟩
theorem zq8 (op var width next els tgt : Int) (e : List Ex) (cs : List Int) (h : op = 10) : zaj Tryz.prog zbl [.agg [.int .i64 op, .int .i64 var, .int .i64 width, .int .i64 next, .int .i64 els, .int .u32 tgt, encL 5 encX e, zaa cs]] (· = .bool (zas op var width next els tgt cs.length)) := by
  refine fn_x zb2 rfl ?_
  unfold zbL
  have hB := hBig
  (repeat first | simp (disch := try exact dis1) only [evD, Nat.reduceBEq, Nat.reduceAdd, Nat.reduceLeDiff, dT, dF, fldP, zaa, zad] | with_reducible intro _ | ((with_reducible apply And.intro); omega))
  by_cases q0 : var = 0 <;> (repeat first | simp (disch := try exact dis1) only [evD, Nat.reduceBEq, Nat.reduceAdd, Nat.reduceLeDiff, dT, dF, fldP, zaa, zad] | with_reducible intro _ | ((with_reducible apply And.intro); omega))
  case neg =>
    exact ⟨_, .bool _ _, congrArg AV.bool (by unfold zas; exact lb)⟩
  by_cases q1 : width = 0 <;> (repeat first | simp (disch := try exact dis1) only [evD, Nat.reduceBEq, Nat.reduceAdd, Nat.reduceLeDiff, dT, dF, fldP, zaa, zad] | with_reducible intro _ | ((with_reducible apply And.intro); omega))
  case neg =>
    exact ⟨_, .bool _ _, congrArg AV.bool (by unfold zas; exact lb)⟩
  by_cases q2 : tgt = 0 <;> (repeat first | simp (disch := try exact dis1) only [evD, Nat.reduceBEq, Nat.reduceAdd, Nat.reduceLeDiff, dT, dF, fldP, zaa, zad] | with_reducible intro _ | ((with_reducible apply And.intro); omega))
  case neg =>
    exact ⟨_, .bool _ _, congrArg AV.bool (by unfold zas; exact lb)⟩
  by_cases q3 : next = 0 <;> (repeat first | simp (disch := try exact dis1) only [evD, Nat.reduceBEq, Nat.reduceAdd, Nat.reduceLeDiff, dT, dF, fldP, zaa, zad] | with_reducible intro _ | ((with_reducible apply And.intro); omega))
  case neg =>
    exact ⟨_, .bool _ _, congrArg AV.bool (by unfold zas; exact lb)⟩
  by_cases q4 : els = 0 <;> (repeat first | simp (disch := try exact dis1) only [evD, Nat.reduceBEq, Nat.reduceAdd, Nat.reduceLeDiff, dT, dF, fldP, zaa, zad] | with_reducible intro _ | ((with_reducible apply And.intro); omega))
  case neg =>
    exact ⟨_, .bool _ _, congrArg AV.bool (by unfold zas; exact lb)⟩
  exact ⟨_, .bool _ _, congrArg AV.bool (by unfold zas; exact lb)⟩
theorem zrw (op var width next els tgt : Int) (e : List Ex) (cs : List Int) (h1 : 1 ≤ op) (h2 : op ≤ 10) : zaj Tryz.prog zbl [.agg [.int .i64 op, .int .i64 var, .int .i64 width, .int .i64 next, .int .i64 els, .int .u32 tgt, encL 5 encX e, zaa cs]] (· = .bool (zas op var width next els tgt cs.length)) := by
  by_cases h10 : op = 1
  · exact zr0 op var width next els tgt e cs h10
  by_cases h20 : op = 2
  · exact zsV op var width next els tgt e cs h20
  by_cases h30 : op = 3
  · exact ztm op var width next els tgt e cs h30
  by_cases h40 : op = 4
  · exact zsH op var width next els tgt e cs h40
  by_cases h50 : op = 5
  · exact zsy op var width next els tgt e cs h50
  by_cases h60 : op = 6
  · exact zsP op var width next els tgt e cs h60
  by_cases h70 : op = 7
  · exact ztq op var width next els tgt e cs h70
  by_cases h80 : op = 8
  · exact ztf op var width next els tgt e cs h80
  by_cases h90 : op = 9
  · exact ztb op var width next els tgt e cs h90
  by_cases h100 : op = 10
  · exact zq8 op var width next els tgt e cs h100
  omega
def ziq : List Ex → Int
  | [] => 0
  | x :: l => if zfQ x ≠ 0 then zfQ x else ziq l
theorem znE {l : List Ex} {i : Nat} (h : i < l.length) : ziq (l.drop i) = if zfQ l[i] ≠ 0 then zfQ l[i] else ziq (l.drop (i + 1)) := by
  rw [List.drop_eq_getElem_cons h, ziq]
def zrq (op var width next els tgt : Int) (e : List Ex) (cs : List Int) : Int :=
  if (op < 1 ∨ 10 < op) ∨ zaQ op ≠ e.length then 2 else if ziq e ≠ 0 then ziq e else if zas op var width next els tgt cs.length = true then 0 else 2
theorem zm0 (op var width next els tgt : Int) (e : List Ex) (cs : List Int) : zaj Tryz.prog zdh [.agg [.int .i64 op, .int .i64 var, .int .i64 width, .int .i64 next, .int .i64 els, .int .u32 tgt, encL 5 encX e, zaa cs]] (· = .int .i64 (zrq op var width next els tgt e cs)) := by
  refine fn_x zne rfl ?_
  unfold ziH zrq
  have hB := hBig
  by_cases h1 : 1 ≤ op
  case neg =>
    rw [if_pos (by omega)]
    (repeat first | simp (disch := try exact dis1) only [evD, Nat.reduceBEq, Nat.reduceAdd, Nat.reduceLeDiff, dT, dF, fldP, zaa, zat] | with_reducible intro _ | ((with_reducible apply And.intro); omega))
    exact ⟨_, .int _ _ _, rfl⟩
  by_cases h2 : op ≤ 10
  case neg =>
    rw [if_pos (by omega)]
    (repeat first | simp (disch := try exact dis1) only [evD, Nat.reduceBEq, Nat.reduceAdd, Nat.reduceLeDiff, dT, dF, fldP, zaa, zat] | with_reducible intro _ | ((with_reducible apply And.intro); omega))
    exact ⟨_, .int _ _ _, rfl⟩
  (repeat first | simp (disch := try exact dis1) only [evD, Nat.reduceBEq, Nat.reduceAdd, Nat.reduceLeDiff, dF, fldP, zaa] | with_reducible intro _ | ((with_reducible apply And.intro); omega))
  refine za7 (zah (zry op h1 h2) rfl) ?_
  generalize zaQ op = n
  by_cases h3 : n = e.length
  case neg =>
    rw [if_pos (by omega)]
    (repeat first | simp (disch := try exact dis1) only [evD, Nat.reduceBEq, Nat.reduceAdd, Nat.reduceLeDiff, dT, dF, fldP, zaa, zat] | with_reducible intro _ | ((with_reducible apply And.intro); omega))
    exact ⟨_, .int _ _ _, rfl⟩
  rw [if_neg (by omega)]
  (repeat first | simp (disch := try exact dis1) only [evD, Nat.reduceBEq, Nat.reduceAdd, Nat.reduceLeDiff, dT, dF, fldP, zaa] | with_reducible intro _ | ((with_reducible apply And.intro); omega))
  refine zam (fun i : Nat => ([(1, encP 8 [.int .i64 op, .int .i64 var, .int .i64 width, .int .i64 next, .int .i64 els, .int .u32 tgt, encL 5 encX e, zaa cs]), (3, .int .i64 i)], [])) 0 (fun i => i ≤ e.length ∧ ziq (e.drop i) = ziq e) (fun i => e.length - i) 0 ⟨Nat.zero_le _, rfl⟩ (Ent.keep rfl fin5) ?_
  rintro i ⟨hi, hgo⟩ wf
  unfold zgk
  by_cases hl : i < e.length
  · rw [znE hl] at hgo
    (repeat first | simp (disch := try exact dis1) only [evD, Nat.reduceBEq, Nat.reduceAdd, Nat.reduceLeDiff, fldP, dT, zao hl, zbS, zbh] | with_reducible intro _ | ((with_reducible apply And.intro); omega))
    refine zae (zah (zdV e[i]) (flX rfl)) ?_
    by_cases hx : zfQ e[i] = 0
    · rw [if_neg (by omega)] at hgo
      (repeat first | simp (disch := try exact dis1) only [evD, Nat.reduceBEq, Nat.reduceAdd, Nat.reduceLeDiff, dF] | with_reducible intro _ | ((with_reducible apply And.intro); omega))
      exact ⟨i + 1, ⟨by omega, hgo⟩, by omega, Ent.keep rfl fin5⟩
    · rw [if_pos hx] at hgo
      rw [← hgo, if_pos hx]
      (repeat first | simp (disch := try exact dis1) only [evD, Nat.reduceBEq, Nat.reduceAdd, Nat.reduceLeDiff, dT, zat] | with_reducible intro _ | ((with_reducible apply And.intro); omega))
      exact ⟨_, .int _ _ _, rfl⟩
  rw [List.drop_of_length_le (by omega), ziq] at hgo
  rw [← hgo, if_neg (by omega)]
  (repeat first | simp (disch := try exact dis1) only [evD, Nat.reduceBEq, Nat.reduceAdd, Nat.reduceLeDiff, fldP, dF] | with_reducible intro _ | ((with_reducible apply And.intro); omega))
  unfold zgw
  (repeat first | simp (disch := try exact dis1) only [evD, Nat.reduceBEq, Nat.reduceAdd, Nat.reduceLeDiff, fldP, zgN, tab, List.getD_cons_zero, List.getD_cons_succ, zaa] | with_reducible intro _ | ((with_reducible apply And.intro); omega))
  refine zae (zah (zpP op var width next els tgt e cs h1 h2) rfl) ?_
  cases hu : zax op var width next els tgt cs.length with
  | false =>
    unfold zax at hu
    have hu2 := of_decide_eq_false hu
    rw [if_neg (by unfold zas; rw [dF (fun h => hu2 h.1)]; simp)]
    (repeat first | simp (disch := try exact dis1) only [evD, Nat.reduceBEq, Nat.reduceAdd, Nat.reduceLeDiff, dT, dF, fldP, zaa, zat] | with_reducible intro _ | ((with_reducible apply And.intro); omega))
    exact ⟨_, .int _ _ _, rfl⟩
  | true =>
    unfold zax at hu
    have hu2 := of_decide_eq_true hu
    (repeat first | simp (disch := try exact dis1) only [evD, Nat.reduceBEq, Nat.reduceAdd, Nat.reduceLeDiff, dT, dF, fldP, zaa, zat] | with_reducible intro _ | ((with_reducible apply And.intro); omega))
    refine zae (zah (zmI var) rfl) ?_
    unfold zpH
    by_cases hv : 0 ≤ var ∧ var < 65536
    case neg =>
      rw [if_neg (by unfold zas; rw [dF (fun h => hv h.2.1)]; simp)]
      (repeat first | simp (disch := try exact dis1) only [evD, Nat.reduceBEq, Nat.reduceAdd, Nat.reduceLeDiff, dT, dF, fldP, zaa, zat] | with_reducible intro _ | ((with_reducible apply And.intro); omega))
      exact ⟨_, .int _ _ _, rfl⟩
    (repeat first | simp (disch := try exact dis1) only [evD, Nat.reduceBEq, Nat.reduceAdd, Nat.reduceLeDiff, dT, dF, fldP, zaa, zat] | with_reducible intro _ | ((with_reducible apply And.intro); omega))
    by_cases o2 : op = 2
    · (repeat first | simp (disch := try exact dis1) only [evD, Nat.reduceBEq, Nat.reduceAdd, Nat.reduceLeDiff, dT, dF, fldP, zaa, zat] | with_reducible intro _ | ((with_reducible apply And.intro); omega))
      by_cases w1 : width = 1
      · rw [if_pos (by unfold zas; exact dT ⟨hu2, hv, by omega, by omega⟩)]
        (repeat first | simp (disch := try exact dis1) only [evD, Nat.reduceBEq, Nat.reduceAdd, Nat.reduceLeDiff, dT, dF, fldP, zaa, zat] | with_reducible intro _ | ((with_reducible apply And.intro); omega))
        exact ⟨_, .int _ _ _, rfl⟩
      (repeat first | simp (disch := try exact dis1) only [evD, Nat.reduceBEq, Nat.reduceAdd, Nat.reduceLeDiff, dT, dF, fldP, zaa, zat] | with_reducible intro _ | ((with_reducible apply And.intro); omega))
      by_cases w2 : width = 2
      · rw [if_pos (by unfold zas; exact dT ⟨hu2, hv, by omega, by omega⟩)]
        (repeat first | simp (disch := try exact dis1) only [evD, Nat.reduceBEq, Nat.reduceAdd, Nat.reduceLeDiff, dT, dF, fldP, zaa, zat] | with_reducible intro _ | ((with_reducible apply And.intro); omega))
        exact ⟨_, .int _ _ _, rfl⟩
      (repeat first | simp (disch := try exact dis1) only [evD, Nat.reduceBEq, Nat.reduceAdd, Nat.reduceLeDiff, dT, dF, fldP, zaa, zat] | with_reducible intro _ | ((with_reducible apply And.intro); omega))
      by_cases w4 : width = 4
      · rw [if_pos (by unfold zas; exact dT ⟨hu2, hv, by omega, by omega⟩)]
        (repeat first | simp (disch := try exact dis1) only [evD, Nat.reduceBEq, Nat.reduceAdd, Nat.reduceLeDiff, dT, dF, fldP, zaa, zat] | with_reducible intro _ | ((with_reducible apply And.intro); omega))
        exact ⟨_, .int _ _ _, rfl⟩
      rw [if_neg (by unfold zas; rw [dF (fun h => by have := h.2.2.1 o2; omega)]; simp)]
      (repeat first | simp (disch := try exact dis1) only [evD, Nat.reduceBEq, Nat.reduceAdd, Nat.reduceLeDiff, dT, dF, fldP, zaa, zat] | with_reducible intro _ | ((with_reducible apply And.intro); omega))
      exact ⟨_, .int _ _ _, rfl⟩
    (repeat first | simp (disch := try exact dis1) only [evD, Nat.reduceBEq, Nat.reduceAdd, Nat.reduceLeDiff, dT, dF, fldP, zaa, zat] | with_reducible intro _ | ((with_reducible apply And.intro); omega))
    by_cases o8 : op = 8
    · (repeat first | simp (disch := try exact dis1) only [evD, Nat.reduceBEq, Nat.reduceAdd, Nat.reduceLeDiff, dT, dF, fldP, zaa, zat] | with_reducible intro _ | ((with_reducible apply And.intro); omega))
      by_cases c1 : 1 ≤ cs.length
      case neg =>
        rw [if_neg (by unfold zas; rw [dF (fun h => by have := h.2.2.2 o8; omega)]; simp)]
        (repeat first | simp (disch := try exact dis1) only [evD, Nat.reduceBEq, Nat.reduceAdd, Nat.reduceLeDiff, dT, dF, fldP, zaa, zat] | with_reducible intro _ | ((with_reducible apply And.intro); omega))
        exact ⟨_, .int _ _ _, rfl⟩
      (repeat first | simp (disch := try exact dis1) only [evD, Nat.reduceBEq, Nat.reduceAdd, Nat.reduceLeDiff, dT, dF, fldP, zaa, zat] | with_reducible intro _ | ((with_reducible apply And.intro); omega))
      by_cases c2 : cs.length ≤ 64
      case neg =>
        rw [if_neg (by unfold zas; rw [dF (fun h => by have := h.2.2.2 o8; omega)]; simp)]
        (repeat first | simp (disch := try exact dis1) only [evD, Nat.reduceBEq, Nat.reduceAdd, Nat.reduceLeDiff, dT, dF, fldP, zaa, zat] | with_reducible intro _ | ((with_reducible apply And.intro); omega))
        exact ⟨_, .int _ _ _, rfl⟩
      rw [if_pos (by unfold zas; exact dT ⟨hu2, hv, by omega, by omega⟩)]
      (repeat first | simp (disch := try exact dis1) only [evD, Nat.reduceBEq, Nat.reduceAdd, Nat.reduceLeDiff, dT, dF, fldP, zaa, zat] | with_reducible intro _ | ((with_reducible apply And.intro); omega))
      exact ⟨_, .int _ _ _, rfl⟩
    rw [if_pos (by unfold zas; exact dT ⟨hu2, hv, by omega, by omega⟩)]
    (repeat first | simp (disch := try exact dis1) only [evD, Nat.reduceBEq, Nat.reduceAdd, Nat.reduceLeDiff, dT, dF, fldP, zaa, zat] | with_reducible intro _ | ((with_reducible apply And.intro); omega))
    exact ⟨_, .int _ _ _, rfl⟩
theorem zsq {op : Int} : zaQ op < 0 ↔ (op < 1 ∨ 10 < op) := by
  unfold zaQ
  constructor
  · intro h
    repeat' split at h
    all_goals omega
  · intro h
    rw [if_neg (by omega), if_neg (by omega), if_neg (by omega)]
    omega
theorem zoo (op var width next els tgt : Int) (e : List Ex) (cs : List Int) : zaj Tryz.prog zdK [.agg [.int .i64 op, .int .i64 var, .int .i64 width, .int .i64 next, .int .i64 els, .int .u32 tgt, encL 5 encX e, zaa cs]] (· = .int .i64 (zrq op var width next els tgt e cs)) := by
  refine fn_x zot rfl ?_
  unfold zi1 zrq
  have hB := hBig
  (repeat first | simp (disch := try exact dis1) only [evD, Nat.reduceBEq, Nat.reduceAdd, Nat.reduceLeDiff, dT, dF, fldP, zaa, zbm] | with_reducible intro _ | ((with_reducible apply And.intro); omega))
  refine zae (zah (zlO op) rfl) ?_
  have hneg := zsq (op := op)
  generalize zaQ op = n at hneg ⊢
  by_cases h1 : n < 0
  · rw [if_pos (.inl (hneg.1 h1))]
    (repeat first | simp (disch := try exact dis1) only [evD, Nat.reduceBEq, Nat.reduceAdd, Nat.reduceLeDiff, dT, dF, fldP, zaa, zbm] | with_reducible intro _ | ((with_reducible apply And.intro); omega))
    exact ⟨_, .int _ _ _, rfl⟩
  have hop : ¬ (op < 1 ∨ 10 < op) := fun h => h1 (hneg.2 h)
  (repeat first | simp (disch := try exact dis1) only [evD, Nat.reduceBEq, Nat.reduceAdd, Nat.reduceLeDiff, dT, dF, fldP, zaa, zbm] | with_reducible intro _ | ((with_reducible apply And.intro); omega))
  by_cases h3 : n = e.length
  case neg =>
    rw [if_pos (.inr h3)]
    (repeat first | simp (disch := try exact dis1) only [evD, Nat.reduceBEq, Nat.reduceAdd, Nat.reduceLeDiff, dT, dF, fldP, zaa, zbm] | with_reducible intro _ | ((with_reducible apply And.intro); omega))
    exact ⟨_, .int _ _ _, rfl⟩
  rw [if_neg (by omega)]
  (repeat first | simp (disch := try exact dis1) only [evD, Nat.reduceBEq, Nat.reduceAdd, Nat.reduceLeDiff, dT, dF, fldP, zaa, zbm] | with_reducible intro _ | ((with_reducible apply And.intro); omega))
  refine zam (fun i : Nat => ([(1, encP 8 [.int .i64 op, .int .i64 var, .int .i64 width, .int .i64 next, .int .i64 els, .int .u32 tgt, encL 5 encX e, zaa cs]), (20, encL 5 encX e), (21, .int .i64 e.length), (22, .int .i64 i)], [])) 0 (fun i => i ≤ e.length ∧ ziq (e.drop i) = ziq e) (fun i => e.length - i) 0 ⟨Nat.zero_le _, rfl⟩ (Ent.keep rfl fin5) ?_
  rintro i ⟨hi, hgo⟩ wf
  unfold zg2
  by_cases hl : i < e.length
  · rw [znE hl] at hgo
    (repeat first | simp (disch := try exact dis1) only [evD, Nat.reduceBEq, Nat.reduceAdd, Nat.reduceLeDiff, fldP, dT, zao hl, zbS, zbh] | with_reducible intro _ | ((with_reducible apply And.intro); omega))
    refine zae (zah (zeC e[i]) (flX rfl)) ?_
    by_cases hx : zfQ e[i] = 0
    · rw [if_neg (by omega)] at hgo
      (repeat first | simp (disch := try exact dis1) only [evD, Nat.reduceBEq, Nat.reduceAdd, Nat.reduceLeDiff, dF] | with_reducible intro _ | ((with_reducible apply And.intro); omega))
      exact ⟨i + 1, ⟨by omega, hgo⟩, by omega, (Ent.tab [] [] rfl (by (try simp only [evWB, Nat.reduceBEq, Nat.reduceAdd, Nat.reduceSub, Nat.reduceLeDiff, Nat.reduceLT]) <;> exact fin2) (by (try simp only [evWB, Nat.reduceBEq, Nat.reduceAdd, Nat.reduceSub, Nat.reduceLeDiff, Nat.reduceLT]) <;> exact fin2))⟩
    · rw [if_pos hx] at hgo
      rw [← hgo, if_pos hx]
      (repeat first | simp (disch := try exact dis1) only [evD, Nat.reduceBEq, Nat.reduceAdd, Nat.reduceLeDiff, dT, zbm] | with_reducible intro _ | ((with_reducible apply And.intro); omega))
      exact ⟨_, .int _ _ _, rfl⟩
  rw [List.drop_of_length_le (by omega), ziq] at hgo
  rw [← hgo, if_neg (by omega)]
  (repeat first | simp (disch := try exact dis1) only [evD, Nat.reduceBEq, Nat.reduceAdd, Nat.reduceLeDiff, fldP, dF] | with_reducible intro _ | ((with_reducible apply And.intro); omega))
  unfold zgQ
  (repeat first | simp (disch := try exact dis1) only [evD, Nat.reduceBEq, Nat.reduceAdd, Nat.reduceLeDiff, fldP, zgN, tab, List.getD_cons_zero, List.getD_cons_succ, zaa] | with_reducible intro _ | ((with_reducible apply And.intro); omega))
  refine zae (zah (zrw op var width next els tgt e cs (by omega) (by omega)) rfl) ?_
  cases zas op var width next els tgt cs.length with
  | false =>
    (repeat first | simp (disch := try exact dis1) only [evD, Nat.reduceBEq, Nat.reduceAdd, Nat.reduceLeDiff, dT, dF, fldP, zaa, zbm] | with_reducible intro _ | ((with_reducible apply And.intro); omega))
    exact ⟨_, .int _ _ _, rfl⟩
  | true =>
    (repeat first | simp (disch := try exact dis1) only [evD, Nat.reduceBEq, Nat.reduceAdd, Nat.reduceLeDiff, dT, dF, fldP, zaa, zbm] | with_reducible intro _ | ((with_reducible apply And.intro); omega))
    exact ⟨_, .int _ _ _, rfl⟩
structure St where
  op : Int
  var : Int
  width : Int
  next : Int
  els : Int
  tgt : Int
  e : List Ex
  cases : List Int
def St.cells (s : St) : List AV := [.int .i64 s.op, .int .i64 s.var, .int .i64 s.width, .int .i64 s.next, .int .i64 s.els, .int .u32 s.tgt, encL 5 encX s.e, zaa s.cases]
structure Bl where
  addr : Int
  stmts : List St
def Bl.cells (b : Bl) : List AV := [.int .u32 b.addr, encL 8 St.cells b.stmts]
structure G where
  addr : Int
  blocks : List Bl
def G.cells (g : G) : List AV := [.int .u32 g.addr, encL 2 Bl.cells g.blocks]
theorem St.len (s : St) : s.cells.length = 8 := rfl
theorem St.flat (s : St) : zaE s.cells = true := rfl
theorem St.eight (s : St) : [s.cells.getD 0 .undef, s.cells.getD 1 .undef, s.cells.getD 2 .undef, s.cells.getD 3 .undef, s.cells.getD 4 .undef, s.cells.getD 5 .undef, s.cells.getD 6 .undef, s.cells.getD 7 .undef] = s.cells := rfl
def zli (s : St) : Bool := decide (6 ≤ s.op ∧ s.op ≤ 10)
def zhS (s : St) : List Int := if s.op = 6 then [s.next] else if s.op = 7 then [s.next, s.els] else if s.op = 8 then s.cases else []
def St.check (s : St) : Int := zrq s.op s.var s.width s.next s.els s.tgt s.e s.cases
theorem zm7 (s : St) : zaj Tryz.prog zdh [.agg s.cells] (· = .int .i64 s.check) := zm0 _ _ _ _ _ _ _ _
theorem znO (s : St) : zaj Tryz.prog zdK [.agg s.cells] (· = .int .i64 s.check) := zoo _ _ _ _ _ _ _ _
theorem zs3 (s : St) : zaj Tryz.prog zjT [.agg s.cells] (· = .bool (zli s)) := by
  refine fn_x ztg rfl ?_
  unfold zn1
  have hB := hBig
  obtain ⟨op, var, width, next, els, tgt, e, cs⟩ := s
  unfold zli
  by_cases h1 : 6 ≤ op
  · (repeat first | simp (disch := try exact dis1) only [evD, Nat.reduceBEq, Nat.reduceAdd, Nat.reduceLeDiff, dT, fldP, zaa, St.cells, zkF] | with_reducible intro _ | ((with_reducible apply And.intro); omega))
    exact ⟨_, .bool _ _, congrArg AV.bool (decide_eq_decide.2 (by omega))⟩
  · (repeat first | simp (disch := try exact dis1) only [evD, Nat.reduceBEq, Nat.reduceAdd, Nat.reduceLeDiff, dF, fldP, zaa, St.cells, zkF] | with_reducible intro _ | ((with_reducible apply And.intro); omega))
    exact ⟨_, .bool _ _, rfl⟩
theorem zir (s : St) : zaj Tryz.prog zcv [.agg s.cells] (· = .bool (zli s)) := by
  refine fn_x zm1 rfl ?_
  unfold zit
  have hB := hBig
  obtain ⟨op, var, width, next, els, tgt, e, cs⟩ := s
  unfold zli
  by_cases h1 : 6 ≤ op
  · (repeat first | simp (disch := try exact dis1) only [evD, Nat.reduceBEq, Nat.reduceAdd, Nat.reduceLeDiff, dT, fldP, zaa, St.cells, zfp] | with_reducible intro _ | ((with_reducible apply And.intro); omega))
    exact ⟨_, .bool _ _, congrArg AV.bool (decide_eq_decide.2 (by omega))⟩
  · (repeat first | simp (disch := try exact dis1) only [evD, Nat.reduceBEq, Nat.reduceAdd, Nat.reduceLeDiff, dF, fldP, zaa, St.cells, zfp] | with_reducible intro _ | ((with_reducible apply And.intro); omega))
    exact ⟨_, .bool _ _, rfl⟩
theorem zoJ (s : St) : zaj Tryz.prog zf2 [.agg s.cells] (· = zaa (zhS s)) := by
  refine fn_x zoM rfl ?_
  unfold zkh
  have hB := hBig
  obtain ⟨op, var, width, next, els, tgt, e, cs⟩ := s
  unfold zhS
  simp only
  by_cases h6 : op = 6
  · rw [if_pos h6]
    (repeat first | simp (disch := try exact dis1) only [evD, Nat.reduceBEq, Nat.reduceAdd, Nat.reduceLeDiff, dT, dF, fldP, zaa, St.cells, zdM] | with_reducible intro _ | ((with_reducible apply And.intro); omega))
    exact ⟨_, zcd (l := [next]) trivial rfl (by simp only [List.length_singleton]; omega), rfl⟩
  rw [if_neg h6]
  by_cases h7 : op = 7
  · rw [if_pos h7]
    (repeat first | simp (disch := try exact dis1) only [evD, Nat.reduceBEq, Nat.reduceAdd, Nat.reduceLeDiff, dT, dF, fldP, zaa, St.cells, zdM] | with_reducible intro _ | ((with_reducible apply And.intro); omega))
    exact ⟨_, zcd (l := [next, els]) trivial rfl (by simp only [List.length_cons, List.length_nil]; omega), rfl⟩
  rw [if_neg h7]
  by_cases h8 : op = 8
  · rw [if_pos h8]
    (repeat first | simp (disch := try exact dis1) only [evD, Nat.reduceBEq, Nat.reduceAdd, Nat.reduceLeDiff, dT, dF, fldP, zaa, St.cells, zdM] | with_reducible intro _ | ((with_reducible apply And.intro); omega))
    exact ⟨_, zbp rfl, rfl⟩
  rw [if_neg h8]
  (repeat first | simp (disch := try exact dis1) only [evD, Nat.reduceBEq, Nat.reduceAdd, Nat.reduceLeDiff, dT, dF, fldP, zaa, St.cells, zdM] | with_reducible intro _ | ((with_reducible apply And.intro); omega))
  exact ⟨_, zcd (l := []) trivial rfl (by simp only [List.length_nil]; omega), rfl⟩
end Go.Ab
namespace Go.Ab
open Go.RowKit Go.Proofs Go.Proofs.YtmlhipilbnjhiaaGreat
section
variable {HH : Type} {enc : TypeId × Value → HH} {w : World} {base : Nat} {spare : Nat → Bool} {held : Bool} {L : Nat → Prop} (hL : ∀ b, ¬ L b)
include hL
theorem zyi {fuel : Nat} {cs : List Value} {y : DataW HH × List MemPlace} (h : DataW.trod enc Tryz.prog w base spare held fuel 54 cs = some y) : ∃ s : St, ElOk w L cs s.cells := by
  have hcx : Tryz.prog.cellsOf 60 = 5 := by kernel_rfl
  obtain ⟨xs, n, rfl, rfl, hlen, hxs, hf⟩ := DataW.trod_struct Tryz.underlying54 h
  have hc : Tryz.prog.cellsOf 54 = 8 := by kernel_rfl
  have hc3 : Tryz.prog.cellsOf 3 = 1 := by kernel_rfl
  have hc22 : Tryz.prog.cellsOf 22 = 1 := by kernel_rfl
  have hc28 : Tryz.prog.cellsOf 28 = 1 := by kernel_rfl
  have hc36 : Tryz.prog.cellsOf 36 = 1 := by kernel_rfl
  rw [hc] at hlen
  have hget : ∀ i, i < 8 → xs[i]? = some (xs.getD i (.nil, [])) := fun i hi => by
    rw [List.getD_eq_getElem?_getD, List.getElem?_eq_getElem (by rw [hxs]; exact hi)]
    rfl
  match cs, hlen with
  | [c0, c1, c2, c3, c4, c5, c6, c7], _ =>
    have f0 : DataW.trod enc Tryz.prog w base spare held n 3 (([c0, c1, c2, c3, c4, c5, c6, c7].drop 0).take (Tryz.prog.cellsOf 3)) = some (xs.getD 0 (.nil, [])) := (hf 0 _ rfl).trans (hget 0 (by decide))
    rw [hc3] at f0
    replace f0 : DataW.trod enc Tryz.prog w base spare held n 3 [c0] = some (xs.getD 0 (.nil, [])) := f0
    have f1 : DataW.trod enc Tryz.prog w base spare held n 3 (([c0, c1, c2, c3, c4, c5, c6, c7].drop 1).take (Tryz.prog.cellsOf 3)) = some (xs.getD 1 (.nil, [])) := (hf 1 _ rfl).trans (hget 1 (by decide))
    rw [hc3] at f1
    replace f1 : DataW.trod enc Tryz.prog w base spare held n 3 [c1] = some (xs.getD 1 (.nil, [])) := f1
    have f2 : DataW.trod enc Tryz.prog w base spare held n 3 (([c0, c1, c2, c3, c4, c5, c6, c7].drop 2).take (Tryz.prog.cellsOf 3)) = some (xs.getD 2 (.nil, [])) := (hf 2 _ rfl).trans (hget 2 (by decide))
    rw [hc3] at f2
    replace f2 : DataW.trod enc Tryz.prog w base spare held n 3 [c2] = some (xs.getD 2 (.nil, [])) := f2
    have f3 : DataW.trod enc Tryz.prog w base spare held n 3 (([c0, c1, c2, c3, c4, c5, c6, c7].drop 3).take (Tryz.prog.cellsOf 3)) = some (xs.getD 3 (.nil, [])) := (hf 3 _ rfl).trans (hget 3 (by decide))
    rw [hc3] at f3
    replace f3 : DataW.trod enc Tryz.prog w base spare held n 3 [c3] = some (xs.getD 3 (.nil, [])) := f3
    have f4 : DataW.trod enc Tryz.prog w base spare held n 3 (([c0, c1, c2, c3, c4, c5, c6, c7].drop 4).take (Tryz.prog.cellsOf 3)) = some (xs.getD 4 (.nil, [])) := (hf 4 _ rfl).trans (hget 4 (by decide))
    rw [hc3] at f4
    replace f4 : DataW.trod enc Tryz.prog w base spare held n 3 [c4] = some (xs.getD 4 (.nil, [])) := f4
    have f5 : DataW.trod enc Tryz.prog w base spare held n 22 (([c0, c1, c2, c3, c4, c5, c6, c7].drop 5).take (Tryz.prog.cellsOf 22)) = some (xs.getD 5 (.nil, [])) := (hf 5 _ rfl).trans (hget 5 (by decide))
    rw [hc22] at f5
    replace f5 : DataW.trod enc Tryz.prog w base spare held n 22 [c5] = some (xs.getD 5 (.nil, [])) := f5
    have f6 : DataW.trod enc Tryz.prog w base spare held n 28 (([c0, c1, c2, c3, c4, c5, c6, c7].drop 6).take (Tryz.prog.cellsOf 28)) = some (xs.getD 6 (.nil, [])) := (hf 6 _ rfl).trans (hget 6 (by decide))
    rw [hc28] at f6
    replace f6 : DataW.trod enc Tryz.prog w base spare held n 28 [c6] = some (xs.getD 6 (.nil, [])) := f6
    have f7 : DataW.trod enc Tryz.prog w base spare held n 36 (([c0, c1, c2, c3, c4, c5, c6, c7].drop 7).take (Tryz.prog.cellsOf 36)) = some (xs.getD 7 (.nil, [])) := (hf 7 _ rfl).trans (hget 7 (by decide))
    rw [hc36] at f7
    replace f7 : DataW.trod enc Tryz.prog w base spare held n 36 [c7] = some (xs.getD 7 (.nil, [])) := f7
    obtain ⟨n0, h0, w0⟩ := zfH Tryz.underlying3 f0
    obtain ⟨n1, h1, w1⟩ := zfH Tryz.underlying3 f1
    obtain ⟨n2, h2, w2⟩ := zfH Tryz.underlying3 f2
    obtain ⟨n3, h3, w3⟩ := zfH Tryz.underlying3 f3
    obtain ⟨n4, h4, w4⟩ := zfH Tryz.underlying3 f4
    obtain ⟨n5, h5, w5⟩ := zfH Tryz.underlying22 f5
    obtain ⟨l6, v6, h6, o6, w6⟩ := zlI (L := L) (α := Ex) (cells := encX) hL Tryz.underlying28 hcx (fun fuel' hf' cs y h _ => zxn hL fuel' fuel' (Nat.le_refl _) cs y h) f6
    obtain ⟨l7, v7, h7, o7, w7⟩ := zAF Tryz.underlying36 Tryz.underlying3 hc3 hL f7
    cases h0; cases h1; cases h2; cases h3; cases h4; cases h5; cases h6; cases h7
    refine ⟨⟨n0, n1, n2, n3, n4, n5, l6, l7⟩, fun j hj => ?_⟩
    match j with
    | 0 => exact ⟨.int _ _ _ w0, rfl⟩
    | 1 => exact ⟨.int _ _ _ w1, rfl⟩
    | 2 => exact ⟨.int _ _ _ w2, rfl⟩
    | 3 => exact ⟨.int _ _ _ w3, rfl⟩
    | 4 => exact ⟨.int _ _ _ w4, rfl⟩
    | 5 => exact ⟨.int _ _ _ w5, rfl⟩
    | 6 => exact ⟨w6 _, o6⟩
    | 7 => exact ⟨w7 _, o7⟩
    | j + 8 => exact absurd hj (by simp)
theorem zyE {fuel : Nat} {cs : List Value} {y : DataW HH × List MemPlace} (h : DataW.trod enc Tryz.prog w base spare held fuel 57 cs = some y) : ∃ b : Bl, ElOk w L cs b.cells := by
  have hcs : Tryz.prog.cellsOf 54 = 8 := by kernel_rfl
  obtain ⟨xs, n, rfl, rfl, hlen, hxs, hf⟩ := DataW.trod_struct Tryz.underlying57 h
  have hc : Tryz.prog.cellsOf 57 = 2 := by kernel_rfl
  have hc22 : Tryz.prog.cellsOf 22 = 1 := by kernel_rfl
  have hc55 : Tryz.prog.cellsOf 55 = 1 := by kernel_rfl
  rw [hc] at hlen
  have hget : ∀ i, i < 2 → xs[i]? = some (xs.getD i (.nil, [])) := fun i hi => by
    rw [List.getD_eq_getElem?_getD, List.getElem?_eq_getElem (by rw [hxs]; exact hi)]
    rfl
  match cs, hlen with
  | [c0, c1], _ =>
    have f0 : DataW.trod enc Tryz.prog w base spare held n 22 (([c0, c1].drop 0).take (Tryz.prog.cellsOf 22)) = some (xs.getD 0 (.nil, [])) := (hf 0 _ rfl).trans (hget 0 (by decide))
    rw [hc22] at f0
    replace f0 : DataW.trod enc Tryz.prog w base spare held n 22 [c0] = some (xs.getD 0 (.nil, [])) := f0
    have f1 : DataW.trod enc Tryz.prog w base spare held n 55 (([c0, c1].drop 1).take (Tryz.prog.cellsOf 55)) = some (xs.getD 1 (.nil, [])) := (hf 1 _ rfl).trans (hget 1 (by decide))
    rw [hc55] at f1
    replace f1 : DataW.trod enc Tryz.prog w base spare held n 55 [c1] = some (xs.getD 1 (.nil, [])) := f1
    obtain ⟨n0, h0, w0⟩ := zfH Tryz.underlying22 f0
    obtain ⟨l1, v1, h1, o1, w1⟩ := zpE (α := St) (cells := St.cells) (L := L) Tryz.underlying55 hcs hL (fun _ _ _ h _ => zyi hL h) f1
    cases h0; cases h1
    refine ⟨⟨n0, l1⟩, fun j hj => ?_⟩
    match j with
    | 0 => exact ⟨.int _ _ _ w0, rfl⟩
    | 1 => exact ⟨w1 _, o1⟩
    | j + 2 => exact absurd hj (by simp)
theorem zzp {fuel : Nat} {cs : List Value} {y : DataW HH × List MemPlace} (h : DataW.trod enc Tryz.prog w base spare held fuel 25 cs = some y) : ∃ g : G, cs.length = 2 ∧ ElOk w L cs g.cells ∧ ∀ j, j < 2 → ∀ ι, VR w L ι (cs.getD j undef) (g.cells.getD j .undef) := by
  have hcb : Tryz.prog.cellsOf 57 = 2 := by kernel_rfl
  obtain ⟨xs, n, rfl, rfl, hlen, hxs, hf⟩ := DataW.trod_struct Tryz.underlying25 h
  have hc : Tryz.prog.cellsOf 25 = 2 := by kernel_rfl
  have hc22 : Tryz.prog.cellsOf 22 = 1 := by kernel_rfl
  have hc23 : Tryz.prog.cellsOf 23 = 1 := by kernel_rfl
  rw [hc] at hlen
  have hget : ∀ i, i < 2 → xs[i]? = some (xs.getD i (.nil, [])) := fun i hi => by
    rw [List.getD_eq_getElem?_getD, List.getElem?_eq_getElem (by rw [hxs]; exact hi)]
    rfl
  match cs, hlen with
  | [c0, c1], _ =>
    have f0 : DataW.trod enc Tryz.prog w base spare held n 22 (([c0, c1].drop 0).take (Tryz.prog.cellsOf 22)) = some (xs.getD 0 (.nil, [])) := (hf 0 _ rfl).trans (hget 0 (by decide))
    rw [hc22] at f0
    replace f0 : DataW.trod enc Tryz.prog w base spare held n 22 [c0] = some (xs.getD 0 (.nil, [])) := f0
    have f1 : DataW.trod enc Tryz.prog w base spare held n 23 (([c0, c1].drop 1).take (Tryz.prog.cellsOf 23)) = some (xs.getD 1 (.nil, [])) := (hf 1 _ rfl).trans (hget 1 (by decide))
    rw [hc23] at f1
    replace f1 : DataW.trod enc Tryz.prog w base spare held n 23 [c1] = some (xs.getD 1 (.nil, [])) := f1
    obtain ⟨n0, h0, w0⟩ := zfH Tryz.underlying22 f0
    obtain ⟨l1, v1, h1, o1, w1⟩ := zpE (α := Bl) (cells := Bl.cells) (L := L) Tryz.underlying23 hcb hL (fun _ _ _ h _ => zyE hL h) f1
    cases h0; cases h1
    refine ⟨⟨n0, l1⟩, rfl, fun j hj => ?_, fun j hj ι => ?_⟩
    · match j with
      | 0 => exact ⟨.int _ _ _ w0, rfl⟩
      | 1 => exact ⟨w1 _, o1⟩
      | j + 2 => exact absurd hj (by simp)
    · match j with
      | 0 => exact .int _ _ _ w0
      | 1 => exact w1 _
      | j + 2 => omega
theorem open_graph {v : Value} {d : DataW HH} {ps : List MemPlace} (hv : Value.okWide Tryz.prog w .any base 25 v) {b2 : Nat} (h : DataW.Trod enc Tryz.prog w b2 spare held 25 v d ps) : ∃ g : G, True ∧ ∀ ι, VR w L ι v (.agg g.cells) := by
  obtain ⟨fuel, hf⟩ := h
  unfold Value.okWide at hv
  rw [Tryz.underlying25] at hv
  simp only at hv
  obtain ⟨cs, rfl, _, _⟩ := hv
  have hf' : DataW.trod enc Tryz.prog w b2 spare held fuel 25 cs.toList = some (d, ps) := hf
  obtain ⟨g, h1, h2, h3⟩ := zzp hL hf'
  refine ⟨g, trivial, fun ι => .agg ι cs _ (by
    have : cs.size = 2 := by simpa using h1
    rw [this]; rfl) (fun i v hi => ?_) (fun i v a hi ha => ?_)⟩
  · have hi2 : i < cs.size := by
      rcases Nat.lt_or_ge i cs.size with h | h
      · exact h
      · rw [Array.getElem?_eq_none h] at hi; cases hi
    have := (h2 i (by simpa using hi2)).2
    rw [List.getD_eq_getElem?_getD, Array.getElem?_toList, hi] at this
    exact this
  · have hi2 : i < cs.size := by
      rcases Nat.lt_or_ge i cs.size with h | h
      · exact h
      · rw [Array.getElem?_eq_none h] at hi; cases hi
    have hi3 : i < 2 := by rw [← h1]; simpa using hi2
    have := h3 i hi3 ι
    rw [List.getD_eq_getElem?_getD, Array.getElem?_toList, hi, List.getD_eq_getElem?_getD, ha] at this
    exact this
end
end Go.Ab
namespace Go.Ab
open Go.RowKit Go.Proofs
def zbY : ACode := .seq (.region [ (oN 2 (.mknil 1))] [2]) (.seq (.seq (.region [ (oN 3 (.mov (.t 0))), (oN 4 (.isnil false false (.t 3)))] [3]) (.cond (.t 4) (.seq (.region [ (oN 2 (.mknil 1))] [0, 4]) (.ret)) (.skip))) (.seq (.region [ (oN 5 (.buildSl 1 0 [.int .i64 0] [])), (oN 6 (.mov (.t 0))), (oN 7 (.append 1 8 (.t 5) (.t 6))), (oN 2 (.mov (.t 7)))] [0, 4, 5, 6, 7]) (.ret)))
def zaC : List ARet := [.tmp 2]
theorem zcH : zaP Tryz.prog zaz (qRo []) = some (zbY.strip, zaC, 8) := by kernel_rfl
def zeL : ACode := .seq (.region [ (oN 2 (.rbox (.t 0))), (oN 3 (.rbox (.t 1))), (oN 4 (.mov (.c (.bool false))))] [0, 1, 4]) (.seq (.seq (.region [ (oN 5 (.load true 2 (.t 3))), (oN 6 (.call zlc [(.t 5)])), (oN 7 (.un .not (.t 6))), (oN 8 (.mov (.t 7))), (oG 9 8 false (.load true 5 (.t 2))), (oG 10 8 false (.call zij [(.t 9)])), (oG 11 8 false (.un .not (.t 10))), (oN 12 (.pick (.t 8) (.c (.bool true)) (.t 11)))] [5, 6, 7, 8, 9, 10, 11]) (.cond (.t 12) (.seq (.region [ (oN 13 (.call zcU [])), (oN 4 (.mov (.t 13)))] [2, 3, 12, 13]) (.ret)) (.skip))) (.seq (.draw ( .step (oN 14 (.load true 5 (.t 2))) ( .step (oN 15 (.load true 2 (.t 3))) ( .step (oN 16 (.callq zb4 [(.t 14), (.t 15)])) ( .step (oN 17 (.load true 5 (.t 2))) ( .step (oN 18 (.load true 2 (.t 3))) ( .step (oN 19 (.callq zh2 [(.t 17), (.t 18)])) ( .step (oN 20 (.bin .eql (.t 16) (.t 19))) ( .step (oN 21 (.mov (.t 20))) ( .step (oG 22 21 true (.callq zcU [])) ( .step (oN 23 (.pick (.t 21) (.t 22) (.c (.bool false)))) ( .step (oN 4 (.mov (.t 23))) ( .done)))))))))))) [2, 3, 12, 14, 15, 16, 17, 18, 19, 20, 21, 22, 23]) (.ret)))
def zcf : List ARet := [.tmp 4]
theorem ziP : zaP Tryz.prog zc6 (qRo [2, 3]) = some (zeL.strip, zcf, 24) := by kernel_rfl
def zkS : ACode := .seq (.seq (.region [ (oN 56 (.mov (.t 6))), (oN 57 (.fldaddr 6 1 (.t 5))), (oN 58 (.load false 1 (.t 57))), (oN 59 (.len (.t 58))), (oN 60 (.bin .lss (.t 56) (.t 59)))] [56, 57, 58, 59]) (.cond (.t 60) (.skip) (.exit 4))) (.seq (.block 5 (.seq (.region [ (oN 63 (.fldaddr 6 1 (.t 5))), (oN 64 (.load false 1 (.t 63))), (oN 65 (.mov (.t 6))), (oN 66 (.idx 5 (.t 64) (.t 65))), (oN 67 (.load true 5 (.t 66))), (oN 68 (.call zeY [(.t 67), (.c (.int .i64 70)), (.c (.int .i64 200))])), (oN 69 (.bin .lss (.t 68) (.c (.int .i64 0))))] [60, 63, 64, 65, 66, 67, 68]) (.cond (.t 69) (.seq (.region [ (oN 2 (.mov (.c (.bool false))))] [1, 3, 4, 5, 6, 69]) (.ret)) (.skip)))) (.region [ (oN 61 (.mov (.t 6))), (oN 62 (.bin .add (.t 61) (.c (.int .i64 1)))), (oN 6 (.mov (.t 62)))] [2, 61, 62, 69]))
def zlB : ACode := .region [ (oN 35 (.mov (.t 4))), (oN 36 (.bin .add (.t 35) (.c (.int .i64 1)))), (oN 4 (.mov (.t 36)))] [5, 6, 35, 36]
def zk9 : ACode := .seq (.seq (.region [ (oN 26 (.mov (.t 4))), (oN 27 (.fldaddr 1 1 (.t 1))), (oN 28 (.load false 1 (.t 27))), (oN 29 (.mov (.t 3))), (oN 30 (.idx 2 (.t 28) (.t 29))), (oN 31 (.fldaddr 1 1 (.t 30))), (oN 32 (.load false 1 (.t 31))), (oN 33 (.len (.t 32))), (oN 34 (.bin .lss (.t 26) (.t 33)))] [26, 27, 28, 29, 30, 31, 32, 33]) (.cond (.t 34) (.skip) (.exit 2))) (.seq (.block 3 (.seq (.region [ (oN 37 (.fldaddr 1 1 (.t 1))), (oN 38 (.load false 1 (.t 37))), (oN 39 (.mov (.t 3))), (oN 40 (.idx 2 (.t 38) (.t 39))), (oN 41 (.fldaddr 1 1 (.t 40))), (oN 42 (.load false 1 (.t 41))), (oN 43 (.mov (.t 4))), (oN 44 (.idx 8 (.t 42) (.t 43))), (oN 45 (.load true 8 (.t 44))), (oN 5 (.alloc [.int .i64 0, .int .i64 0, .int .i64 0, .int .i64 0, .int .i64 0, .int .u32 0, .nilsl, .nilsl])), ⟨none, .store 8 (.t 5) (.t 45), none⟩] [34, 37, 38, 39, 40, 41, 42, 43, 44, 45]) (.seq (.seq (.region [ (oN 46 (.fldaddr 7 1 (.t 5))), (oN 47 (.load false 1 (.t 46))), (oN 48 (.len (.t 47))), (oN 49 (.bin .gtr (.t 48) (.c (.int .i64 8)))), (oN 50 (.mov (.t 49))), (oG 51 50 false (.fldaddr 6 1 (.t 5))), (oG 52 50 false (.load false 1 (.t 51))), (oG 53 50 false (.len (.t 52))), (oG 54 50 false (.bin .gtr (.t 53) (.c (.int .i64 3)))), (oN 55 (.pick (.t 50) (.c (.bool true)) (.t 54)))] [46, 47, 48, 49, 50, 51, 52, 53, 54]) (.cond (.t 55) (.seq (.region [ (oN 2 (.mov (.c (.bool false))))] [1, 3, 4, 5, 55]) (.ret)) (.skip))) (.seq (.region [ (oN 6 (.mov (.c (.int .i64 0))))] [2, 55]) (.block 4 (.loop zkS)))))) (zlB))
def zlh : ACode := .region [ (oN 16 (.mov (.t 3))), (oN 17 (.bin .add (.t 16) (.c (.int .i64 1)))), (oN 3 (.mov (.t 17)))] [4, 16, 17]
def zlk : ACode := .seq (.seq (.region [ (oN 7 (.mov (.t 3))), (oN 8 (.fldaddr 1 1 (.t 1))), (oN 9 (.load false 1 (.t 8))), (oN 10 (.len (.t 9))), (oN 11 (.bin .lss (.t 7) (.t 10))), (oN 12 (.mov (.t 11))), (oG 13 12 true (.mov (.t 3))), (oG 14 12 true (.bin .lss (.t 13) (.c (.int .i64 14)))), (oN 15 (.pick (.t 12) (.t 14) (.c (.bool false))))] [7, 8, 9, 10, 11, 12, 13, 14]) (.cond (.t 15) (.skip) (.exit 0))) (.seq (.block 1 (.seq (.seq (.region [ (oN 18 (.fldaddr 1 1 (.t 1))), (oN 19 (.load false 1 (.t 18))), (oN 20 (.mov (.t 3))), (oN 21 (.idx 2 (.t 19) (.t 20))), (oN 22 (.fldaddr 1 1 (.t 21))), (oN 23 (.load false 1 (.t 22))), (oN 24 (.len (.t 23))), (oN 25 (.bin .gtr (.t 24) (.c (.int .i64 8))))] [15, 18, 19, 20, 21, 22, 23, 24]) (.cond (.t 25) (.seq (.region [ (oN 2 (.mov (.c (.bool false))))] [1, 3, 25]) (.ret)) (.skip))) (.seq (.region [ (oN 4 (.mov (.c (.int .i64 0))))] [2, 25]) (.block 2 (.loop zk9))))) (zlh))
def zh5 : ACode := .seq (.region [ (oN 70 (.fldaddr 1 1 (.t 1))), (oN 71 (.load false 1 (.t 70))), (oN 72 (.len (.t 71))), (oN 73 (.bin .leq (.t 72) (.c (.int .i64 12)))), (oN 2 (.mov (.t 73)))] [1, 3, 70, 71, 72, 73]) (.ret)
def zo8 : ACode := .seq (.region [ (oN 1 (.rbox (.t 0))), (oN 2 (.mov (.c (.bool false))))] [0, 2]) (.seq (.seq (.region [ (oN 3 (.mov (.c (.int .i64 0))))] []) (.block 0 (.loop zlk))) (zh5))
def ze1 : List ARet := [.tmp 2]
theorem zuR : zaP Tryz.prog zlc (qRo [1]) = some (zo8.strip, ze1, 74) := by kernel_rfl
def zhR : ACode := .seq (.seq (.region [ (oN 6 (.mov (.t 5))), (oN 7 (.mov (.t 0))), (oN 8 (.len (.t 7))), (oN 9 (.bin .lss (.t 6) (.t 8)))] [6, 7, 8]) (.cond (.t 9) (.skip) (.exit 0))) (.seq (.block 1 (.seq (.region [ (oN 12 (.mov (.t 0))), (oN 13 (.mov (.t 5))), (oN 14 (.idx 1 (.t 12) (.t 13))), (oN 15 (.load false 1 (.t 14))), (oN 16 (.mov (.t 1))), (oN 17 (.bin .eql (.t 15) (.t 16)))] [9, 12, 13, 14, 15, 16]) (.cond (.t 17) (.seq (.region [ (oN 4 (.mov (.c (.bool true))))] [0, 1, 5, 17]) (.ret)) (.skip)))) (.region [ (oN 10 (.mov (.t 5))), (oN 11 (.bin .add (.t 10) (.c (.int .i64 1)))), (oN 5 (.mov (.t 11)))] [4, 10, 11, 17]))
def zif : ACode := .seq (.region [ (oN 4 (.mov (.c (.bool false))))] [0, 1, 5]) (.ret)
def zl7 : ACode := .seq (.region [ (oN 4 (.mov (.c (.bool false))))] [4]) (.seq (.seq (.region [ (oN 5 (.mov (.c (.int .i64 0))))] []) (.block 0 (.loop zhR))) (zif))
def zhD : List ARet := [.tmp 4]
theorem zpe : zaP Tryz.prog zdb (qRo []) = some (zl7.strip, zhD, 18) := by kernel_rfl
def zgP : ACode := .seq (.region [ (oN 2 (.rbox (.t 0))), (oN 3 (.rbox (.t 1))), (oN 4 (.mov (.c (.int .i64 0))))] [0, 1, 4]) (.seq (.seq (.region [ (oN 8 (.load true 2 (.t 3))), (oN 9 (.call zca [(.t 8)])), (oN 5 (.mov (.t 9)))] [8, 9]) (.seq (.region [ (oN 10 (.mov (.t 5))), (oN 11 (.bin .neq (.t 10) (.c (.int .i64 0))))] [10]) (.cond (.t 11) (.seq (.region [ (oN 12 (.mov (.t 5))), (oN 4 (.mov (.t 12)))] [2, 3, 5, 11, 12]) (.ret)) (.skip)))) (.seq (.region [ (oN 13 (.load true 5 (.t 2))), (oN 14 (.call zdd [(.t 13)])), (oN 6 (.mov (.t 14)))] [4, 5, 11, 13, 14]) (.seq (.seq (.region [ (oN 15 (.mov (.t 6))), (oN 16 (.call zaw [(.t 15), (.c (.fn (.func zcG) []))]))] [15]) (.cond (.t 16) (.seq (.region [ (oN 4 (.mov (.c (.int .i64 2))))] [2, 3, 6, 16]) (.ret)) (.skip))) (.seq (.seq (.region [ (oN 17 (.mov (.t 6))), (oN 18 (.load true 2 (.t 3))), (oN 19 (.call zcY [(.t 17), (.t 18)])), (oN 20 (.un .not (.t 19)))] [3, 4, 16, 17, 18, 19]) (.cond (.t 20) (.seq (.region [ (oN 4 (.mov (.c (.int .i64 18))))] [2, 6, 20]) (.ret)) (.skip))) (.seq (.seq (.region [ (oN 21 (.load true 5 (.t 2))), (oN 22 (.call zcb [(.t 21), (.c (.bool false))])), (oN 23 (.un .not (.t 22)))] [4, 20, 21, 22]) (.cond (.t 23) (.seq (.region [ (oN 4 (.mov (.c (.int .i64 21))))] [2, 6, 23]) (.ret)) (.skip))) (.seq (.region [ (oN 24 (.load true 5 (.t 2))), (oN 25 (.call zcZ [(.t 24)])), (oN 7 (.alloc [.nilsl])), ⟨none, .store 1 (.t 7) (.t 25), none⟩] [2, 4, 23, 24, 25]) (.seq (.seq (.region [ (oN 26 (.mov (.t 6))), (oN 27 (.mkfn (.func zcM) [(.t 7)])), (oN 28 (.call zaw [(.t 26), (.t 27)]))] [6, 26, 27]) (.cond (.t 28) (.seq (.region [ (oN 4 (.mov (.c (.int .i64 9))))] [7, 28]) (.ret)) (.skip))) (.seq (.region [ (oN 29 (.load false 1 (.t 7))), (oN 30 (.call zdf [(.t 29)]))] [4, 28, 29, 30]) (.seq (.seq (.draw ( .alt (oN 31 (.load false 1 (.t 7))) ( .alt (oN 32 (.call zaz [(.t 31)])) ( .alt (oN 33 (.call zaR [(.t 32)])) ( .step (oN 34 (.len (.t 33))) ( .step (oN 35 (.load false 1 (.t 7))) ( .step (oN 36 (.len (.t 35))) ( .step (oN 37 (.bin .lss (.t 34) (.t 36))) ( .done))))) ( .alt (oN 35 (.load false 1 (.t 7))) ( .step (oN 36 (.len (.t 35))) ( .alt (oN 33 (.call zaR [(.t 32)])) ( .step (oN 34 (.len (.t 33))) ( .step (oN 37 (.bin .lss (.t 34) (.t 36))) ( .done))) ( .stop))) ( .stop))) ( .alt (oN 35 (.load false 1 (.t 7))) ( .step (oN 36 (.len (.t 35))) ( .alt (oN 32 (.call zaz [(.t 31)])) ( .alt (oN 33 (.call zaR [(.t 32)])) ( .step (oN 34 (.len (.t 33))) ( .step (oN 37 (.bin .lss (.t 34) (.t 36))) ( .done))) ( .stop)) ( .stop))) ( .stop))) ( .alt (oN 35 (.load false 1 (.t 7))) ( .step (oN 36 (.len (.t 35))) ( .alt (oN 31 (.load false 1 (.t 7))) ( .alt (oN 32 (.call zaz [(.t 31)])) ( .alt (oN 33 (.call zaR [(.t 32)])) ( .step (oN 34 (.len (.t 33))) ( .step (oN 37 (.bin .lss (.t 34) (.t 36))) ( .done))) ( .stop)) ( .stop)) ( .stop))) ( .stop))) [7, 31, 32, 33, 34, 35, 36]) (.cond (.t 37) (.seq (.region [ (oN 4 (.mov (.c (.int .i64 8))))] [37]) (.ret)) (.skip))) (.seq (.region [ (oN 4 (.mov (.c (.int .i64 0))))] [37]) (.ret)))))))))))
def zbc : List ARet := [.tmp 4]
theorem zlf : zaP Tryz.prog zb4 (qRoL [2, 3] [(15, [0, 3, 4, 5, 6, 7, 8, 9, 10, 11, 12, 13, 14, 15, 16, 17, 18, 19, 20, 21, 22, 23, 24, 25, 26, 27, 28, 29, 30, 31, 32, 33, 34, 35, 36, 37, 38, 39, 40, 41, 42, 43, 44, 45, 46, 47, 48, 49, 50, 51, 52, 53, 54, 55, 56, 57, 58, 59, 60, 61, 62, 63, 64, 65, 66, 67, 68, 69, 70, 71, 72, 73, 74, 75, 76, 77, 78, 79, 80, 81, 82, 83, 84, 85, 86, 87, 88, 89, 90, 91, 92, 93, 94, 95, 96, 97, 98, 99, 100, 101, 102, 103, 104, 105, 106, 107, 108, 109, 110, 111, 112, 113, 114, 115, 116, 117, 118, 119, 120, 121, 122, 123, 124, 125, 126, 127, 128, 129, 130, 131, 132, 133, 134, 135, 136, 137, 138, 139, 140, 141, 142, 143, 144, 145, 146, 147, 148, 149])]) = some (zgP.strip, zbc, 38) := by kernel_rfl
def zjz : ACode := .seq (.seq (.region [ (oN 28 (.mov (.t 8))), (oN 29 (.mov (.t 7))), (oN 30 (.len (.t 29))), (oN 31 (.bin .lss (.t 28) (.t 30)))] [28, 29, 30]) (.cond (.t 31) (.skip) (.exit 0))) (.seq (.block 1 (.seq (.region [ (oN 34 (.mov (.t 6))), (oN 35 (.mov (.t 7))), (oN 36 (.mov (.t 8))), (oN 37 (.idx 1 (.t 35) (.t 36))), (oN 38 (.load false 1 (.t 37))), (oN 39 (.call zdb [(.t 34), (.t 38)])), (oN 40 (.un .not (.t 39)))] [31, 34, 35, 36, 37, 38, 39]) (.cond (.t 40) (.seq (.region [ (oN 4 (.mov (.c (.int .i64 9))))] [6, 7, 8, 40]) (.ret)) (.skip)))) (.region [ (oN 32 (.mov (.t 8))), (oN 33 (.bin .add (.t 32) (.c (.int .i64 1)))), (oN 8 (.mov (.t 33)))] [4, 32, 33, 40]))
def zjC : ACode := .seq (.seq (.region [ (oN 41 (.mov (.t 9))), (oN 42 (.mov (.t 6))), (oN 43 (.len (.t 42))), (oN 44 (.bin .lss (.t 41) (.t 43)))] [41, 42, 43]) (.cond (.t 44) (.skip) (.exit 2))) (.seq (.block 3 (.seq (.draw ( .step (oN 47 (.mov (.t 6))) ( .step (oN 48 (.mov (.t 9))) ( .step (oN 49 (.slice 1 (.t 47) none (some (.t 48)))) ( .step (oN 50 (.mov (.t 6))) ( .step (oN 51 (.mov (.t 9))) ( .step (oN 52 (.idx 1 (.t 50) (.t 51))) ( .step (oN 53 (.load false 1 (.t 52))) ( .step (oN 54 (.callq zdb [(.t 49), (.t 53)])) ( .done))))))))) [44, 47, 48, 49, 50, 51, 52, 53]) (.cond (.t 54) (.seq (.region [ (oN 4 (.mov (.c (.int .i64 8))))] [6, 9, 54]) (.ret)) (.skip)))) (.region [ (oN 45 (.mov (.t 9))), (oN 46 (.bin .add (.t 45) (.c (.int .i64 1)))), (oN 9 (.mov (.t 46)))] [4, 45, 46, 54]))
def zjl : ACode := .seq (.region [ (oN 4 (.mov (.c (.int .i64 0))))] [6, 9]) (.ret)
def ziZ : ACode := .seq (.seq (.region [ (oN 9 (.mov (.c (.int .i64 0))))] [7, 8]) (.block 2 (.loop zjC))) (zjl)
def zmc : ACode := .seq (.region [ (oN 2 (.rbox (.t 0))), (oN 3 (.rbox (.t 1))), (oN 4 (.mov (.c (.int .i64 0))))] [0, 1, 4]) (.seq (.region [ (oN 10 (.load true 2 (.t 3))), (oN 11 (.call zdR [(.t 10)])), (oN 5 (.mov (.t 11)))] [10, 11]) (.seq (.seq (.region [ (oN 12 (.mov (.t 5))), (oN 13 (.bin .neq (.t 12) (.c (.int .i64 0))))] [12]) (.cond (.t 13) (.seq (.region [ (oN 14 (.mov (.t 5))), (oN 4 (.mov (.t 14)))] [2, 3, 5, 13, 14]) (.ret)) (.skip))) (.seq (.seq (.region [ (oN 15 (.load true 5 (.t 2))), (oN 16 (.call zfi [(.t 15)])), (oN 17 (.un .not (.t 16)))] [4, 5, 13, 15, 16]) (.cond (.t 17) (.seq (.region [ (oN 4 (.mov (.c (.int .i64 2))))] [2, 3, 17]) (.ret)) (.skip))) (.seq (.seq (.region [ (oN 18 (.load true 5 (.t 2))), (oN 19 (.load true 2 (.t 3))), (oN 20 (.call zgU [(.t 18), (.t 19)])), (oN 21 (.un .not (.t 20)))] [3, 4, 17, 18, 19, 20]) (.cond (.t 21) (.seq (.region [ (oN 4 (.mov (.c (.int .i64 18))))] [2, 21]) (.ret)) (.skip))) (.seq (.seq (.region [ (oN 22 (.load true 5 (.t 2))), (oN 23 (.call zgn [(.t 22), (.c (.bool false))]))] [4, 21, 22]) (.cond (.t 23) (.seq (.region [ (oN 4 (.mov (.c (.int .i64 21))))] [2, 23]) (.ret)) (.skip))) (.seq (.draw ( .step (oN 24 (.load true 5 (.t 2))) ( .step (oN 25 (.callq zfh [(.t 24)])) ( .step (oN 26 (.load true 5 (.t 2))) ( .step (oN 27 (.callq zet [(.t 26)])) ( .step (oN 6 (.mov (.t 25))) ( .step (oN 7 (.mov (.t 27))) ( .done))))))) [2, 4, 23, 24, 25, 26, 27]) (.seq (.seq (.region [ (oN 8 (.mov (.c (.int .i64 0))))] []) (.block 0 (.loop zjz))) (ziZ))))))))
def zcB : List ARet := [.tmp 4]
theorem zrE : zaP Tryz.prog zh2 (qRo [2, 3]) = some (zmc.strip, zcB, 55) := by kernel_rfl
def zbx : ACode := .seq (.region [ (oN 4 (.mov (.c (.bool false))))] [4]) (.seq (.region [ (oN 5 (.mov (.t 0))), (oN 6 (.mov (.t 1))), (oN 7 (.call zaS [(.t 5), (.t 6)])), (oN 8 (.bin .geq (.t 7) (.c (.int .i64 0)))), (oN 4 (.mov (.t 8)))] [0, 1, 5, 6, 7, 8]) (.ret))
def zby : List ARet := [.tmp 4]
theorem zc4 : zaP Tryz.prog zaw (qRo []) = some (zbx.strip, zby, 9) := by kernel_rfl
def zfB : ACode := .seq (.region [ (oN 1 (.rbox (.t 0))), (oN 2 (.mov (.c (.bool false))))] [0, 2]) (.seq (.region [ (oN 3 (.load true 5 (.t 1))), (oN 4 (.call zaA [(.t 3)])), (oN 5 (.un .not (.t 4))), (oN 2 (.mov (.t 5)))] [1, 3, 4, 5]) (.ret))
def zfN : List ARet := [.tmp 2]
theorem zj9 : zaP Tryz.prog zcG (qRo [1]) = some (zfB.strip, zfN, 6) := by kernel_rfl
def zaG : ACode := .seq (.region [ (oN 1 (.rbox (.t 0))), (oN 2 (.mov (.c (.bool false))))] [0, 2]) (.seq (.region [ (oN 7 (.fldaddr 0 1 (.t 1))), (oN 8 (.load false 1 (.t 7))), (oN 9 (.bin .eql (.t 8) (.c (.int .i64 2)))), (oN 10 (.mov (.t 9))), (oG 11 10 false (.fldaddr 0 1 (.t 1))), (oG 12 10 false (.load false 1 (.t 11))), (oG 13 10 false (.bin .eql (.t 12) (.c (.int .i64 5)))), (oN 14 (.pick (.t 10) (.c (.bool true)) (.t 13))), (oN 3 (.mov (.t 14)))] [7, 8, 9, 10, 11, 12, 13, 14]) (.seq (.region [ (oN 15 (.fldaddr 0 1 (.t 1))), (oN 16 (.load false 1 (.t 15))), (oN 17 (.bin .eql (.t 16) (.c (.int .i64 9)))), (oN 18 (.mov (.t 17))), (oG 19 18 false (.fldaddr 0 1 (.t 1))), (oG 20 18 false (.load false 1 (.t 19))), (oG 21 18 false (.bin .eql (.t 20) (.c (.int .i64 10)))), (oN 22 (.pick (.t 18) (.c (.bool true)) (.t 21))), (oN 4 (.mov (.t 22)))] [15, 16, 17, 18, 19, 20, 21, 22]) (.seq (.region [ (oN 5 (.mov (.c (.int .i64 0)))), (oN 6 (.mov (.c (.int .i64 0))))] []) (.seq (.seq (.region [ (oN 23 (.fldaddr 0 1 (.t 1))), (oN 24 (.load false 1 (.t 23)))] [23]) (.block 0 (.seq (.region [ (oN 26 (.bin .eql (.t 24) (.c (.int .i64 1)))), (oN 25 (.mov (.t 26)))] [26]) (.cond (.t 25) (.region [ (oN 27 (.fldaddr 4 1 (.t 1))), (oN 28 (.load false 1 (.t 27))), (oN 29 (.len (.t 28))), (oN 6 (.mov (.t 29)))] [24, 25, 27, 28, 29]) (.seq (.region [ (oN 31 (.bin .eql (.t 24) (.c (.int .i64 3)))), (oN 30 (.mov (.t 31)))] [25, 31]) (.cond (.t 30) (.region [ (oN 5 (.mov (.c (.int .i64 1)))), (oN 6 (.mov (.c (.int .i64 2))))] [24, 30]) (.seq (.region [ (oN 33 (.bin .eql (.t 24) (.c (.int .i64 4)))), (oN 32 (.mov (.t 33)))] [30, 33]) (.cond (.t 32) (.region [ (oN 6 (.mov (.c (.int .i64 1))))] [24, 32]) (.seq (.region [ (oN 35 (.bin .eql (.t 24) (.c (.int .i64 5)))), (oN 34 (.mov (.t 35)))] [32, 35]) (.cond (.t 34) (.region [ (oN 5 (.mov (.c (.int .i64 1)))), (oN 6 (.mov (.c (.int .i64 1))))] [24, 34]) (.seq (.region [ (oN 37 (.bin .eql (.t 24) (.c (.int .i64 6)))), (oN 36 (.mov (.t 37)))] [24, 34, 37]) (.cond (.t 36) (.draw ( .step (oN 38 (.fldaddr 4 1 (.t 1))) ( .step (oN 39 (.load false 1 (.t 38))) ( .step (oN 40 (.len (.t 39))) ( .step (oN 41 (.xop .max [(.t 40), (.c (.int .i64 1))])) ( .step (oN 42 (.xop .min [(.t 41), (.c (.int .i64 64))])) ( .step (oN 5 (.mov (.c (.int .i64 1)))) ( .step (oN 6 (.mov (.t 42))) ( .done)))))))) [36, 38, 39, 40, 41, 42]) (.skip))))))))))))) (.seq (.seq (.region [ (oN 43 (.fldaddr 0 1 (.t 1))), (oN 44 (.load false 1 (.t 43))), (oN 45 (.bin .lss (.t 44) (.c (.int .i64 1)))), (oN 46 (.mov (.t 45))), (oG 47 46 false (.fldaddr 0 1 (.t 1))), (oG 48 46 false (.load false 1 (.t 47))), (oG 49 46 false (.bin .gtr (.t 48) (.c (.int .i64 12)))), (oN 50 (.pick (.t 46) (.c (.bool true)) (.t 49))), (oN 51 (.mov (.t 50))), (oG 52 51 false (.fldaddr 3 1 (.t 1))), (oG 53 51 false (.load false 1 (.t 52))), (oG 54 51 false (.len (.t 53))), (oG 55 51 false (.mov (.t 5))), (oG 56 51 false (.bin .neq (.t 54) (.t 55))), (oN 57 (.pick (.t 51) (.c (.bool true)) (.t 56))), (oN 58 (.mov (.t 57))), (oG 59 58 false (.fldaddr 4 1 (.t 1))), (oG 60 58 false (.load false 1 (.t 59))), (oG 61 58 false (.len (.t 60))), (oG 62 58 false (.mov (.t 6))), (oG 63 58 false (.bin .neq (.t 61) (.t 62))), (oN 64 (.pick (.t 58) (.c (.bool true)) (.t 63))), (oN 65 (.mov (.t 64))), (oG 66 65 false (.mov (.t 3))), (oG 67 65 false (.un .not (.t 66))), (oG 68 65 false (.mov (.t 67))), (oG 69 68 true (.fldaddr 1 1 (.t 1))), (oG 70 68 true (.load false 1 (.t 69))), (oG 71 68 true (.bin .neq (.t 70) (.c (.int .i64 0)))), (oG 72 65 false (.pick (.t 68) (.t 71) (.c (.bool false)))), (oN 73 (.pick (.t 65) (.c (.bool true)) (.t 72))), (oN 74 (.mov (.t 73))), (oG 75 74 false (.mov (.t 4))), (oG 76 74 false (.un .not (.t 75))), (oG 77 74 false (.mov (.t 76))), (oG 78 77 true (.fldaddr 2 1 (.t 1))), (oG 79 77 true (.load false 1 (.t 78))), (oG 80 77 true (.bin .neq (.t 79) (.c (.int .i64 0)))), (oG 81 74 false (.pick (.t 77) (.t 80) (.c (.bool false)))), (oN 82 (.pick (.t 74) (.c (.bool true)) (.t 81))), (oN 83 (.mov (.t 82))), (oG 84 83 false (.fldaddr 2 1 (.t 1))), (oG 85 83 false (.load false 1 (.t 84))), (oG 86 83 false (.bin .lss (.t 85) (.c (.int .i64 0)))), (oN 87 (.pick (.t 83) (.c (.bool true)) (.t 86)))] [3, 4, 6, 36, 43, 44, 45, 46, 47, 48, 49, 50, 51, 52, 53, 54, 55, 56, 57, 58, 59, 60, 61, 62, 63, 64, 65, 66, 67, 68, 69, 70, 71, 72, 73, 74, 75, 76, 77, 78, 79, 80, 81, 82, 83, 84, 85, 86]) (.cond (.t 87) (.seq (.region [ (oN 2 (.mov (.c (.bool false))))] [1, 5, 87]) (.ret)) (.skip))) (.seq (.region [ (oN 88 (.mov (.t 5))), (oN 89 (.bin .eql (.t 88) (.c (.int .i64 0)))), (oN 90 (.mov (.t 89))), (oG 91 90 false (.fldaddr 3 1 (.t 1))), (oG 92 90 false (.load false 1 (.t 91))), (oG 93 90 false (.idx 5 (.t 92) (.c (.int .i64 0)))), (oG 94 90 false (.load true 5 (.t 93))), (oG 95 90 false (.call zdG [(.t 94)])), (oG 96 90 false (.bin .eql (.t 95) (.c (.int .i64 0)))), (oN 97 (.pick (.t 90) (.c (.bool true)) (.t 96))), (oN 2 (.mov (.t 97)))] [1, 5, 87, 88, 89, 90, 91, 92, 93, 94, 95, 96, 97]) (.ret)))))))
def zac : List ARet := [.tmp 2]
theorem zaI : zaP Tryz.prog zaA (qRo [1]) = some (zaG.strip, zac, 98) := by kernel_rfl
def zeI : ACode := .seq (.region [ (oN 19 (.bin .lss (.t 18) (.t 17)))] []) (.seq (.cond (.t 19) (.skip) (.exit 0)) (.seq (.block 1 (.seq (.region [ (oN 20 (.idx 5 (.t 16) (.t 18))), (oN 21 (.load true 5 (.t 20))), (oN 8 (.alloc [.int .i64 0, .int .i64 0, .int .i64 0, .nilsl, .nilsl])), ⟨none, .store 5 (.t 8) (.t 21), none⟩] [19, 20, 21]) (.seq (.seq (.region [ (oN 22 (.fldaddr 0 1 (.t 8))), (oN 23 (.load false 1 (.t 22))), (oN 24 (.bin .neq (.t 23) (.c (.int .i64 2)))), (oN 25 (.mov (.t 24))), (oG 26 25 true (.fldaddr 0 1 (.t 8))), (oG 27 25 true (.load false 1 (.t 26))), (oG 28 25 true (.bin .neq (.t 27) (.c (.int .i64 5)))), (oN 29 (.pick (.t 25) (.t 28) (.c (.bool false))))] [22, 23, 24, 25, 26, 27, 28]) (.cond (.t 29) (.exit 1) (.skip))) (.seq (.seq (.region [ (oN 30 (.fldaddr 1 1 (.t 8))), (oN 31 (.load false 1 (.t 30))), (oN 32 (.bin .lss (.t 31) (.c (.int .i64 0)))), (oN 33 (.mov (.t 32))), (oG 34 33 false (.fldaddr 1 1 (.t 8))), (oG 35 33 false (.load false 1 (.t 34))), (oG 36 33 false (.mov (.t 5))), (oG 37 33 false (.len (.t 36))), (oG 38 33 false (.bin .geq (.t 35) (.t 37))), (oN 39 (.pick (.t 33) (.c (.bool true)) (.t 38))), (oN 40 (.mov (.t 39))), (oG 41 40 false (.mov (.t 5))), (oG 42 40 false (.fldaddr 1 1 (.t 8))), (oG 43 40 false (.load false 1 (.t 42))), (oG 44 40 false (.idx 1 (.t 41) (.t 43))), (oG 45 40 false (.load false 1 (.t 44))), (oG 46 40 false (.un .not (.t 45))), (oN 47 (.pick (.t 40) (.c (.bool true)) (.t 46)))] [29, 30, 31, 32, 33, 34, 35, 36, 37, 38, 39, 40, 41, 42, 43, 44, 45, 46]) (.cond (.t 47) (.seq (.region [ (oN 4 (.mov (.c (.bool false))))] [3, 5, 6, 8, 16, 17, 18, 47]) (.ret)) (.skip))) (.seq (.seq (.region [ (oN 48 (.fldaddr 0 1 (.t 8))), (oN 49 (.load false 1 (.t 48))), (oN 50 (.bin .eql (.t 49) (.c (.int .i64 5)))), (oN 51 (.mov (.t 50))), (oG 52 51 true (.fldaddr 1 1 (.t 3))), (oG 53 51 true (.load false 1 (.t 52))), (oG 54 51 true (.fldaddr 1 1 (.t 8))), (oG 55 51 true (.load false 1 (.t 54))), (oG 56 51 true (.idx 2 (.t 53) (.t 55))), (oG 57 51 true (.fldaddr 1 1 (.t 56))), (oG 58 51 true (.load false 1 (.t 57))), (oG 59 51 true (.len (.t 58))), (oG 60 51 true (.bin .gtr (.t 59) (.c (.int .i64 1)))), (oN 61 (.pick (.t 51) (.t 60) (.c (.bool false))))] [4, 47, 48, 49, 50, 51, 52, 53, 54, 55, 56, 57, 58, 59, 60]) (.cond (.t 61) (.seq (.region [ (oN 4 (.mov (.c (.bool false))))] [3, 5, 6, 8, 16, 17, 18, 61]) (.ret)) (.skip))) (.region [ (oN 62 (.mov (.t 6))), (oN 63 (.fldaddr 1 1 (.t 8))), (oN 64 (.load false 1 (.t 63))), (oN 65 (.idx 1 (.t 62) (.t 64))), (oN 66 (.load false 1 (.t 65))), (oN 67 (.bin .add (.t 66) (.c (.int .i64 1)))), (oN 68 (.idx 1 (.t 62) (.t 64))), ⟨none, .store 1 (.t 68) (.t 67), none⟩] [4, 8, 61, 62, 63, 64, 65, 66, 67, 68])))))) (.region [ (oN 69 (.bin .add (.t 18) (.c (.int .i64 1)))), (oN 18 (.mov (.t 69)))] [69])))
def zeP : ACode := .seq (.region [ (oN 73 (.bin .lss (.t 72) (.t 71)))] []) (.seq (.cond (.t 73) (.skip) (.exit 2)) (.seq (.block 3 (.seq (.region [ (oN 74 (.mov (.t 72))), (oN 75 (.idx 1 (.t 70) (.t 72))), (oN 76 (.load false 1 (.t 75))), (oN 9 (.mov (.t 74))), (oN 10 (.mov (.t 76)))] [73, 74, 75, 76]) (.seq (.region [ (oN 77 (.mov (.t 10))), (oN 78 (.mov (.t 77))), (oG 79 78 true (.mov (.t 6))), (oG 80 78 true (.mov (.t 9))), (oG 81 78 true (.idx 1 (.t 79) (.t 80))), (oG 82 78 true (.load false 1 (.t 81))), (oG 83 78 true (.bin .neq (.t 82) (.c (.int .i64 1)))), (oN 84 (.pick (.t 78) (.t 83) (.c (.bool false))))] [9, 10, 77, 78, 79, 80, 81, 82, 83]) (.cond (.t 84) (.seq (.region [ (oN 4 (.mov (.c (.bool false))))] [6, 70, 71, 72, 84]) (.ret)) (.skip))))) (.region [ (oN 85 (.bin .add (.t 72) (.c (.int .i64 1)))), (oN 72 (.mov (.t 85)))] [4, 84, 85])))
def zeF : ACode := .seq (.region [ (oN 4 (.mov (.c (.bool true))))] [6, 70, 71, 72]) (.ret)
def zeO : ACode := .seq (.seq (.region [ (oN 70 (.mov (.t 5))), (oN 71 (.len (.t 70))), (oN 72 (.mov (.c (.int .i64 0))))] [3, 5, 16, 17, 18]) (.block 2 (.loop zeP))) (zeF)
def zgr : ACode := .seq (.region [ (oN 3 (.rbox (.t 1))), (oN 4 (.mov (.c (.bool false))))] [1, 4]) (.seq (.region [ (oN 11 (.load true 2 (.t 3))), (oN 12 (.call zcn [(.t 11)])), (oN 5 (.mov (.t 12)))] [11, 12]) (.seq (.region [ (oN 13 (.mov (.t 5))), (oN 14 (.len (.t 13))), (oN 15 (.mksl 1 8 [.int .i64 0] (.t 14) (.t 14))), (oN 6 (.mov (.t 15)))] [13, 14, 15]) (.seq (.seq (.region [ (oN 16 (.mov (.t 0))), (oN 17 (.len (.t 16))), (oN 18 (.mov (.c (.int .i64 0))))] [0]) (.block 0 (.loop zeI))) (zeO))))
def zaO : List ARet := [.tmp 4]
theorem zky : zaP Tryz.prog zcY (qRo [3]) = some (zgr.strip, zaO, 86) := by kernel_rfl
def zfJ : ACode := .seq (.region [ (oN 2 (.rbox (.t 0))), (oN 3 (.box (.t 1))), (oN 4 (.mov (.c (.bool false))))] [0, 1, 4]) (.seq (.seq (.region [ (oN 5 (.fldaddr 0 1 (.t 2))), (oN 6 (.load false 1 (.t 5))), (oN 7 (.bin .eql (.t 6) (.c (.int .i64 7)))), (oN 8 (.mov (.t 7))), (oG 9 8 false (.fldaddr 0 1 (.t 2))), (oG 10 8 false (.load false 1 (.t 9))), (oG 11 8 false (.bin .eql (.t 10) (.c (.int .i64 8)))), (oN 12 (.pick (.t 8) (.c (.bool true)) (.t 11))), (oN 13 (.mov (.t 12))), (oG 14 13 true (.load false 1 (.t 3))), (oG 15 13 true (.un .not (.t 14))), (oN 16 (.pick (.t 13) (.t 15) (.c (.bool false))))] [5, 6, 7, 8, 9, 10, 11, 12, 13, 14, 15]) (.cond (.t 16) (.seq (.region [ (oN 4 (.mov (.c (.bool false))))] [2, 3, 16]) (.ret)) (.skip))) (.seq (.region [ (oN 17 (.load false 1 (.t 3))), (oN 18 (.mov (.t 17))), (oG 19 18 false (.fldaddr 0 1 (.t 2))), (oG 20 18 false (.load false 1 (.t 19))), (oG 21 18 false (.bin .eql (.t 20) (.c (.int .i64 4)))), (oN 22 (.pick (.t 18) (.c (.bool true)) (.t 21))), (oN 23 (.mov (.t 22))), (oG 24 23 false (.fldaddr 0 1 (.t 2))), (oG 25 23 false (.load false 1 (.t 24))), (oG 26 23 false (.bin .eql (.t 25) (.c (.int .i64 5)))), (oN 27 (.pick (.t 23) (.c (.bool true)) (.t 26))), ⟨none, .store 1 (.t 3) (.t 27), none⟩] [4, 16, 17, 18, 19, 20, 21, 22, 23, 24, 25, 26, 27]) (.seq (.region [ (oN 28 (.fldaddr 4 1 (.t 2))), (oN 29 (.load false 1 (.t 28))), (oN 30 (.mkfn (.func zbP) [(.t 3)])), (oN 31 (.call zaw [(.t 29), (.t 30)])), (oN 32 (.un .not (.t 31))), (oN 4 (.mov (.t 32)))] [2, 3, 28, 29, 30, 31, 32]) (.ret))))
def zay : List ARet := [.tmp 4]
theorem zj6 : zaP Tryz.prog zcb (qRo [2]) = some (zfJ.strip, zay, 33) := by kernel_rfl
def zfI : ACode := .seq (.region [ (oN 2 (.rbox (.t 0))), (oN 3 (.mov (.c (.bool false))))] [0, 3]) (.seq (.region [ (oN 4 (.fldaddr 0 1 (.t 2))), (oN 5 (.load false 1 (.t 4))), (oN 6 (.bin .eql (.t 5) (.c (.int .i64 9)))), (oN 7 (.mov (.t 6))), (oG 8 7 true (.load false 1 (.t 1))), (oG 9 7 true (.fldaddr 2 1 (.t 2))), (oG 10 7 true (.load false 1 (.t 9))), (oG 11 7 true (.call zbJ [(.t 8), (.t 10)])), (oG 12 7 true (.un .not (.t 11))), (oN 13 (.pick (.t 7) (.t 12) (.c (.bool false)))), (oN 3 (.mov (.t 13)))] [1, 2, 4, 5, 6, 7, 8, 9, 10, 11, 12, 13]) (.ret))
def zdB : List ARet := [.tmp 3]
theorem zjX : zaP Tryz.prog zcM (qRo [2]) = some (zfI.strip, zdB, 14) := by kernel_rfl
def zdu : ACode := .seq (.region [ (oN 4 (.mov (.c (.bool false))))] [4]) (.seq (.region [ (oN 5 (.mov (.t 0))), (oN 6 (.mov (.t 1))), (oN 7 (.call zcg [(.t 5), (.t 6)])), (oN 8 (.bin .geq (.t 7) (.c (.int .i64 0)))), (oN 4 (.mov (.t 8)))] [0, 1, 5, 6, 7, 8]) (.ret))
def zdv : List ARet := [.tmp 4]
theorem zgJ : zaP Tryz.prog zbJ (qRo []) = some (zdu.strip, zdv, 9) := by kernel_rfl
def zcW : ACode := .seq (.seq (.region [ (oN 29 (.mov (.t 5))), (oN 30 (.mov (.t 4))), (oN 31 (.len (.t 30))), (oN 32 (.bin .lss (.t 29) (.t 31)))] [29, 30, 31]) (.cond (.t 32) (.skip) (.exit 2))) (.seq (.block 3 (.seq (.draw ( .step (oN 35 (.mov (.t 4))) ( .step (oN 36 (.mov (.t 5))) ( .step (oN 37 (.idx 1 (.t 35) (.t 36))) ( .step (oN 38 (.load false 1 (.t 37))) ( .step (oN 39 (.mov (.t 4))) ( .step (oN 40 (.mov (.t 5))) ( .step (oN 41 (.bin .sub (.t 40) (.c (.int .i64 1)))) ( .step (oN 42 (.idx 1 (.t 39) (.t 41))) ( .step (oN 43 (.load false 1 (.t 42))) ( .step (oN 44 (.bin .neq (.t 38) (.t 43))) ( .done))))))))))) [32, 35, 36, 37, 38, 39, 40, 41, 42, 43]) (.cond (.t 44) (.seq (.region [ (oN 45 (.mov (.t 0))), (oN 46 (.mov (.t 3))), (oN 47 (.mov (.t 4))), (oN 48 (.mov (.t 5))), (oN 49 (.idx 1 (.t 47) (.t 48))), (oN 50 (.load false 1 (.t 49))), (oN 51 (.idx 1 (.t 45) (.t 46))), ⟨none, .store 1 (.t 51) (.t 50), none⟩] [44, 45, 46, 47, 48, 49, 50, 51]) (.region [ (oN 52 (.mov (.t 3))), (oN 53 (.bin .add (.t 52) (.c (.int .i64 1)))), (oN 3 (.mov (.t 53)))] [52, 53])) (.skip)))) (.region [ (oN 33 (.mov (.t 5))), (oN 34 (.bin .add (.t 33) (.c (.int .i64 1)))), (oN 5 (.mov (.t 34)))] [33, 34, 44]))
def zcS : ACode := .seq (.region [ (oN 54 (.mov (.t 0))), (oN 55 (.mov (.t 3))), (oN 56 (.slice 1 (.t 54) (some (.t 55)) none)), ⟨none, .clear 1 [.int .i64 0] (.t 56), none⟩] [4, 5, 54, 55, 56]) (.seq (.region [ (oN 57 (.mov (.t 0))), (oN 58 (.mov (.t 3))), (oN 59 (.slice 1 (.t 57) none (some (.t 58)))), (oN 2 (.mov (.t 59)))] [0, 3, 57, 58, 59]) (.ret))
def zcX : ACode := .region [ (oN 14 (.mov (.t 3))), (oN 15 (.bin .add (.t 14) (.c (.int .i64 1)))), (oN 3 (.mov (.t 15)))] [2, 14, 15, 25]
def zcT : ACode := .seq (.seq (.region [ (oN 10 (.mov (.t 3))), (oN 11 (.mov (.t 0))), (oN 12 (.len (.t 11))), (oN 13 (.bin .lss (.t 10) (.t 12)))] [10, 11, 12]) (.cond (.t 13) (.skip) (.exit 0))) (.seq (.block 1 (.seq (.draw ( .step (oN 16 (.mov (.t 0))) ( .step (oN 17 (.mov (.t 3))) ( .step (oN 18 (.idx 1 (.t 16) (.t 17))) ( .step (oN 19 (.load false 1 (.t 18))) ( .step (oN 20 (.mov (.t 0))) ( .step (oN 21 (.mov (.t 3))) ( .step (oN 22 (.bin .sub (.t 21) (.c (.int .i64 1)))) ( .step (oN 23 (.idx 1 (.t 20) (.t 22))) ( .step (oN 24 (.load false 1 (.t 23))) ( .step (oN 25 (.bin .eql (.t 19) (.t 24))) ( .done))))))))))) [13, 16, 17, 18, 19, 20, 21, 22, 23, 24]) (.cond (.t 25) (.seq (.region [ (oN 26 (.mov (.t 0))), (oN 27 (.mov (.t 3))), (oN 28 (.slice 1 (.t 26) (some (.t 27)) none)), (oN 4 (.mov (.t 28)))] [25, 26, 27, 28]) (.seq (.seq (.region [ (oN 5 (.mov (.c (.int .i64 1))))] []) (.block 2 (.loop zcW))) (zcS))) (.skip)))) (zcX))
def zc1 : ACode := .seq (.region [ (oN 60 (.mov (.t 0))), (oN 2 (.mov (.t 60)))] [0, 3, 60]) (.ret)
def zdF : ACode := .seq (.region [ (oN 2 (.mknil 1))] [2]) (.seq (.seq (.region [ (oN 6 (.mov (.t 0))), (oN 7 (.len (.t 6))), (oN 8 (.bin .lss (.t 7) (.c (.int .i64 2))))] [6, 7]) (.cond (.t 8) (.seq (.region [ (oN 9 (.mov (.t 0))), (oN 2 (.mov (.t 9)))] [0, 8, 9]) (.ret)) (.skip))) (.seq (.seq (.region [ (oN 3 (.mov (.c (.int .i64 1))))] [2, 8]) (.block 0 (.loop zcT))) (zc1)))
def zbK : List ARet := [.tmp 2]
theorem zhd : zaP Tryz.prog zaR (qRo []) = some (zdF.strip, zbK, 61) := by kernel_rfl
def zht : ACode := .seq (.seq (.region [ (oN 11 (.mov (.t 4))), (oN 12 (.fldaddr 4 1 (.t 1))), (oN 13 (.load false 1 (.t 12))), (oN 14 (.len (.t 13))), (oN 15 (.bin .lss (.t 11) (.t 14)))] [11, 12, 13, 14]) (.cond (.t 15) (.skip) (.exit 0))) (.seq (.block 1 (.region [ (oN 18 (.mov (.t 3))), (oN 19 (.fldaddr 4 1 (.t 1))), (oN 20 (.load false 1 (.t 19))), (oN 21 (.mov (.t 4))), (oN 22 (.idx 5 (.t 20) (.t 21))), (oN 23 (.load true 5 (.t 22))), (oN 24 (.call zet [(.t 23)])), (oN 25 (.append 1 8 (.t 18) (.t 24))), (oN 3 (.mov (.t 25)))] [15, 18, 19, 20, 21, 22, 23, 24, 25])) (.region [ (oN 16 (.mov (.t 4))), (oN 17 (.bin .add (.t 16) (.c (.int .i64 1)))), (oN 4 (.mov (.t 17)))] [16, 17]))
def zhz : ACode := .seq (.region [ (oN 26 (.mov (.t 3))), (oN 2 (.mov (.t 26)))] [1, 3, 4, 26]) (.ret)
def zks : ACode := .seq (.region [ (oN 1 (.rbox (.t 0))), (oN 2 (.mknil 1))] [0, 2]) (.seq (.seq (.region [ (oN 5 (.fldaddr 0 1 (.t 1))), (oN 6 (.load false 1 (.t 5))), (oN 7 (.bin .eql (.t 6) (.c (.int .i64 9))))] [5, 6]) (.cond (.t 7) (.seq (.region [ (oN 8 (.fldaddr 2 1 (.t 1))), (oN 9 (.load false 1 (.t 8))), (oN 10 (.buildSl 1 1 [.int .i64 0] [(0, (.t 9))])), (oN 2 (.mov (.t 10)))] [1, 7, 8, 9, 10]) (.ret)) (.skip))) (.seq (.region [ (oN 3 (.mknil 1))] [2, 7]) (.seq (.seq (.region [ (oN 4 (.mov (.c (.int .i64 0))))] []) (.block 0 (.loop zht))) (zhz))))
def zhj : List ARet := [.tmp 2]
theorem zoC : zaP Tryz.prog zet (qRo [1]) = some (zks.strip, zhj, 27) := by kernel_rfl
def ziJ : ACode := .seq (.seq (.region [ (oN 4 (.mov (.t 3))), (oN 5 (.fldaddr 4 1 (.t 1))), (oN 6 (.load false 1 (.t 5))), (oN 7 (.len (.t 6))), (oN 8 (.bin .lss (.t 4) (.t 7)))] [4, 5, 6, 7]) (.cond (.t 8) (.skip) (.exit 0))) (.seq (.block 1 (.seq (.region [ (oN 11 (.fldaddr 4 1 (.t 1))), (oN 12 (.load false 1 (.t 11))), (oN 13 (.mov (.t 3))), (oN 14 (.idx 5 (.t 12) (.t 13))), (oN 15 (.load true 5 (.t 14))), (oN 16 (.call zfi [(.t 15)])), (oN 17 (.un .not (.t 16)))] [8, 11, 12, 13, 14, 15, 16]) (.cond (.t 17) (.seq (.region [ (oN 2 (.mov (.c (.bool false))))] [1, 3, 17]) (.ret)) (.skip)))) (.region [ (oN 9 (.mov (.t 3))), (oN 10 (.bin .add (.t 9) (.c (.int .i64 1)))), (oN 3 (.mov (.t 10)))] [2, 9, 10, 17]))
def ziv : ACode := .seq (.region [ (oN 18 (.load true 5 (.t 1))), (oN 19 (.call zaM [(.t 18)])), (oN 2 (.mov (.t 19)))] [1, 3, 18, 19]) (.ret)
def zlq : ACode := .seq (.region [ (oN 1 (.rbox (.t 0))), (oN 2 (.mov (.c (.bool false))))] [0, 2]) (.seq (.seq (.region [ (oN 3 (.mov (.c (.int .i64 0))))] []) (.block 0 (.loop ziJ))) (ziv))
def zh8 : List ARet := [.tmp 2]
theorem zqk : zaP Tryz.prog zfi (qRo [1]) = some (zlq.strip, zh8, 20) := by kernel_rfl
def ziM : ACode := .seq (.seq (.region [ (oN 12 (.mov (.t 7))), (oN 13 (.mov (.t 5))), (oN 14 (.len (.t 13))), (oN 15 (.bin .lss (.t 12) (.t 14)))] [12, 13, 14]) (.cond (.t 15) (.skip) (.exit 0))) (.seq (.block 1 (.seq (.draw ( .step (oN 18 (.mov (.t 6))) ( .step (oN 19 (.mov (.t 5))) ( .step (oN 20 (.mov (.t 7))) ( .step (oN 21 (.idx 1 (.t 19) (.t 20))) ( .step (oN 22 (.load false 1 (.t 21))) ( .step (oN 23 (.callq zdb [(.t 18), (.t 22)])) ( .step (oN 24 (.un .not (.t 23))) ( .step (oN 25 (.mov (.t 24))) ( .step (oG 26 25 false (.mov (.t 5))) ( .step (oG 27 25 false (.mov (.t 7))) ( .step (oG 28 25 false (.slice 1 (.t 26) none (some (.t 27)))) ( .step (oG 29 25 false (.mov (.t 5))) ( .step (oG 30 25 false (.mov (.t 7))) ( .step (oG 31 25 false (.idx 1 (.t 29) (.t 30))) ( .step (oG 32 25 false (.load false 1 (.t 31))) ( .step (oG 33 25 false (.callq zdb [(.t 28), (.t 32)])) ( .step (oN 34 (.pick (.t 25) (.c (.bool true)) (.t 33))) ( .done)))))))))))))))))) [15, 18, 19, 20, 21, 22, 23, 24, 25, 26, 27, 28, 29, 30, 31, 32, 33]) (.cond (.t 34) (.seq (.region [ (oN 4 (.mov (.c (.bool false))))] [2, 3, 5, 6, 7, 34]) (.ret)) (.skip)))) (.region [ (oN 16 (.mov (.t 7))), (oN 17 (.bin .add (.t 16) (.c (.int .i64 1)))), (oN 7 (.mov (.t 17)))] [4, 16, 17, 34]))
def ziA : ACode := .seq (.region [ (oN 35 (.mov (.t 5))), (oN 36 (.len (.t 35))), (oN 37 (.mov (.t 6))), (oN 38 (.len (.t 37))), (oN 39 (.bin .eql (.t 36) (.t 38))), (oN 40 (.mov (.t 39))), (oG 41 40 true (.load true 5 (.t 2))), (oG 42 40 true (.load true 2 (.t 3))), (oG 43 40 true (.call zfa [(.t 41), (.t 42)])), (oN 44 (.pick (.t 40) (.t 43) (.c (.bool false)))), (oN 4 (.mov (.t 44)))] [2, 3, 5, 6, 7, 35, 36, 37, 38, 39, 40, 41, 42, 43, 44]) (.ret)
def zkU : ACode := .seq (.region [ (oN 2 (.rbox (.t 0))), (oN 3 (.rbox (.t 1))), (oN 4 (.mov (.c (.bool false))))] [0, 1, 4]) (.seq (.draw ( .step (oN 8 (.load true 5 (.t 2))) ( .step (oN 9 (.callq ze9 [(.t 8)])) ( .step (oN 10 (.load true 2 (.t 3))) ( .step (oN 11 (.callq zim [(.t 10)])) ( .step (oN 5 (.mov (.t 9))) ( .step (oN 6 (.mov (.t 11))) ( .done))))))) [8, 9, 10, 11]) (.seq (.seq (.region [ (oN 7 (.mov (.c (.int .i64 0))))] []) (.block 0 (.loop ziM))) (ziA)))
def zey : List ARet := [.tmp 4]
theorem zpp : zaP Tryz.prog zgU (qRo [2, 3]) = some (zkU.strip, zey, 45) := by kernel_rfl
def zga : ACode := .seq (.seq (.region [ (oN 18 (.mov (.t 5))), (oN 19 (.fldaddr 4 1 (.t 2))), (oN 20 (.load false 1 (.t 19))), (oN 21 (.len (.t 20))), (oN 22 (.bin .lss (.t 18) (.t 21)))] [18, 19, 20, 21]) (.cond (.t 22) (.skip) (.exit 0))) (.seq (.block 1 (.seq (.draw ( .step (oN 25 (.fldaddr 4 1 (.t 2))) ( .step (oN 26 (.load false 1 (.t 25))) ( .step (oN 27 (.mov (.t 5))) ( .step (oN 28 (.idx 5 (.t 26) (.t 27))) ( .step (oN 29 (.load true 5 (.t 28))) ( .step (oN 30 (.mov (.t 1))) ( .step (oN 31 (.mov (.t 30))) ( .step (oG 32 31 false (.fldaddr 0 1 (.t 2))) ( .step (oG 33 31 false (.load false 1 (.t 32))) ( .step (oG 34 31 false (.bin .eql (.t 33) (.c (.int .i64 4)))) ( .step (oN 35 (.pick (.t 31) (.c (.bool true)) (.t 34))) ( .step (oN 36 (.mov (.t 35))) ( .step (oG 37 36 false (.fldaddr 0 1 (.t 2))) ( .step (oG 38 36 false (.load false 1 (.t 37))) ( .step (oG 39 36 false (.bin .eql (.t 38) (.c (.int .i64 5)))) ( .step (oN 40 (.pick (.t 36) (.c (.bool true)) (.t 39))) ( .step (oN 41 (.callq zgn [(.t 29), (.t 40)])) ( .done)))))))))))))))))) [22, 25, 26, 27, 28, 29, 30, 31, 32, 33, 34, 35, 36, 37, 38, 39, 40]) (.cond (.t 41) (.seq (.region [ (oN 4 (.mov (.c (.bool true))))] [1, 2, 5, 41]) (.ret)) (.skip)))) (.region [ (oN 23 (.mov (.t 5))), (oN 24 (.bin .add (.t 23) (.c (.int .i64 1)))), (oN 5 (.mov (.t 24)))] [4, 23, 24, 41]))
def zgE : ACode := .seq (.region [ (oN 4 (.mov (.c (.bool false))))] [1, 2, 5]) (.ret)
def zmi : ACode := .seq (.region [ (oN 2 (.rbox (.t 0))), (oN 4 (.mov (.c (.bool false))))] [0, 4]) (.seq (.seq (.region [ (oN 6 (.fldaddr 0 1 (.t 2))), (oN 7 (.load false 1 (.t 6))), (oN 8 (.bin .eql (.t 7) (.c (.int .i64 7)))), (oN 9 (.mov (.t 8))), (oG 10 9 false (.fldaddr 0 1 (.t 2))), (oG 11 9 false (.load false 1 (.t 10))), (oG 12 9 false (.bin .eql (.t 11) (.c (.int .i64 8)))), (oN 13 (.pick (.t 9) (.c (.bool true)) (.t 12))), (oN 14 (.mov (.t 13))), (oG 15 14 true (.mov (.t 1))), (oG 16 14 true (.un .not (.t 15))), (oN 17 (.pick (.t 14) (.t 16) (.c (.bool false))))] [6, 7, 8, 9, 10, 11, 12, 13, 14, 15, 16]) (.cond (.t 17) (.seq (.region [ (oN 4 (.mov (.c (.bool true))))] [1, 2, 17]) (.ret)) (.skip))) (.seq (.seq (.region [ (oN 5 (.mov (.c (.int .i64 0))))] [4, 17]) (.block 0 (.loop zga))) (zgE)))
def zcm : List ARet := [.tmp 4]
theorem zqC : zaP Tryz.prog zgn (qRo [2]) = some (zmi.strip, zcm, 42) := by kernel_rfl
def zbD : ACode := .seq (.region [ (oN 9 (.bin .lss (.t 8) (.t 7)))] []) (.seq (.cond (.t 9) (.skip) (.exit 0)) (.seq (.block 1 (.seq (.region [ (oN 10 (.mov (.t 8))), (oN 5 (.mov (.t 10)))] [9, 10]) (.seq (.region [ (oN 11 (.mov (.t 1))), (oN 12 (.mov (.t 0))), (oN 13 (.mov (.t 5))), (oN 14 (.idx 5 (.t 12) (.t 13))), (oN 15 (.load true 5 (.t 14))), (oN 16 (.callv (.t 11) [(.t 15)]))] [11, 12, 13, 14, 15]) (.cond (.t 16) (.seq (.region [ (oN 17 (.mov (.t 5))), (oN 4 (.mov (.t 17)))] [0, 1, 5, 7, 8, 16, 17]) (.ret)) (.skip))))) (.region [ (oN 18 (.bin .add (.t 8) (.c (.int .i64 1)))), (oN 8 (.mov (.t 18)))] [4, 5, 16, 18])))
def zbG : ACode := .seq (.region [ (oN 4 (.mov (.c (.int .i64 (-1)))))] [0, 1, 7, 8]) (.ret)
def zbU : ACode := .seq (.region [ (oN 4 (.mov (.c (.int .i64 0))))] [4]) (.seq (.seq (.region [ (oN 6 (.mov (.t 0))), (oN 7 (.len (.t 6))), (oN 8 (.mov (.c (.int .i64 0))))] [6]) (.block 0 (.loop zbD))) (zbG))
def za9 : List ARet := [.tmp 4]
theorem zdC : zaP Tryz.prog zaS (qRo []) = some (zbU.strip, za9, 19) := by kernel_rfl
def zeR : ACode := .seq (.region [ (oN 2 (.rbox (.t 0))), (oN 3 (.mov (.c (.bool false))))] [0, 3]) (.seq (.region [ (oN 4 (.load true 5 (.t 2))), (oN 5 (.load false 1 (.t 1))), (oN 6 (.call zcb [(.t 4), (.t 5)])), (oN 7 (.un .not (.t 6))), (oN 3 (.mov (.t 7)))] [1, 2, 4, 5, 6, 7]) (.ret))
def zeK : List ARet := [.tmp 3]
theorem ziO : zaP Tryz.prog zbP (qRo [2]) = some (zeR.strip, zeK, 8) := by kernel_rfl
def zds : ACode := .seq (.region [ (oN 9 (.bin .lss (.t 8) (.t 7)))] []) (.seq (.cond (.t 9) (.skip) (.exit 0)) (.seq (.block 1 (.seq (.region [ (oN 10 (.mov (.t 8))), (oN 5 (.mov (.t 10)))] [9, 10]) (.seq (.region [ (oN 11 (.mov (.t 1))), (oN 12 (.mov (.t 0))), (oN 13 (.mov (.t 5))), (oN 14 (.idx 1 (.t 12) (.t 13))), (oN 15 (.load false 1 (.t 14))), (oN 16 (.bin .eql (.t 11) (.t 15)))] [11, 12, 13, 14, 15]) (.cond (.t 16) (.seq (.region [ (oN 17 (.mov (.t 5))), (oN 4 (.mov (.t 17)))] [0, 1, 5, 7, 8, 16, 17]) (.ret)) (.skip))))) (.region [ (oN 18 (.bin .add (.t 8) (.c (.int .i64 1)))), (oN 8 (.mov (.t 18)))] [4, 5, 16, 18])))
def zdt : ACode := .seq (.region [ (oN 4 (.mov (.c (.int .i64 (-1)))))] [0, 1, 7, 8]) (.ret)
def zed : ACode := .seq (.region [ (oN 4 (.mov (.c (.int .i64 0))))] [4]) (.seq (.seq (.region [ (oN 6 (.mov (.t 0))), (oN 7 (.len (.t 6))), (oN 8 (.mov (.c (.int .i64 0))))] [6]) (.block 0 (.loop zds))) (zdt))
def zcE : List ARet := [.tmp 4]
theorem zhW : zaP Tryz.prog zcg (qRo []) = some (zed.strip, zcE, 19) := by kernel_rfl
def zaW : ACode := .seq (.region [ (oN 1 (.rbox (.t 0))), (oN 2 (.mov (.c (.bool false))))] [0, 2]) (.seq (.region [ (oN 3 (.mov (.c (.int .i64 0)))), (oN 4 (.mov (.c (.int .i64 0)))), (oN 5 (.mov (.c (.int .i64 0))))] []) (.seq (.seq (.region [ (oN 6 (.fldaddr 0 1 (.t 1))), (oN 7 (.load false 1 (.t 6)))] [6]) (.block 0 (.seq (.region [ (oN 9 (.bin .eql (.t 7) (.c (.int .i64 1)))), (oN 8 (.mov (.t 9)))] [9]) (.cond (.t 8) (.region [ (oN 10 (.fldaddr 4 1 (.t 1))), (oN 11 (.load false 1 (.t 10))), (oN 12 (.len (.t 11))), (oN 5 (.mov (.t 12)))] [7, 8, 10, 11, 12]) (.seq (.region [ (oN 14 (.bin .eql (.t 7) (.c (.int .i64 3)))), (oN 13 (.mov (.t 14)))] [8, 14]) (.cond (.t 13) (.region [ (oN 3 (.mov (.c (.int .i64 1)))), (oN 4 (.mov (.c (.int .i64 2)))), (oN 5 (.mov (.c (.int .i64 2))))] [7, 13]) (.seq (.region [ (oN 16 (.bin .eql (.t 7) (.c (.int .i64 4)))), (oN 15 (.mov (.t 16)))] [13, 16]) (.cond (.t 15) (.region [ (oN 4 (.mov (.c (.int .i64 1)))), (oN 5 (.mov (.c (.int .i64 1))))] [7, 15]) (.seq (.region [ (oN 18 (.bin .eql (.t 7) (.c (.int .i64 5)))), (oN 17 (.mov (.t 18)))] [15, 18]) (.cond (.t 17) (.region [ (oN 3 (.mov (.c (.int .i64 1)))), (oN 4 (.mov (.c (.int .i64 1)))), (oN 5 (.mov (.c (.int .i64 1))))] [7, 17]) (.seq (.region [ (oN 20 (.bin .eql (.t 7) (.c (.int .i64 6)))), (oN 19 (.mov (.t 20)))] [17, 20]) (.cond (.t 19) (.region [ (oN 3 (.mov (.c (.int .i64 1)))), (oN 4 (.mov (.c (.int .i64 1)))), (oN 5 (.mov (.c (.int .i64 64))))] [7, 19]) (.seq (.seq (.region [ (oN 22 (.bin .eql (.t 7) (.c (.int .i64 2)))), (oN 21 (.mov (.t 22)))] [19, 22]) (.cond (.t 21) (.skip) (.seq (.region [ (oN 23 (.bin .eql (.t 7) (.c (.int .i64 7)))), (oN 21 (.mov (.t 23)))] [23]) (.cond (.t 21) (.skip) (.seq (.region [ (oN 24 (.bin .eql (.t 7) (.c (.int .i64 8)))), (oN 21 (.mov (.t 24)))] [24]) (.cond (.t 21) (.skip) (.seq (.region [ (oN 25 (.bin .eql (.t 7) (.c (.int .i64 9)))), (oN 21 (.mov (.t 25)))] [25]) (.cond (.t 21) (.skip) (.seq (.region [ (oN 26 (.bin .eql (.t 7) (.c (.int .i64 10)))), (oN 21 (.mov (.t 26)))] [26]) (.cond (.t 21) (.skip) (.seq (.region [ (oN 27 (.bin .eql (.t 7) (.c (.int .i64 11)))), (oN 21 (.mov (.t 27)))] [27]) (.cond (.t 21) (.skip) (.region [ (oN 28 (.bin .eql (.t 7) (.c (.int .i64 12)))), (oN 21 (.mov (.t 28)))] [7, 28]))))))))))))) (.cond (.t 21) (.skip) (.seq (.region [ (oN 2 (.mov (.c (.bool false))))] [1, 3, 4, 5, 7, 21]) (.ret)))))))))))))))) (.seq (.seq (.region [ (oN 29 (.fldaddr 3 1 (.t 1))), (oN 30 (.load false 1 (.t 29))), (oN 31 (.len (.t 30))), (oN 32 (.mov (.t 3))), (oN 33 (.bin .neq (.t 31) (.t 32))), (oN 34 (.mov (.t 33))), (oG 35 34 false (.fldaddr 4 1 (.t 1))), (oG 36 34 false (.load false 1 (.t 35))), (oG 37 34 false (.len (.t 36))), (oG 38 34 false (.mov (.t 4))), (oG 39 34 false (.bin .lss (.t 37) (.t 38))), (oN 40 (.pick (.t 34) (.c (.bool true)) (.t 39))), (oN 41 (.mov (.t 40))), (oG 42 41 false (.fldaddr 4 1 (.t 1))), (oG 43 41 false (.load false 1 (.t 42))), (oG 44 41 false (.len (.t 43))), (oG 45 41 false (.mov (.t 5))), (oG 46 41 false (.bin .gtr (.t 44) (.t 45))), (oN 47 (.pick (.t 41) (.c (.bool true)) (.t 46))), (oN 48 (.mov (.t 47))), (oG 49 48 false (.fldaddr 2 1 (.t 1))), (oG 50 48 false (.load false 1 (.t 49))), (oG 51 48 false (.bin .lss (.t 50) (.c (.int .i64 0)))), (oN 52 (.pick (.t 48) (.c (.bool true)) (.t 51)))] [2, 4, 5, 7, 21, 29, 30, 31, 32, 33, 34, 35, 36, 37, 38, 39, 40, 41, 42, 43, 44, 45, 46, 47, 48, 49, 50, 51]) (.cond (.t 52) (.seq (.region [ (oN 2 (.mov (.c (.bool false))))] [1, 3, 52]) (.ret)) (.skip))) (.seq (.seq (.region [ (oN 53 (.mov (.t 3))), (oN 54 (.bin .eql (.t 53) (.c (.int .i64 1)))), (oN 55 (.mov (.t 54))), (oG 56 55 true (.fldaddr 3 1 (.t 1))), (oG 57 55 true (.load false 1 (.t 56))), (oG 58 55 true (.idx 5 (.t 57) (.c (.int .i64 0)))), (oG 59 55 true (.load true 5 (.t 58))), (oG 60 55 true (.call zda [(.t 59)])), (oG 61 55 true (.bin .neq (.t 60) (.c (.int .i64 0)))), (oN 62 (.pick (.t 55) (.t 61) (.c (.bool false))))] [2, 3, 52, 53, 54, 55, 56, 57, 58, 59, 60, 61]) (.cond (.t 62) (.seq (.region [ (oN 2 (.mov (.c (.bool false))))] [1, 62]) (.ret)) (.skip))) (.seq (.region [ (oN 63 (.fldaddr 1 1 (.t 1))), (oN 64 (.load false 1 (.t 63))), (oN 65 (.bin .eql (.t 64) (.c (.int .i64 0)))), (oN 66 (.mov (.t 65))), (oG 67 66 false (.fldaddr 0 1 (.t 1))), (oG 68 66 false (.load false 1 (.t 67))), (oG 69 66 false (.bin .eql (.t 68) (.c (.int .i64 2)))), (oN 70 (.pick (.t 66) (.c (.bool true)) (.t 69))), (oN 71 (.mov (.t 70))), (oG 72 71 false (.fldaddr 0 1 (.t 1))), (oG 73 71 false (.load false 1 (.t 72))), (oG 74 71 false (.bin .eql (.t 73) (.c (.int .i64 5)))), (oN 75 (.pick (.t 71) (.c (.bool true)) (.t 74))), (oN 76 (.mov (.t 75))), (oG 77 76 true (.fldaddr 2 1 (.t 1))), (oG 78 76 true (.load false 1 (.t 77))), (oG 79 76 true (.bin .eql (.t 78) (.c (.int .i64 0)))), (oG 80 76 true (.mov (.t 79))), (oG 81 80 false (.fldaddr 0 1 (.t 1))), (oG 82 80 false (.load false 1 (.t 81))), (oG 83 80 false (.bin .eql (.t 82) (.c (.int .i64 9)))), (oG 84 76 true (.pick (.t 80) (.c (.bool true)) (.t 83))), (oG 85 76 true (.mov (.t 84))), (oG 86 85 false (.fldaddr 0 1 (.t 1))), (oG 87 85 false (.load false 1 (.t 86))), (oG 88 85 false (.bin .eql (.t 87) (.c (.int .i64 10)))), (oG 89 76 true (.pick (.t 85) (.c (.bool true)) (.t 88))), (oN 90 (.pick (.t 76) (.t 89) (.c (.bool false)))), (oN 2 (.mov (.t 90)))] [1, 62, 63, 64, 65, 66, 67, 68, 69, 70, 71, 72, 73, 74, 75, 76, 77, 78, 79, 80, 81, 82, 83, 84, 85, 86, 87, 88, 89, 90]) (.ret))))))
def zab : List ARet := [.tmp 2]
theorem za1 : zaP Tryz.prog zaM (qRo [1]) = some (zaW.strip, zab, 91) := by kernel_rfl
def zfx : ACode := .seq (.seq (.region [ (oN 33 (.mov (.t 5))), (oN 34 (.fldaddr 4 1 (.t 2))), (oN 35 (.load false 1 (.t 34))), (oN 36 (.len (.t 35))), (oN 37 (.bin .lss (.t 33) (.t 36)))] [33, 34, 35, 36]) (.cond (.t 37) (.skip) (.exit 0))) (.seq (.block 1 (.seq (.draw ( .step (oN 40 (.fldaddr 4 1 (.t 2))) ( .step (oN 41 (.load false 1 (.t 40))) ( .step (oN 42 (.mov (.t 5))) ( .step (oN 43 (.idx 5 (.t 41) (.t 42))) ( .step (oN 44 (.load true 5 (.t 43))) ( .step (oN 45 (.load true 2 (.t 3))) ( .step (oN 46 (.callq zfa [(.t 44), (.t 45)])) ( .step (oN 47 (.un .not (.t 46))) ( .done))))))))) [37, 40, 41, 42, 43, 44, 45, 46]) (.cond (.t 47) (.seq (.region [ (oN 4 (.mov (.c (.bool false))))] [2, 3, 5, 47]) (.ret)) (.skip)))) (.region [ (oN 38 (.mov (.t 5))), (oN 39 (.bin .add (.t 38) (.c (.int .i64 1)))), (oN 5 (.mov (.t 39)))] [4, 38, 39, 47]))
def zfv : ACode := .seq (.region [ (oN 4 (.mov (.c (.bool true))))] [2, 3, 5]) (.ret)
def zlr : ACode := .seq (.region [ (oN 2 (.rbox (.t 0))), (oN 3 (.rbox (.t 1))), (oN 4 (.mov (.c (.bool false))))] [0, 1, 4]) (.seq (.seq (.region [ (oN 6 (.fldaddr 0 1 (.t 2))), (oN 7 (.load false 1 (.t 6))), (oN 8 (.bin .eql (.t 7) (.c (.int .i64 5)))), (oN 9 (.mov (.t 8))), (oG 10 9 true (.fldaddr 1 1 (.t 2))), (oG 11 9 true (.load false 1 (.t 10))), (oG 12 9 true (.bin .lss (.t 11) (.c (.int .i64 0)))), (oG 13 9 true (.mov (.t 12))), (oG 14 13 false (.fldaddr 1 1 (.t 2))), (oG 15 13 false (.load false 1 (.t 14))), (oG 16 13 false (.fldaddr 1 1 (.t 3))), (oG 17 13 false (.load false 1 (.t 16))), (oG 18 13 false (.len (.t 17))), (oG 19 13 false (.bin .geq (.t 15) (.t 18))), (oG 20 9 true (.pick (.t 13) (.c (.bool true)) (.t 19))), (oG 21 9 true (.mov (.t 20))), (oG 22 21 false (.fldaddr 1 1 (.t 3))), (oG 23 21 false (.load false 1 (.t 22))), (oG 24 21 false (.fldaddr 1 1 (.t 2))), (oG 25 21 false (.load false 1 (.t 24))), (oG 26 21 false (.idx 2 (.t 23) (.t 25))), (oG 27 21 false (.fldaddr 1 1 (.t 26))), (oG 28 21 false (.load false 1 (.t 27))), (oG 29 21 false (.len (.t 28))), (oG 30 21 false (.bin .neq (.t 29) (.c (.int .i64 1)))), (oG 31 9 true (.pick (.t 21) (.c (.bool true)) (.t 30))), (oN 32 (.pick (.t 9) (.t 31) (.c (.bool false))))] [6, 7, 8, 9, 10, 11, 12, 13, 14, 15, 16, 17, 18, 19, 20, 21, 22, 23, 24, 25, 26, 27, 28, 29, 30, 31]) (.cond (.t 32) (.seq (.region [ (oN 4 (.mov (.c (.bool false))))] [2, 3, 32]) (.ret)) (.skip))) (.seq (.seq (.region [ (oN 5 (.mov (.c (.int .i64 0))))] [4, 32]) (.block 0 (.loop zfx))) (zfv)))
def zcF : List ARet := [.tmp 4]
theorem zp6 : zaP Tryz.prog zfa (qRo [2, 3]) = some (zlr.strip, zcF, 48) := by kernel_rfl
def zg6 : List St → Bool
  | [] => true
  | x :: l => (zli x == l.isEmpty) && zg6 l
def inN (n : Int) (t : Int) : Bool := decide (0 ≤ t ∧ t < n)
def zb5 (l : List St) : List Int := match l.getLast? with
  | none => []
  | some s => zhS s
def zd9 (l : List St) (n : Int) : Bool := !l.isEmpty && (zg6 l && (zb5 l).all (inN n))
theorem zr6 {l : List St} {i : Nat} (h : i < l.length) : zg6 (l.drop i) = ((zli l[i] == decide ((i : Int) = (l.length : Int) - 1)) && zg6 (l.drop (i + 1))) := by
  rw [List.drop_eq_getElem_cons h, zg6]
  congr 2
  by_cases hi : i + 1 < l.length
  · rw [List.drop_eq_getElem_cons hi, decide_eq_false (by omega)]
    rfl
  · rw [List.drop_of_length_le (by omega), decide_eq_true (by omega)]
    rfl
theorem zzS {l : List Int} {i : Nat} {p : Int → Bool} (h : i < l.length) : (l.drop i).all p = (p l[i] && (l.drop (i + 1)).all p) := by
  rw [List.drop_eq_getElem_cons h, List.all_cons]
theorem zje {l : List St} (h : l.length - 1 < l.length) : zb5 l = zhS l[l.length - 1] := by
  unfold zb5
  rw [List.getLast?_eq_getElem?, List.getElem?_eq_getElem h]
theorem znX (b : Bl) (n : Int) : zaj Tryz.prog ze5 [.agg b.cells, .int .i64 n] (· = .bool (zd9 b.stmts n)) := by
  refine fn_x znI rfl ?_
  unfold zji
  have hB := hBig
  obtain ⟨ad, l⟩ := b
  simp only [Bl.cells, zd9]
  by_cases h0 : l.length = 0
  · obtain rfl : l = [] := List.eq_nil_of_length_eq_zero h0
    (repeat first | simp (disch := try exact dis1) only [evD, Nat.reduceBEq, Nat.reduceAdd, Nat.reduceLeDiff, fldP, dT, List.length_nil, zb9] | with_reducible intro _ | ((with_reducible apply And.intro); omega))
    exact ⟨_, .bool _ _, rfl⟩
  have he : l.isEmpty = false := by cases l with | nil => simp at h0 | cons a l => rfl
  rw [he]
  (repeat first | simp (disch := try exact dis1) only [evD, Nat.reduceBEq, Nat.reduceAdd, Nat.reduceLeDiff, fldP, dF] | with_reducible intro _ | ((with_reducible apply And.intro); omega))
  refine zam (fun i : Nat => ([(1, .int .i64 n), (2, encP 2 [.int .u32 ad, encL 8 St.cells l]), (5, .int .i64 i)], [])) 0 (fun i => i ≤ l.length ∧ zg6 (l.drop i) = zg6 l) (fun i => l.length - i) 0 ⟨Nat.zero_le _, rfl⟩ (Ent.keep rfl fin5) ?_
  rintro i ⟨hi, hgo⟩ wf
  unfold zgO
  by_cases hl : i < l.length
  · rw [zr6 hl] at hgo
    (repeat first | simp (disch := try exact dis1) only [evD, Nat.reduceBEq, Nat.reduceAdd, Nat.reduceLeDiff, fldP, dT, zao hl, St.len, St.eight] | with_reducible intro _ | ((with_reducible apply And.intro); omega))
    refine za7 (zah (zs3 l[i]) rfl) ?_
    generalize zli l[i] = q at hgo
    by_cases hx : (i : Int) = (l.length : Int) - 1
    · rw [decide_eq_true hx] at hgo
      cases q with
      | true =>
        (repeat first | simp (disch := try exact dis1) only [evD, Nat.reduceBEq, Nat.reduceAdd, Nat.reduceLeDiff, fldP, dT] | with_reducible intro _ | ((with_reducible apply And.intro); omega))
        exact ⟨i + 1, ⟨by omega, by simpa using hgo⟩, by omega, Ent.keep rfl fin5⟩
      | false =>
        replace hgo : zg6 l = false := by rw [← hgo]; rfl
        rw [hgo]
        (repeat first | simp (disch := try exact dis1) only [evD, Nat.reduceBEq, Nat.reduceAdd, Nat.reduceLeDiff, fldP, dT, zb9] | with_reducible intro _ | ((with_reducible apply And.intro); omega))
        exact ⟨_, .bool _ _, rfl⟩
    · rw [decide_eq_false hx] at hgo
      cases q with
      | false =>
        (repeat first | simp (disch := try exact dis1) only [evD, Nat.reduceBEq, Nat.reduceAdd, Nat.reduceLeDiff, fldP, dF] | with_reducible intro _ | ((with_reducible apply And.intro); omega))
        exact ⟨i + 1, ⟨by omega, by simpa using hgo⟩, by omega, Ent.keep rfl fin5⟩
      | true =>
        replace hgo : zg6 l = false := by rw [← hgo]; rfl
        rw [hgo]
        (repeat first | simp (disch := try exact dis1) only [evD, Nat.reduceBEq, Nat.reduceAdd, Nat.reduceLeDiff, fldP, dF, zb9] | with_reducible intro _ | ((with_reducible apply And.intro); omega))
        exact ⟨_, .bool _ _, rfl⟩
  rw [List.drop_of_length_le (by omega), zg6] at hgo
  rw [← hgo]
  have hlast : l.length - 1 < l.length := by omega
  have hidx : (((l.length : Nat) : Int) - 1).toNat = l.length - 1 := by omega
  rw [zje hlast]
  (repeat first | simp (disch := try exact dis1) only [evD, Nat.reduceBEq, Nat.reduceAdd, Nat.reduceLeDiff, fldP, dF] | with_reducible intro _ | ((with_reducible apply And.intro); omega))
  unfold zgT
  (repeat first | simp (disch := try exact dis1) only [evD, Nat.reduceBEq, Nat.reduceAdd, Nat.reduceLeDiff, fldP, dT, hidx, zao hlast, St.len, St.eight] | with_reducible intro _ | ((with_reducible apply And.intro); omega))
  refine zae (zah (zoJ l[l.length - 1]) rfl) ?_
  generalize zhS l[l.length - 1] = t
  generalize hR : t.all (inN n) = R
  (repeat first | simp (disch := try exact dis1) only [evD, Nat.reduceBEq, Nat.reduceAdd, Nat.reduceLeDiff] | with_reducible intro _ | ((with_reducible apply And.intro); omega))
  refine zam (fun i : Nat => ([(1, .int .i64 n), (6, zaa t), (7, .int .i64 i)], [])) 0 (fun i => i ≤ t.length ∧ (t.drop i).all (inN n) = R) (fun i => t.length - i) 0 ⟨Nat.zero_le _, hR⟩ (Ent.keep rfl fin5) ?_
  rintro i ⟨hi, hgo⟩ wf
  unfold zg0
  by_cases hl : i < t.length
  · rw [zzS hl] at hgo
    unfold inN at hgo
    by_cases q0 : 0 ≤ t[i]
    · by_cases q1 : t[i] < n
      · rw [decide_eq_true ⟨q0, q1⟩, Bool.true_and] at hgo
        (repeat first | simp (disch := try exact dis1) only [evD, Nat.reduceBEq, Nat.reduceAdd, Nat.reduceLeDiff, fldP, dT, dF, zaa, zao hl] | with_reducible intro _ | ((with_reducible apply And.intro); omega))
        exact ⟨i + 1, ⟨by omega, hgo⟩, by omega, Ent.keep rfl fin5⟩
      · rw [decide_eq_false (fun h => q1 h.2), Bool.false_and] at hgo
        subst hgo
        (repeat first | simp (disch := try exact dis1) only [evD, Nat.reduceBEq, Nat.reduceAdd, Nat.reduceLeDiff, fldP, dT, dF, zaa, zao hl, zb9] | with_reducible intro _ | ((with_reducible apply And.intro); omega))
        exact ⟨_, .bool _ _, rfl⟩
    · rw [decide_eq_false (fun h => q0 h.1), Bool.false_and] at hgo
      subst hgo
      (repeat first | simp (disch := try exact dis1) only [evD, Nat.reduceBEq, Nat.reduceAdd, Nat.reduceLeDiff, fldP, dT, dF, zaa, zao hl, zb9] | with_reducible intro _ | ((with_reducible apply And.intro); omega))
      exact ⟨_, .bool _ _, rfl⟩
  · rw [List.drop_of_length_le (by omega)] at hgo
    replace hgo : R = true := by rw [← hgo]; rfl
    subst hgo
    (repeat first | simp (disch := try exact dis1) only [evD, Nat.reduceBEq, Nat.reduceAdd, Nat.reduceLeDiff, fldP, dF, zaa] | with_reducible intro _ | ((with_reducible apply And.intro); omega))
    unfold zg8
    (repeat first | simp (disch := try exact dis1) only [evD, Nat.reduceBEq, Nat.reduceAdd, Nat.reduceLeDiff, zb9] | with_reducible intro _ | ((with_reducible apply And.intro); omega))
    exact ⟨_, .bool _ _, rfl⟩
def zha : List St → Int
  | [] => 0
  | s :: l => if s.check ≠ 0 then s.check else zha l
def ziV : List Bl → Int
  | [] => 0
  | b :: l => if zha b.stmts ≠ 0 then zha b.stmts else ziV l
def ziW (g : G) : Int := if (!g.blocks.isEmpty && g.blocks.all fun b => zd9 b.stmts g.blocks.length) = true then ziV g.blocks else 18
theorem zod {l : List St} {i : Nat} (h : i < l.length) : zha (l.drop i) = if l[i].check ≠ 0 then l[i].check else zha (l.drop (i + 1)) := by
  rw [List.drop_eq_getElem_cons h, zha]
theorem znR {l : List Bl} {i : Nat} (h : i < l.length) : ziV (l.drop i) = if zha l[i].stmts ≠ 0 then zha l[i].stmts else ziV (l.drop (i + 1)) := by
  rw [List.drop_eq_getElem_cons h, ziV]
structure fewB (g : G) : Prop where
  blocks : g.blocks.length ≤ 12
  stmts : ∀ b ∈ g.blocks, b.stmts.length ≤ 8
theorem zl8 (g : G) (hf : fewB g) : zaj Tryz.prog zdR [.agg g.cells] (· = .int .i64 (ziW g)) := by
  refine fn_x zlQ rfl ?_
  unfold zhp
  have hB := hBig
  obtain ⟨hb, hs⟩ := hf
  obtain ⟨ad, l⟩ := g
  simp only at hb hs
  simp only [G.cells, ziW]
  (repeat first | simp (disch := try exact dis1) only [evD, Nat.reduceBEq, Nat.reduceAdd, Nat.reduceLeDiff, fldP, dF] | with_reducible intro _ | ((with_reducible apply And.intro); omega))
  refine zam (fun s : Nat × Nat => ([(1, encP 2 [.int .u32 ad, encL 2 Bl.cells l]), (3, .int .i64 s.2), (4, .int .i64 s.1)], [])) 0 (fun s => s.1 ≤ l.length ∧ s.2 ≤ 8 * s.1) (fun s => l.length - s.1) (0, 0) ⟨Nat.zero_le _, Nat.le_refl _⟩ (Ent.keep rfl fin5) ?_
  rintro ⟨i, n⟩ ⟨hi, hn⟩ wf
  simp only at hi hn
  unfold zfD
  by_cases hl : i < l.length
  · have hg : (l.map Bl.cells).getD i [] = [.int .u32 l[i].addr, encL 8 St.cells l[i].stmts] := zao hl
    have hsl := hs l[i] (List.getElem_mem hl)
    (repeat first | simp (disch := try exact dis1) only [evD, Nat.reduceBEq, Nat.reduceAdd, Nat.reduceLeDiff, fldP, dT, hg] | with_reducible intro _ | ((with_reducible apply And.intro); omega))
    exact ⟨(i + 1, n + l[i].stmts.length), ⟨by simp only; omega, by simp only; omega⟩, by simp only; omega, Ent.keep rfl fin5⟩
  (repeat first | simp (disch := try exact dis1) only [evD, Nat.reduceBEq, Nat.reduceAdd, Nat.reduceLeDiff, fldP, dF] | with_reducible intro _ | ((with_reducible apply And.intro); omega))
  unfold zfK
  by_cases h0 : l.length = 0
  · obtain rfl : l = [] := List.eq_nil_of_length_eq_zero h0
    (repeat first | simp (disch := try exact dis1) only [evD, Nat.reduceBEq, Nat.reduceAdd, Nat.reduceLeDiff, fldP, dT, dF, List.length_nil, zcy] | with_reducible intro _ | ((with_reducible apply And.intro); omega))
    exact ⟨_, .int _ _ _, rfl⟩
  have he : l.isEmpty = false := by cases l with | nil => simp at h0 | cons a l => rfl
  rw [he]
  (repeat first | simp (disch := try exact dis1) only [evD, Nat.reduceBEq, Nat.reduceAdd, Nat.reduceLeDiff, fldP, dF] | with_reducible intro _ | ((with_reducible apply And.intro); omega))
  refine zam (fun i : Nat => ([(1, encP 2 [.int .u32 ad, encL 2 Bl.cells l]), (5, .int .i64 i)], [])) 0 (fun i => i ≤ l.length ∧ ((l.drop i).all fun b => zd9 b.stmts l.length) = (l.all fun b => zd9 b.stmts l.length)) (fun i => l.length - i) 0 ⟨Nat.zero_le _, rfl⟩ (Ent.keep rfl fin5) ?_
  rintro i ⟨hi, hgo⟩ wf
  unfold zfS
  by_cases hl : i < l.length
  · have hg : (l.map Bl.cells).getD i [] = [.int .u32 l[i].addr, encL 8 St.cells l[i].stmts] := zao hl
    rw [List.drop_eq_getElem_cons hl, List.all_cons] at hgo
    (repeat first | simp (disch := try exact dis1) only [evD, Nat.reduceBEq, Nat.reduceAdd, Nat.reduceLeDiff, fldP, dT, hg] | with_reducible intro _ | ((with_reducible apply And.intro); omega))
    refine za7 (zah (znX l[i] l.length) rfl) ?_
    cases hc : zd9 l[i].stmts l.length with
    | true =>
      rw [hc, Bool.true_and] at hgo
      (repeat first | simp (disch := try exact dis1) only [evD, Nat.reduceBEq, Nat.reduceAdd, Nat.reduceLeDiff] | with_reducible intro _ | ((with_reducible apply And.intro); omega))
      exact ⟨i + 1, ⟨by omega, hgo⟩, by omega, Ent.keep rfl fin5⟩
    | false =>
      rw [hc, Bool.false_and] at hgo
      rw [← hgo]
      (repeat first | simp (disch := try exact dis1) only [evD, Nat.reduceBEq, Nat.reduceAdd, Nat.reduceLeDiff, zcy] | with_reducible intro _ | ((with_reducible apply And.intro); omega))
      exact ⟨_, .int _ _ _, rfl⟩
  rw [List.drop_of_length_le (by omega)] at hgo
  replace hgo : (l.all fun b => zd9 b.stmts l.length) = true := by rw [← hgo]; rfl
  rw [hgo]
  (repeat first | simp (disch := try exact dis1) only [evD, Nat.reduceBEq, Nat.reduceAdd, Nat.reduceLeDiff, fldP, dF] | with_reducible intro _ | ((with_reducible apply And.intro); omega))
  unfold zfF
  (repeat first | simp (disch := try exact dis1) only [evD, Nat.reduceBEq, Nat.reduceAdd, Nat.reduceLeDiff] | with_reducible intro _ | ((with_reducible apply And.intro); omega))
  refine zam (fun i : Nat => ([(1, encP 2 [.int .u32 ad, encL 2 Bl.cells l]), (6, .int .i64 i)], [])) 0 (fun i => i ≤ l.length ∧ ziV (l.drop i) = ziV l) (fun i => l.length - i) 0 ⟨Nat.zero_le _, rfl⟩ (Ent.keep rfl fin5) ?_
  rintro i ⟨hi, hgo⟩ wf
  unfold zfC
  by_cases hl : i < l.length
  · have hg : (l.map Bl.cells).getD i [] = [.int .u32 l[i].addr, encL 8 St.cells l[i].stmts] := zao hl
    rw [znR hl] at hgo
    (repeat first | simp (disch := try exact dis1) only [evD, Nat.reduceBEq, Nat.reduceAdd, Nat.reduceLeDiff, fldP, dT, hg] | with_reducible intro _ | ((with_reducible apply And.intro); omega))
    generalize l[i].stmts = m at hg hgo
    generalize l[i].addr = ad' at hg
    refine zam (fun j : Nat => ([(1, encP 2 [.int .u32 ad, encL 2 Bl.cells l]), (6, .int .i64 i), (7, .int .i64 j)], [])) 0 (fun j => j ≤ m.length ∧ zha (m.drop j) = zha m) (fun j => m.length - j) 0 ⟨Nat.zero_le _, rfl⟩ (Ent.keep rfl fin5) ?_
    rintro j ⟨hj, hgo2⟩ wf2
    unfold zfO
    by_cases hm : j < m.length
    · rw [zod hm] at hgo2
      (repeat first | simp (disch := try exact dis1) only [evD, Nat.reduceBEq, Nat.reduceAdd, Nat.reduceLeDiff, fldP, dT, hg, zao hm, St.len, St.eight] | with_reducible intro _ | ((with_reducible apply And.intro); omega))
      refine zae (zah (zm7 m[j]) rfl) ?_
      by_cases hx : m[j].check = 0
      · rw [if_neg (by omega)] at hgo2
        (repeat first | simp (disch := try exact dis1) only [evD, Nat.reduceBEq, Nat.reduceAdd, Nat.reduceLeDiff, dF] | with_reducible intro _ | ((with_reducible apply And.intro); omega))
        exact ⟨j + 1, ⟨by omega, hgo2⟩, by omega, Ent.keep rfl fin5⟩
      · rw [if_pos hx] at hgo2
        rw [← hgo2, if_pos hx] at hgo
        rw [← hgo]
        (repeat first | simp (disch := try exact dis1) only [evD, Nat.reduceBEq, Nat.reduceAdd, Nat.reduceLeDiff, dT, zcy] | with_reducible intro _ | ((with_reducible apply And.intro); omega))
        exact ⟨_, .int _ _ _, rfl⟩
    · rw [List.drop_of_length_le (by omega), zha] at hgo2
      rw [← hgo2, if_neg (by omega)] at hgo
      (repeat first | simp (disch := try exact dis1) only [evD, Nat.reduceBEq, Nat.reduceAdd, Nat.reduceLeDiff, fldP, dF, hg] | with_reducible intro _ | ((with_reducible apply And.intro); omega))
      unfold zfA
      (repeat first | simp (disch := try exact dis1) only [evD, Nat.reduceBEq, Nat.reduceAdd, Nat.reduceLeDiff] | with_reducible intro _ | ((with_reducible apply And.intro); omega))
      exact ⟨i + 1, ⟨by omega, hgo⟩, by omega, Ent.keep rfl fin5⟩
  rw [List.drop_of_length_le (by omega), ziV] at hgo
  rw [← hgo]
  (repeat first | simp (disch := try exact dis1) only [evD, Nat.reduceBEq, Nat.reduceAdd, Nat.reduceLeDiff, fldP, dF] | with_reducible intro _ | ((with_reducible apply And.intro); omega))
  unfold zfL
  (repeat first | simp (disch := try exact dis1) only [evD, Nat.reduceBEq, Nat.reduceAdd, Nat.reduceLeDiff, zcy] | with_reducible intro _ | ((with_reducible apply And.intro); omega))
  exact ⟨_, .int _ _ _, rfl⟩
structure PredT (fv : AV) (l : List St) (p : St → Bool) : Prop where
  ex : ∃ f caps, fv = .fn (.func f) caps ∧ zeS Tryz.prog f = true ∧ zaE caps = true ∧ ∀ s ∈ l, zaj Tryz.prog f ([.agg s.cells] ++ caps) (· = .bool (p s))
theorem zsD {fv : AV} {l : List St} {p : St → Bool} (hp : PredT fv l p) {s : St} (hs : s ∈ l) {H : AH} {nx : Nat} {k : AV → AH → Nat → Prop} (hk : k (.bool (p s)) H nx) : zlg Tryz.prog fv [.agg s.cells] H nx k := by
  obtain ⟨f, caps, rfl, hg, hf, hx⟩ := hp.ex
  rw [zhE]
  refine ⟨hg, zae (zah (hx s hs) ?_) hk⟩
  simp only [List.cons_append, List.nil_append, List.all_cons, Bool.and_eq_true]
  exact ⟨rfl, zdg hf⟩
theorem ztA {fv : AV} {l : List St} {p : St → Bool} (hp : PredT fv l p) {H H2 : AH} {σ : Nat → Nat → Option (Nat × Nat × Nat)} {D : Nat → Nat → Prop} {t : Bool} : Vw H H2 σ D t fv fv := by
  obtain ⟨f, caps, rfl, hg, hf, hx⟩ := hp.ex
  refine .fn _ _ _ _ rfl fun i a b h1 h2 => ?_
  rw [h1] at h2
  cases h2
  exact zdq (zcc hf h1)
theorem zj1 (l : List St) (fv : AV) (p : St → Bool) (hp : PredT fv l p) : zaj Tryz.prog zaT [encL 8 St.cells l, fv] (· = .int .i64 (idxI (l.findIdx? p))) := by
  refine fn_x zdA rfl ?_
  unfold zbX
  have hB := hBig
  (repeat first | simp (disch := try exact dis1) only [evD, Nat.reduceBEq, Nat.reduceAdd, Nat.reduceLeDiff] | with_reducible intro _ | ((with_reducible apply And.intro); omega))
  refine zam (fun i : Nat => ([(0, encL 8 St.cells l), (1, fv), (7, .int .i64 l.length), (8, .int .i64 i)], [])) 0 (fun i => i ≤ l.length ∧ ∀ j (h : j < l.length), j < i → p l[j] = false) (fun i => l.length - i) 0 ⟨Nat.zero_le _, fun j _ h => by omega⟩ (Ent.keep rfl fin5) ?_
  intro i ⟨hi, hno⟩ wf
  unfold zbH
  (repeat first | simp (disch := try exact dis1) only [evD, Nat.reduceBEq, Nat.reduceAdd, Nat.reduceLeDiff] | with_reducible intro _ | ((with_reducible apply And.intro); omega))
  (refine zap (fun h => ?_) (fun h => ?_)) <;> (try simp only [dcd] at h)
  · have hi' : i < l.length := by omega
    (repeat first | simp (disch := try exact dis1) only [evD, Nat.reduceBEq, Nat.reduceAdd, Nat.reduceLeDiff, zao hi', St.len, St.eight] | with_reducible intro _ | ((with_reducible apply And.intro); omega))
    refine zsD hp (List.getElem_mem hi') ?_
    (repeat first | simp (disch := try exact dis1) only [evD, Nat.reduceBEq, Nat.reduceAdd, Nat.reduceLeDiff] | with_reducible intro _ | ((with_reducible apply And.intro); omega))
    (refine zap (fun h2 => ?_) (fun h2 => ?_)) <;> (try simp only [dcd] at h2)
    · (repeat first | simp (disch := try exact dis1) only [evD, Nat.reduceBEq, Nat.reduceAdd, Nat.reduceLeDiff, zbb] | with_reducible intro _ | ((with_reducible apply And.intro); omega))
      have e : l.findIdx? p = some i := by
        rw [List.findIdx?_eq_some_iff_getElem]
        exact ⟨hi', h2, fun j hj => by rw [hno j (by omega) hj]; simp⟩
      rw [e]
      exact ⟨_, .int _ _ _, rfl⟩
    · (repeat first | simp (disch := try exact dis1) only [evD, Nat.reduceBEq, Nat.reduceAdd, Nat.reduceLeDiff] | with_reducible intro _ | ((with_reducible apply And.intro); omega))
      refine ⟨i + 1, ⟨by omega, fun j hj hji => ?_⟩, by omega, Ent.keep rfl fin5⟩
      by_cases hje : j = i
      · subst hje; simpa using h2
      · exact hno j hj (by omega)
  · unfold zbv
    (repeat first | simp (disch := try exact dis1) only [evD, Nat.reduceBEq, Nat.reduceAdd, Nat.reduceLeDiff, zbb] | with_reducible intro _ | ((with_reducible apply And.intro); omega))
    have e : l.findIdx? p = none := by
      rw [List.findIdx?_eq_none_iff]
      intro x hx
      obtain ⟨j, hj, rfl⟩ := List.mem_iff_getElem.1 hx
      exact hno j hj (by omega)
    rw [e]
    exact ⟨_, .int _ _ _, rfl⟩
theorem zzt {l : List St} {p : St → Bool} : decide (idxI (l.findIdx? p) ≥ 0) = l.any p := by
  cases h : l.findIdx? p with
  | none =>
    have := List.findIdx?_eq_none_iff.1 h
    rw [decide_eq_false (by simp [idxI])]
    symm
    rw [List.any_eq_false]
    intro x hx
    rw [this x hx]; simp
  | some i =>
    obtain ⟨h1, h2, _⟩ := List.findIdx?_eq_some_iff_getElem.1 h
    rw [decide_eq_true (by simp [idxI])]
    exact (zpI h1 h2).symm
theorem zhX (l : List St) (fv : AV) (p : St → Bool) (hp : PredT fv l p) : zaj Tryz.prog zaN [encL 8 St.cells l, fv] (· = .bool (l.any p)) := by
  refine fn_x zc2 rfl ?_
  unfold zbB
  (repeat first | simp (disch := try exact dis1) only [evD, Nat.reduceBEq, Nat.reduceAdd, Nat.reduceLeDiff] | with_reducible intro _ | ((with_reducible apply And.intro); omega))
  refine zae (zaY (D := noR) (zj1 l fv p hp) (.cons (zbp rfl) (.cons (ztA hp) .nil)) (.inl rfl)) ?_
  (repeat first | simp (disch := try exact dis1) only [evD, Nat.reduceBEq, Nat.reduceAdd, Nat.reduceLeDiff, zbA] | with_reducible intro _ | ((with_reducible apply And.intro); omega))
  refine ⟨_, .bool _ _, ?_⟩
  rw [← zzt]
structure PredI (fv : AV) (l : List Int) (p : Int → Bool) : Prop where
  ex : ∃ f caps, fv = .fn (.func f) caps ∧ zeS Tryz.prog f = true ∧ zaE caps = true ∧ ∀ s ∈ l, zaj Tryz.prog f ([.int .i64 s] ++ caps) (· = .bool (p s))
theorem zsC {fv : AV} {l : List Int} {p : Int → Bool} (hp : PredI fv l p) {s : Int} (hs : s ∈ l) {H : AH} {nx : Nat} {k : AV → AH → Nat → Prop} (hk : k (.bool (p s)) H nx) : zlg Tryz.prog fv [.int .i64 s] H nx k := by
  obtain ⟨f, caps, rfl, hg, hf, hx⟩ := hp.ex
  rw [zhE]
  refine ⟨hg, zae (zah (hx s hs) ?_) hk⟩
  simp only [List.cons_append, List.nil_append, List.all_cons, Bool.and_eq_true]
  exact ⟨rfl, zdg hf⟩
theorem ztB {fv : AV} {l : List Int} {p : Int → Bool} (hp : PredI fv l p) {H H2 : AH} {σ : Nat → Nat → Option (Nat × Nat × Nat)} {D : Nat → Nat → Prop} {t : Bool} : Vw H H2 σ D t fv fv := by
  obtain ⟨f, caps, rfl, hg, hf, hx⟩ := hp.ex
  refine .fn _ _ _ _ rfl fun i a b h1 h2 => ?_
  rw [h1] at h2
  cases h2
  exact zdq (zcc hf h1)
theorem zke (l : List Int) (fv : AV) (p : Int → Bool) (hp : PredI fv l p) : zaj Tryz.prog zaV [zaa l, fv] (· = .int .i64 (idxI (l.findIdx? p))) := by
  refine fn_x zc7 rfl ?_
  unfold zb7
  have hB := hBig
  (repeat first | simp (disch := try exact dis1) only [evD, Nat.reduceBEq, Nat.reduceAdd, Nat.reduceLeDiff, zaa] | with_reducible intro _ | ((with_reducible apply And.intro); omega))
  refine zam (fun i : Nat => ([(0, zaa l), (1, fv), (7, .int .i64 l.length), (8, .int .i64 i)], [])) 0 (fun i => i ≤ l.length ∧ ∀ j (h : j < l.length), j < i → p l[j] = false) (fun i => l.length - i) 0 ⟨Nat.zero_le _, fun j _ h => by omega⟩ (Ent.keep rfl fin5) ?_
  intro i ⟨hi, hno⟩ wf
  unfold zbN
  (repeat first | simp (disch := try exact dis1) only [evD, Nat.reduceBEq, Nat.reduceAdd, Nat.reduceLeDiff] | with_reducible intro _ | ((with_reducible apply And.intro); omega))
  (refine zap (fun h => ?_) (fun h => ?_)) <;> (try simp only [dcd] at h)
  · have hi' : i < l.length := by omega
    (repeat first | simp (disch := try exact dis1) only [evD, Nat.reduceBEq, Nat.reduceAdd, Nat.reduceLeDiff, zaa, zao hi'] | with_reducible intro _ | ((with_reducible apply And.intro); omega))
    refine zsC hp (List.getElem_mem hi') ?_
    (repeat first | simp (disch := try exact dis1) only [evD, Nat.reduceBEq, Nat.reduceAdd, Nat.reduceLeDiff] | with_reducible intro _ | ((with_reducible apply And.intro); omega))
    (refine zap (fun h2 => ?_) (fun h2 => ?_)) <;> (try simp only [dcd] at h2)
    · (repeat first | simp (disch := try exact dis1) only [evD, Nat.reduceBEq, Nat.reduceAdd, Nat.reduceLeDiff, za5] | with_reducible intro _ | ((with_reducible apply And.intro); omega))
      have e : l.findIdx? p = some i := by
        rw [List.findIdx?_eq_some_iff_getElem]
        exact ⟨hi', h2, fun j hj => by rw [hno j (by omega) hj]; simp⟩
      rw [e]
      exact ⟨_, .int _ _ _, rfl⟩
    · (repeat first | simp (disch := try exact dis1) only [evD, Nat.reduceBEq, Nat.reduceAdd, Nat.reduceLeDiff] | with_reducible intro _ | ((with_reducible apply And.intro); omega))
      refine ⟨i + 1, ⟨by omega, fun j hj hji => ?_⟩, by omega, Ent.keep rfl fin5⟩
      by_cases hje : j = i
      · subst hje; simpa using h2
      · exact hno j hj (by omega)
  · unfold zbQ
    (repeat first | simp (disch := try exact dis1) only [evD, Nat.reduceBEq, Nat.reduceAdd, Nat.reduceLeDiff, za5] | with_reducible intro _ | ((with_reducible apply And.intro); omega))
    have e : l.findIdx? p = none := by
      rw [List.findIdx?_eq_none_iff]
      intro x hx
      obtain ⟨j, hj, rfl⟩ := List.mem_iff_getElem.1 hx
      exact hno j hj (by omega)
    rw [e]
    exact ⟨_, .int _ _ _, rfl⟩
theorem zzx {l : List Int} {p : Int → Bool} : decide (idxI (l.findIdx? p) ≥ 0) = l.any p := by
  cases h : l.findIdx? p with
  | none =>
    have := List.findIdx?_eq_none_iff.1 h
    rw [decide_eq_false (by simp [idxI])]
    symm
    rw [List.any_eq_false]
    intro x hx
    rw [this x hx]; simp
  | some i =>
    obtain ⟨h1, h2, _⟩ := List.findIdx?_eq_some_iff_getElem.1 h
    rw [decide_eq_true (by simp [idxI])]
    exact (zpI h1 h2).symm
theorem zii (l : List Int) (fv : AV) (p : Int → Bool) (hp : PredI fv l p) : zaj Tryz.prog zbf [zaa l, fv] (· = .bool (l.any p)) := by
  refine fn_x zfl rfl ?_
  unfold zcA
  (repeat first | simp (disch := try exact dis1) only [evD, Nat.reduceBEq, Nat.reduceAdd, Nat.reduceLeDiff] | with_reducible intro _ | ((with_reducible apply And.intro); omega))
  refine zae (zaY (D := noR) (zke l fv p hp) (.cons (zbp rfl) (.cons (ztB hp) .nil)) (.inl rfl)) ?_
  (repeat first | simp (disch := try exact dis1) only [evD, Nat.reduceBEq, Nat.reduceAdd, Nat.reduceLeDiff, zcC] | with_reducible intro _ | ((with_reducible apply And.intro); omega))
  refine ⟨_, .bool _ _, ?_⟩
  rw [← zzx]
theorem zxe (l : List Int) (hl : l.length ≤ 100000000) : za6 Tryz.prog zaz [zaa l] [] 0 (fun v H nx => v = .own 0 0 0 0 l.length ∧ H = [(0, .row 1 (l.map cI) 0)] ∧ nx = 1) := by
  refine zfT (fn_x zcH rfl ?_)
  unfold zbY zaa
  have hB := hBig
  have hel : ∀ H, zd4 1 (encL 1 (fun n => [.int .i64 n]) l) H = some (l.map cI) := fun H => zjO
  (repeat first | simp (disch := try exact dis1) only [evD, Nat.reduceBEq, Nat.reduceAdd, Nat.reduceLeDiff, zqS] | with_reducible intro _ | ((with_reducible apply And.intro); omega))
  cases h0 : (l.length == 0) with
  | true =>
    have e : l = [] := List.eq_nil_of_length_eq_zero (by simpa using h0)
    subst e
    (repeat first | simp (disch := try exact dis1) only [evD, Nat.reduceBEq, Nat.reduceAdd, Nat.reduceLeDiff] | with_reducible intro _ | ((with_reducible apply And.intro); omega))
    rename_i b
    cases b
    · (repeat first | simp (disch := try exact dis1) only [evD, Nat.reduceBEq, Nat.reduceAdd, Nat.reduceLeDiff, hel, zaC] | with_reducible intro _ | ((with_reducible apply And.intro); omega))
      exact ⟨.own 0 0 0 0 0, [(0, .row 1 [] 0)], 1, (Ent.tab [(0, 1, 1)] [] rfl (by (try simp only [evWB, Nat.reduceBEq, Nat.reduceAdd, Nat.reduceSub, Nat.reduceLeDiff, Nat.reduceLT]) <;> exact fin2) (by (try simp only [evWB, Nat.reduceBEq, Nat.reduceAdd, Nat.reduceSub, Nat.reduceLeDiff, Nat.reduceLT]) <;> exact fin2)), rfl, rfl, rfl⟩
    · (repeat first | simp (disch := try exact dis1) only [evD, Nat.reduceBEq, Nat.reduceAdd, Nat.reduceLeDiff, zaC] | with_reducible intro _ | ((with_reducible apply And.intro); omega))
      exact ⟨.own 0 0 0 0 0, [(0, .row 1 [] 0)], 1, (Ent.tab [(0, 1, 0)] [] rfl (by (try simp only [evWB, Nat.reduceBEq, Nat.reduceAdd, Nat.reduceSub, Nat.reduceLeDiff, Nat.reduceLT]) <;> exact fin2) (by (try simp only [evWB, Nat.reduceBEq, Nat.reduceAdd, Nat.reduceSub, Nat.reduceLeDiff, Nat.reduceLT]) <;> exact fin2)), rfl, rfl, rfl⟩
  | false =>
    (repeat first | simp (disch := try exact dis1) only [evD, Nat.reduceBEq, Nat.reduceAdd, Nat.reduceLeDiff, hel, zaC] | with_reducible intro _ | ((with_reducible apply And.intro); omega))
    exact ⟨.own 0 0 0 0 l.length, [(0, .row 1 (l.map cI) 0)], 1, (Ent.tab [(0, 1, 1)] [] rfl (by (try simp only [evWB, Nat.reduceBEq, Nat.reduceAdd, Nat.reduceSub, Nat.reduceLeDiff, Nat.reduceLT]) <;> exact fin2) (by (try simp only [evWB, Nat.reduceBEq, Nat.reduceAdd, Nat.reduceSub, Nat.reduceLeDiff, Nat.reduceLT]) <;> exact fin2)), rfl, rfl, rfl⟩
theorem renI {ρ : Nat → Nat} {l : List Int} {g : Nat} : AObj.ren ρ (.row 1 (l.map cI) g) = .row 1 (l.map cI) g := by
  simp only [AObj.ren]
  rw [ztF (zhT fun _ => rfl)]
theorem zm2 (b : Bl) (hc : ∀ s ∈ b.stmts, s.cases.length ≤ 100000000) : zaj Tryz.prog zer [.agg b.cells] (· = zaa (zb5 b.stmts)) := by
  refine fn_x zmU rfl ?_
  unfold ziB
  have hB := hBig
  obtain ⟨ad, l⟩ := b
  simp only at hc
  simp only [Bl.cells]
  by_cases h0 : l.length = 0
  · obtain rfl : l = [] := List.eq_nil_of_length_eq_zero h0
    (repeat first | simp (disch := try exact dis1) only [evD, Nat.reduceBEq, Nat.reduceAdd, Nat.reduceLeDiff, fldP, dT, List.length_nil, zck] | with_reducible intro _ | ((with_reducible apply And.intro); omega))
    exact ⟨_, zcd (l := []) trivial rfl (by simp only [List.length_nil]; omega), rfl⟩
  have hlast : l.length - 1 < l.length := by omega
  have hidx : (((l.length : Nat) : Int) - 1).toNat = l.length - 1 := by omega
  have hcs := hc _ (List.getElem_mem hlast)
  have hg := zao (f := St.cells) (d := []) hlast
  rw [zje hlast]
  generalize l[l.length - 1] = s at hg hcs
  obtain ⟨op, var, width, next, els, tgt, e, cs⟩ := s
  simp only [St.cells] at hg hcs
  unfold zhS
  simp only
  (repeat first | simp (disch := try exact dis1) only [evD, Nat.reduceBEq, Nat.reduceAdd, Nat.reduceLeDiff, fldP, dT, dF, hidx, hg] | with_reducible intro _ | ((with_reducible apply And.intro); omega))
  by_cases h6 : op = 6
  · rw [if_pos h6]
    (repeat first | simp (disch := try exact dis1) only [evD, Nat.reduceBEq, Nat.reduceAdd, Nat.reduceLeDiff, dT, dF, fldP, zaa, St.cells, zck] | with_reducible intro _ | ((with_reducible apply And.intro); omega))
    exact ⟨_, zcd (l := [next]) trivial rfl (by simp only [List.length_singleton]; omega), rfl⟩
  rw [if_neg h6]
  by_cases h7 : op = 7
  · rw [if_pos h7]
    (repeat first | simp (disch := try exact dis1) only [evD, Nat.reduceBEq, Nat.reduceAdd, Nat.reduceLeDiff, dT, dF, fldP, zaa, St.cells, zck] | with_reducible intro _ | ((with_reducible apply And.intro); omega))
    exact ⟨_, zcd (l := [next, els]) trivial rfl (by simp only [List.length_cons, List.length_nil]; omega), rfl⟩
  rw [if_neg h7]
  by_cases h8 : op = 8
  · rw [if_pos h8]
    (repeat first | simp (disch := try exact dis1) only [evD, Nat.reduceBEq, Nat.reduceAdd, Nat.reduceLeDiff, dT, dF, fldP, St.cells] | with_reducible intro _ | ((with_reducible apply And.intro); omega))
    refine zdr [] 0 _ (zxe cs hcs) rfl rfl (by (try simp only [evWB, Nat.reduceBEq, Nat.reduceAdd, Nat.reduceSub, Nat.reduceLeDiff, Nat.reduceLT]) <;> exact fin1) (by (try simp only [evWB, Nat.reduceBEq, Nat.reduceAdd, Nat.reduceSub, Nat.reduceLeDiff, Nat.reduceLT]) <;> exact fin1) ?_
    rintro _ _ _ ⟨rfl, rfl, rfl⟩
    (repeat first | simp (disch := try exact dis1) only [evD, Nat.reduceBEq, Nat.reduceAdd, Nat.reduceLeDiff, renI, zck] | with_reducible intro _ | ((with_reducible apply And.intro); omega))
    exact ⟨_, zcd (l := cs) trivial rfl (by omega), rfl⟩
  rw [if_neg h8]
  (repeat first | simp (disch := try exact dis1) only [evD, Nat.reduceBEq, Nat.reduceAdd, Nat.reduceLeDiff, dT, dF, fldP, zaa, St.cells, zck] | with_reducible intro _ | ((with_reducible apply And.intro); omega))
  exact ⟨_, zcd (l := []) trivial rfl (by simp only [List.length_nil]; omega), rfl⟩
theorem zmC : ∀ (l : List St) (h : l.length - 1 < l.length), zg6 l = (zli (l[l.length - 1]'h) && !((l.take (l.length - 1)).any zli))
  | [], h => by simp at h
  | [x], h => by
    rw [zg6, zg6]
    simp
  | x :: y :: l, h => by
    have ih := zmC (y :: l) (by simp)
    rw [zg6, ih]
    simp only [List.length_cons, Nat.add_sub_cancel, List.isEmpty_cons, List.take_succ_cons, List.any_cons]
    have e : (x :: y :: l)[l.length + 1] = (y :: l)[l.length] := rfl
    rw [e]
    cases zli x <;> cases zli (y :: l)[l.length] <;> simp
theorem zzQ {α : Type} {f : α → List AV} {H H2 : AH} {σ : Nat → Nat → Option (Nat × Nat × Nat)} {D : Nat → Nat → Prop} {t : Bool} {l : List α} {sz i n z : Nat} (hi : i ≤ l.length) (hn : n = i) (hz : z = 0) (hf : ∀ a, zaE (f a) = true) :
    Vw H H2 σ D t (.sl sz n (fun a j => ((l.map f).getD (z + a) []).getD j .undef)) (encL sz f (l.take i)) := by
  subst hn hz
  have e : (l.take n).length = n := by rw [List.length_take]; omega
  unfold encL
  rw [e]
  refine .slf _ _ _ _ _ (fun a j ha hj => ?_)
  have e2 : (List.map f (List.take n l)).getD a [] = (l.map f).getD (0 + a) [] := by
    rw [Nat.zero_add, List.map_take, List.getD_eq_getElem?_getD, List.getElem?_take_of_lt ha, List.getD_eq_getElem?_getD]
  rw [e2, zao (show 0 + a < l.length by omega), List.getD_eq_getElem?_getD]
  cases hx : (f l[0 + a])[j]? with
  | none => exact .undef _ _
  | some x => exact zdq (zcc (hf _) hx)
theorem zpc (l : List St) : PredT (.fn (.func zcv) []) l zli := ⟨_, _, rfl, by kernel_rfl, rfl, fun s _ => zir s⟩
theorem zoA (t ad : Int) (l : List Bl) : zaj Tryz.prog zei [.int .i64 t, encP 2 [.int .u32 ad, encL 2 Bl.cells l]] (· = .bool (!inN l.length t)) := by
  refine fn_x zox rfl ?_
  unfold zkq inN
  have hB := hBig
  by_cases h0 : 0 ≤ t
  · by_cases h1 : t < l.length
    · rw [decide_eq_true ⟨h0, h1⟩]
      (repeat first | simp (disch := try exact dis1) only [evD, Nat.reduceBEq, Nat.reduceAdd, Nat.reduceLeDiff, fldP, dT, dF, ze8] | with_reducible intro _ | ((with_reducible apply And.intro); omega))
      exact ⟨_, .bool _ _, rfl⟩
    · rw [decide_eq_false (fun h => h1 h.2)]
      (repeat first | simp (disch := try exact dis1) only [evD, Nat.reduceBEq, Nat.reduceAdd, Nat.reduceLeDiff, fldP, dT, dF, ze8] | with_reducible intro _ | ((with_reducible apply And.intro); omega))
      exact ⟨_, .bool _ _, rfl⟩
  · rw [decide_eq_false (fun h => h0 h.1)]
    (repeat first | simp (disch := try exact dis1) only [evD, Nat.reduceBEq, Nat.reduceAdd, Nat.reduceLeDiff, fldP, dT, dF, ze8] | with_reducible intro _ | ((with_reducible apply And.intro); omega))
    exact ⟨_, .bool _ _, rfl⟩
theorem zmn (ad : Int) (l : List Bl) (m : List Int) : PredI (.fn (.func zei) [encP 2 [.int .u32 ad, encL 2 Bl.cells l]]) m (fun t => !inN l.length t) := ⟨_, _, rfl, by kernel_rfl, rfl, fun s _ => zoA s ad l⟩
theorem zrS (g : G) (hf : fewB g) (hc : ∀ b ∈ g.blocks, ∀ s ∈ b.stmts, s.cases.length ≤ 100000000) : zaj Tryz.prog zhY [.agg g.cells] (· = .bool (!g.blocks.isEmpty && g.blocks.all fun b => zd9 b.stmts g.blocks.length)) := by
  refine fn_x zrL rfl ?_
  unfold zmK
  have hB := hBig
  obtain ⟨hb, hs⟩ := hf
  obtain ⟨ad, l⟩ := g
  simp only at hb hs hc
  simp only [G.cells]
  by_cases h0 : l.length = 0
  · obtain rfl : l = [] := List.eq_nil_of_length_eq_zero h0
    (repeat first | simp (disch := try exact dis1) only [evD, Nat.reduceBEq, Nat.reduceAdd, Nat.reduceLeDiff, fldP, dT, List.length_nil, zde] | with_reducible intro _ | ((with_reducible apply And.intro); omega))
    exact ⟨_, .bool _ _, rfl⟩
  have he : l.isEmpty = false := by cases l with | nil => simp at h0 | cons a l => rfl
  rw [he]
  generalize hR : (l.all fun b => zd9 b.stmts l.length) = R
  (repeat first | simp (disch := try exact dis1) only [evD, Nat.reduceBEq, Nat.reduceAdd, Nat.reduceLeDiff, fldP, dF] | with_reducible intro _ | ((with_reducible apply And.intro); omega))
  refine zam (fun i : Nat => ([(1, encP 2 [.int .u32 ad, encL 2 Bl.cells l]), (11, encL 2 Bl.cells l), (12, .int .i64 l.length), (13, .int .i64 i)], [])) 0 (fun i => i ≤ l.length ∧ ((l.drop i).all fun b => zd9 b.stmts l.length) = R) (fun i => l.length - i) 0 ⟨Nat.zero_le _, hR⟩ (Ent.keep rfl fin5) ?_
  rintro i ⟨hi, hgo⟩ wf
  unfold zjm
  by_cases hl : i < l.length
  · have hg : (l.map Bl.cells).getD i [] = [.int .u32 l[i].addr, encL 8 St.cells l[i].stmts] := zao hl
    have hss := zm2 l[i] (hc _ (List.getElem_mem hl))
    rw [List.drop_eq_getElem_cons hl, List.all_cons] at hgo
    simp only [Bl.cells] at hss
    generalize l[i].stmts = m at hg hgo hss
    generalize l[i].addr = ad' at hg hss
    by_cases hm0 : m.length = 0
    · obtain rfl : m = [] := List.eq_nil_of_length_eq_zero hm0
      replace hgo : R = false := by rw [← hgo]; rfl
      subst hgo
      (repeat first | simp (disch := try exact dis1) only [evD, Nat.reduceBEq, Nat.reduceAdd, Nat.reduceLeDiff, fldP, dT, hg, List.length_nil, zde] | with_reducible intro _ | ((with_reducible apply And.intro); omega))
      exact ⟨_, .bool _ _, rfl⟩
    have hlast : m.length - 1 < m.length := by omega
    have hidx : (((m.length : Nat) : Int) - 1).toNat = m.length - 1 := by omega
    have hme : m.isEmpty = false := by cases m with | nil => simp at hm0 | cons a l => rfl
    unfold zd9 at hgo
    rw [hme, zmC m hlast] at hgo
    (repeat first | simp (disch := try exact dis1) only [evD, Nat.reduceBEq, Nat.reduceAdd, Nat.reduceLeDiff, fldP, dT, dF, hg, hidx, zao hlast, St.len, St.eight] | with_reducible intro _ | ((with_reducible apply And.intro); omega))
    refine zae (zah (zir m[m.length - 1]) rfl) ?_
    generalize zli m[m.length - 1] = q at hgo
    cases q with
    | false =>
      replace hgo : R = false := by rw [← hgo]; rfl
      subst hgo
      (repeat first | simp (disch := try exact dis1) only [evD, Nat.reduceBEq, Nat.reduceAdd, Nat.reduceLeDiff, zde] | with_reducible intro _ | ((with_reducible apply And.intro); omega))
      exact ⟨_, .bool _ _, rfl⟩
    | true =>
      (repeat first | simp (disch := try exact dis1) only [evD, Nat.reduceBEq, Nat.reduceAdd, Nat.reduceLeDiff, fldP, znA, hidx] | with_reducible intro _ | ((with_reducible apply And.intro); omega))
      refine zae (zaY (D := noR) (zhX (m.take (m.length - 1)) _ _ (zpc _)) (.cons (zzQ (by omega) (by omega) rfl (fun _ => rfl)) (.cons (ztA (zpc (m.take (m.length - 1)))) .nil)) (.inl rfl)) ?_
      generalize (m.take (m.length - 1)).any zli = q at hgo
      cases q with
      | true =>
        replace hgo : R = false := by rw [← hgo]; rfl
        subst hgo
        (repeat first | simp (disch := try exact dis1) only [evD, Nat.reduceBEq, Nat.reduceAdd, Nat.reduceLeDiff, zde] | with_reducible intro _ | ((with_reducible apply And.intro); omega))
        exact ⟨_, .bool _ _, rfl⟩
      | false =>
        (repeat first | simp (disch := try exact dis1) only [evD, Nat.reduceBEq, Nat.reduceAdd, Nat.reduceLeDiff, fldP] | with_reducible intro _ | ((with_reducible apply And.intro); omega))
        refine zae (zah hss rfl) ?_
        (repeat first | simp (disch := try exact dis1) only [evD, Nat.reduceBEq, Nat.reduceAdd, Nat.reduceLeDiff, fldP] | with_reducible intro _ | ((with_reducible apply And.intro); omega))
        refine zae (zaY (D := noR) (zii (zb5 m) _ _ (zmn ad l _)) (.cons (zbp rfl) (.cons (ztB (zmn ad l (zb5 m))) .nil)) (.inl rfl)) ?_
        rw [List.all_eq_not_any_not] at hgo
        generalize ((zb5 m).any fun t => !inN l.length t) = q at hgo
        cases q with
        | true =>
          replace hgo : R = false := by rw [← hgo]; rfl
          subst hgo
          (repeat first | simp (disch := try exact dis1) only [evD, Nat.reduceBEq, Nat.reduceAdd, Nat.reduceLeDiff, zde] | with_reducible intro _ | ((with_reducible apply And.intro); omega))
          exact ⟨_, .bool _ _, rfl⟩
        | false =>
          replace hgo : ((l.drop (i + 1)).all fun b => zd9 b.stmts l.length) = R := by rw [← hgo]; rfl
          (repeat first | simp (disch := try exact dis1) only [evD, Nat.reduceBEq, Nat.reduceAdd, Nat.reduceLeDiff] | with_reducible intro _ | ((with_reducible apply And.intro); omega))
          exact ⟨i + 1, ⟨by omega, hgo⟩, by omega, (Ent.tab [] [] rfl (by (try simp only [evWB, Nat.reduceBEq, Nat.reduceAdd, Nat.reduceSub, Nat.reduceLeDiff, Nat.reduceLT]) <;> exact fin2) (by (try simp only [evWB, Nat.reduceBEq, Nat.reduceAdd, Nat.reduceSub, Nat.reduceLeDiff, Nat.reduceLT]) <;> exact fin2))⟩
  · rw [List.drop_of_length_le (by omega)] at hgo
    replace hgo : R = true := by rw [← hgo]; rfl
    subst hgo
    (repeat first | simp (disch := try exact dis1) only [evD, Nat.reduceBEq, Nat.reduceAdd, Nat.reduceLeDiff, fldP, dF] | with_reducible intro _ | ((with_reducible apply And.intro); omega))
    unfold zi3
    (repeat first | simp (disch := try exact dis1) only [evD, Nat.reduceBEq, Nat.reduceAdd, Nat.reduceLeDiff, zde] | with_reducible intro _ | ((with_reducible apply And.intro); omega))
    exact ⟨_, .bool _ _, rfl⟩
theorem zm8 (g : G) (hf : fewB g) (hc : ∀ b ∈ g.blocks, ∀ s ∈ b.stmts, s.cases.length ≤ 100000000) : zaj Tryz.prog zca [.agg g.cells] (· = .int .i64 (ziW g)) := by
  refine fn_x zm6 rfl ?_
  unfold ziI
  have hB := hBig
  have hsh := zrS g hf hc
  obtain ⟨hb, hs⟩ := hf
  obtain ⟨ad, l⟩ := g
  simp only at hb hs hsh
  simp only [G.cells, ziW] at hsh ⊢
  (repeat first | simp (disch := try exact dis1) only [evD, Nat.reduceBEq, Nat.reduceAdd, Nat.reduceLeDiff, fldP] | with_reducible intro _ | ((with_reducible apply And.intro); omega))
  refine zam (fun s : Nat × Nat => ([(1, encP 2 [.int .u32 ad, encL 2 Bl.cells l]), (3, .int .i64 s.2), (12, encL 2 Bl.cells l), (13, .int .i64 l.length), (14, .int .i64 s.1)], [])) 0 (fun s => s.1 ≤ l.length ∧ s.2 ≤ 8 * s.1) (fun s => l.length - s.1) (0, 0) ⟨Nat.zero_le _, Nat.le_refl _⟩ (Ent.keep rfl fin5) ?_
  rintro ⟨i, n⟩ ⟨hi, hn⟩ wf
  simp only at hi hn
  unfold zgd
  by_cases hl : i < l.length
  · have hg : (l.map Bl.cells).getD i [] = [.int .u32 l[i].addr, encL 8 St.cells l[i].stmts] := zao hl
    have hsl := hs l[i] (List.getElem_mem hl)
    (repeat first | simp (disch := try exact dis1) only [evD, Nat.reduceBEq, Nat.reduceAdd, Nat.reduceLeDiff, fldP, dT, hg] | with_reducible intro _ | ((with_reducible apply And.intro); omega))
    exact ⟨(i + 1, n + l[i].stmts.length), ⟨by simp only; omega, by simp only; omega⟩, by simp only; omega, (Ent.tab [] [] rfl (by (try simp only [evWB, Nat.reduceBEq, Nat.reduceAdd, Nat.reduceSub, Nat.reduceLeDiff, Nat.reduceLT]) <;> exact fin2) (by (try simp only [evWB, Nat.reduceBEq, Nat.reduceAdd, Nat.reduceSub, Nat.reduceLeDiff, Nat.reduceLT]) <;> exact fin2))⟩
  (repeat first | simp (disch := try exact dis1) only [evD, Nat.reduceBEq, Nat.reduceAdd, Nat.reduceLeDiff, fldP, dF] | with_reducible intro _ | ((with_reducible apply And.intro); omega))
  unfold zgf
  (repeat first | simp (disch := try exact dis1) only [evD, Nat.reduceBEq, Nat.reduceAdd, Nat.reduceLeDiff, fldP, dF, zgN, tab, List.getD_cons_zero, List.getD_cons_succ] | with_reducible intro _ | ((with_reducible apply And.intro); omega))
  refine zae (zah hsh rfl) ?_
  generalize (!l.isEmpty && l.all fun b => zd9 b.stmts l.length) = q
  cases q with
  | false =>
    (repeat first | simp (disch := try exact dis1) only [evD, Nat.reduceBEq, Nat.reduceAdd, Nat.reduceLeDiff, zdU] | with_reducible intro _ | ((with_reducible apply And.intro); omega))
    exact ⟨_, .int _ _ _, rfl⟩
  | true =>
  rw [if_pos rfl]
  (repeat first | simp (disch := try exact dis1) only [evD, Nat.reduceBEq, Nat.reduceAdd, Nat.reduceLeDiff, fldP] | with_reducible intro _ | ((with_reducible apply And.intro); omega))
  refine zam (fun i : Nat => ([(36, encL 2 Bl.cells l), (37, .int .i64 l.length), (38, .int .i64 i)], [])) 0 (fun i => i ≤ l.length ∧ ziV (l.drop i) = ziV l) (fun i => l.length - i) 0 ⟨Nat.zero_le _, rfl⟩ (Ent.keep rfl fin5) ?_
  rintro i ⟨hi, hgo⟩ wf
  unfold zgC
  by_cases hl : i < l.length
  · have hg : (l.map Bl.cells).getD i [] = [.int .u32 l[i].addr, encL 8 St.cells l[i].stmts] := zao hl
    have hsl := hs l[i] (List.getElem_mem hl)
    rw [znR hl] at hgo
    (repeat first | simp (disch := try exact dis1) only [evD, Nat.reduceBEq, Nat.reduceAdd, Nat.reduceLeDiff, fldP, dT, hg] | with_reducible intro _ | ((with_reducible apply And.intro); omega))
    generalize l[i].stmts = m at hg hgo hsl
    generalize l[i].addr = ad' at hg
    refine zam (fun j : Nat => ([(36, encL 2 Bl.cells l), (37, .int .i64 l.length), (38, .int .i64 i), (43, encL 8 St.cells m), (44, .int .i64 m.length), (45, .int .i64 j)], [])) 0 (fun j => j ≤ m.length ∧ zha (m.drop j) = zha m) (fun j => m.length - j) 0 ⟨Nat.zero_le _, rfl⟩ (Ent.tab [] [] rfl (by (try simp only [evWB, Nat.reduceBEq, Nat.reduceAdd, Nat.reduceSub, Nat.reduceLeDiff, Nat.reduceLT]) <;> exact fin2) (by (try simp only [evWB, Nat.reduceBEq, Nat.reduceAdd, Nat.reduceSub, Nat.reduceLeDiff, Nat.reduceLT]) <;> exact fin2)) ?_
    rintro j ⟨hj, hgo2⟩ wf2
    unfold zgt
    by_cases hm : j < m.length
    · rw [zod hm] at hgo2
      (repeat first | simp (disch := try exact dis1) only [evD, Nat.reduceBEq, Nat.reduceAdd, Nat.reduceLeDiff, fldP, dT, zao hm, St.len, St.eight, St.flat] | with_reducible intro _ | ((with_reducible apply And.intro); omega))
      refine zae (zah (znO m[j]) rfl) ?_
      by_cases hx : m[j].check = 0
      · rw [if_neg (by omega)] at hgo2
        (repeat first | simp (disch := try exact dis1) only [evD, Nat.reduceBEq, Nat.reduceAdd, Nat.reduceLeDiff, dF] | with_reducible intro _ | ((with_reducible apply And.intro); omega))
        exact ⟨j + 1, ⟨by omega, hgo2⟩, by omega, (Ent.tab [] [] rfl (by (try simp only [evWB, Nat.reduceBEq, Nat.reduceAdd, Nat.reduceSub, Nat.reduceLeDiff, Nat.reduceLT]) <;> exact fin2) (by (try simp only [evWB, Nat.reduceBEq, Nat.reduceAdd, Nat.reduceSub, Nat.reduceLeDiff, Nat.reduceLT]) <;> exact fin2))⟩
      · rw [if_pos hx] at hgo2
        rw [← hgo2, if_pos hx] at hgo
        rw [← hgo]
        (repeat first | simp (disch := try exact dis1) only [evD, Nat.reduceBEq, Nat.reduceAdd, Nat.reduceLeDiff, dT, zdU] | with_reducible intro _ | ((with_reducible apply And.intro); omega))
        exact ⟨_, .int _ _ _, rfl⟩
    · rw [List.drop_of_length_le (by omega), zha] at hgo2
      rw [← hgo2, if_neg (by omega)] at hgo
      (repeat first | simp (disch := try exact dis1) only [evD, Nat.reduceBEq, Nat.reduceAdd, Nat.reduceLeDiff, fldP, dF] | with_reducible intro _ | ((with_reducible apply And.intro); omega))
      unfold zgo
      (repeat first | simp (disch := try exact dis1) only [evD, Nat.reduceBEq, Nat.reduceAdd, Nat.reduceLeDiff] | with_reducible intro _ | ((with_reducible apply And.intro); omega))
      exact ⟨i + 1, ⟨by omega, hgo⟩, by omega, Ent.keep rfl fin5⟩
  rw [List.drop_of_length_le (by omega), ziV] at hgo
  rw [← hgo]
  (repeat first | simp (disch := try exact dis1) only [evD, Nat.reduceBEq, Nat.reduceAdd, Nat.reduceLeDiff, fldP, dF] | with_reducible intro _ | ((with_reducible apply And.intro); omega))
  unfold zgp
  (repeat first | simp (disch := try exact dis1) only [evD, Nat.reduceBEq, Nat.reduceAdd, Nat.reduceLeDiff, zdU] | with_reducible intro _ | ((with_reducible apply And.intro); omega))
  exact ⟨_, .int _ _ _, rfl⟩
def stOk (s : St) : Bool := decide (s.cases.length ≤ 8) && (decide (s.e.length ≤ 3) && zeT s.e)
def blOk (b : Bl) : Bool := decide (b.stmts.length ≤ 8) && b.stmts.all stOk
def fewG (g : G) : Bool := (g.blocks.take 14).all blOk && decide (g.blocks.length ≤ 12)
theorem zzz {l : List Bl} {i : Nat} (h : i < l.length) (h2 : i < 14) : ((l.drop i).take (14 - i)).all blOk = (blOk l[i] && ((l.drop (i + 1)).take (14 - (i + 1))).all blOk) := by
  rw [List.drop_eq_getElem_cons h, show 14 - i = (14 - (i + 1)) + 1 by omega, List.take_succ_cons, List.all_cons]
theorem zud (g : G) : zaj Tryz.prog zlc [.agg g.cells] (· = .bool (fewG g)) := by
  refine fn_x zuR rfl ?_
  unfold zo8
  have hB := hBig
  obtain ⟨ad, l⟩ := g
  simp only [G.cells, fewG]
  generalize hR : (l.take 14).all blOk = R
  (repeat first | simp (disch := try exact dis1) only [evD, Nat.reduceBEq, Nat.reduceAdd, Nat.reduceLeDiff, fldP] | with_reducible intro _ | ((with_reducible apply And.intro); omega))
  refine zam (fun i : Nat => ([(1, encP 2 [.int .u32 ad, encL 2 Bl.cells l]), (3, .int .i64 i)], [])) 0 (fun i => (i ≤ l.length ∧ i ≤ 14) ∧ ((l.drop i).take (14 - i)).all blOk = R) (fun i => l.length - i) 0 ⟨⟨Nat.zero_le _, Nat.zero_le _⟩, hR⟩ (Ent.keep rfl fin5) ?_
  rintro i ⟨⟨hi, hi2⟩, hgo⟩ wf
  unfold zlk
  have fin : R = true → wpX Tryz.prog 0 zh5 (retK ze1 fun v H' x => ∃ a, Frz H' v a ∧ a = .bool (R && decide (l.length ≤ 12))) [(1, encP 2 [.int .u32 ad, encL 2 Bl.cells l]), (3, .int .i64 i), (15, .bool false)] [] 0 := by
    intro hr
    subst hr
    unfold zh5
    (repeat first | simp (disch := try exact dis1) only [evD, Nat.reduceBEq, Nat.reduceAdd, Nat.reduceLeDiff, fldP, ze1] | with_reducible intro _ | ((with_reducible apply And.intro); omega))
    exact ⟨_, .bool _ _, congrArg AV.bool (decide_eq_decide.2 (by omega))⟩
  by_cases hl : i < l.length
  case neg =>
    rw [List.drop_of_length_le (by omega), List.take_nil] at hgo
    replace hgo : R = true := by rw [← hgo]; rfl
    (repeat first | simp (disch := try exact dis1) only [evD, Nat.reduceBEq, Nat.reduceAdd, Nat.reduceLeDiff, fldP, dF] | with_reducible intro _ | ((with_reducible apply And.intro); omega))
    exact fin hgo
  by_cases hl2 : i < 14
  case neg =>
    rw [show 14 - i = 0 by omega, List.take_zero] at hgo
    replace hgo : R = true := by rw [← hgo]; rfl
    have hd : decide ((i : Int) < 14) = false := decide_eq_false (by omega)
    (repeat first | simp (disch := try exact dis1) only [evD, Nat.reduceBEq, Nat.reduceAdd, Nat.reduceLeDiff, fldP, dT, hd] | with_reducible intro _ | ((with_reducible apply And.intro); omega))
    exact fin hgo
  have hg : (l.map Bl.cells).getD i [] = [.int .u32 l[i].addr, encL 8 St.cells l[i].stmts] := zao hl
  rw [zzz hl hl2] at hgo
  unfold blOk at hgo
  by_cases h8 : l[i].stmts.length ≤ 8
  case neg =>
    rw [decide_eq_false h8] at hgo
    replace hgo : R = false := by rw [← hgo]; rfl
    subst hgo
    (repeat first | simp (disch := try exact dis1) only [evD, Nat.reduceBEq, Nat.reduceAdd, Nat.reduceLeDiff, fldP, dT, hg, ze1] | with_reducible intro _ | ((with_reducible apply And.intro); omega))
    exact ⟨_, .bool _ _, rfl⟩
  rw [decide_eq_true h8, Bool.true_and] at hgo
  (repeat first | simp (disch := try exact dis1) only [evD, Nat.reduceBEq, Nat.reduceAdd, Nat.reduceLeDiff, fldP, dT, dF, hg] | with_reducible intro _ | ((with_reducible apply And.intro); omega))
  generalize l[i].stmts = m at hg hgo h8
  generalize l[i].addr = ad' at hg
  generalize hM : m.all stOk = M at hgo
  refine zam (fun j : Nat => ([(1, encP 2 [.int .u32 ad, encL 2 Bl.cells l]), (3, .int .i64 i), (4, .int .i64 j)], [])) 0 (fun j => j ≤ m.length ∧ (m.drop j).all stOk = M) (fun j => m.length - j) 0 ⟨Nat.zero_le _, hM⟩ (Ent.keep rfl fin5) ?_
  rintro j ⟨hj, hgo2⟩ wf2
  unfold zk9
  by_cases hm : j < m.length
  case neg =>
    rw [List.drop_of_length_le (by omega)] at hgo2
    replace hgo2 : M = true := by rw [← hgo2]; rfl
    subst hgo2
    (repeat first | simp (disch := try exact dis1) only [evD, Nat.reduceBEq, Nat.reduceAdd, Nat.reduceLeDiff, fldP, dF, hg] | with_reducible intro _ | ((with_reducible apply And.intro); omega))
    unfold zlh
    (repeat first | simp (disch := try exact dis1) only [evD, Nat.reduceBEq, Nat.reduceAdd, Nat.reduceLeDiff] | with_reducible intro _ | ((with_reducible apply And.intro); omega))
    exact ⟨i + 1, ⟨⟨by omega, by omega⟩, by rw [← hgo, Bool.true_and]; rfl⟩, by omega, Ent.keep rfl fin5⟩
  rw [List.drop_eq_getElem_cons hm, List.all_cons] at hgo2
  have hgm := zao (f := St.cells) (d := []) hm
  generalize m[j] = s at hgo2 hgm
  obtain ⟨op, var, width, next, els, tgt, e, cs⟩ := s
  simp only [St.cells] at hgm
  simp only [stOk] at hgo2
  (repeat first | simp (disch := try exact dis1) only [evD, Nat.reduceBEq, Nat.reduceAdd, Nat.reduceLeDiff, fldP, dT, hg, hgm] | with_reducible intro _ | ((with_reducible apply And.intro); omega))
  by_cases hc8 : cs.length ≤ 8
  case neg =>
    rw [decide_eq_false hc8] at hgo2
    replace hgo2 : M = false := by rw [← hgo2]; rfl
    subst hgo2
    replace hgo : R = false := by rw [← hgo]; rfl
    subst hgo
    (repeat first | simp (disch := try exact dis1) only [evD, Nat.reduceBEq, Nat.reduceAdd, Nat.reduceLeDiff, fldP, zaa, dT, ze1] | with_reducible intro _ | ((with_reducible apply And.intro); omega))
    exact ⟨_, .bool _ _, rfl⟩
  rw [decide_eq_true hc8, Bool.true_and] at hgo2
  by_cases he3 : e.length ≤ 3
  case neg =>
    rw [decide_eq_false he3] at hgo2
    replace hgo2 : M = false := by rw [← hgo2]; rfl
    subst hgo2
    replace hgo : R = false := by rw [← hgo]; rfl
    subst hgo
    (repeat first | simp (disch := try exact dis1) only [evD, Nat.reduceBEq, Nat.reduceAdd, Nat.reduceLeDiff, fldP, zaa, dF, dT, ze1] | with_reducible intro _ | ((with_reducible apply And.intro); omega))
    exact ⟨_, .bool _ _, rfl⟩
  rw [decide_eq_true he3, Bool.true_and] at hgo2
  (repeat first | simp (disch := try exact dis1) only [evD, Nat.reduceBEq, Nat.reduceAdd, Nat.reduceLeDiff, fldP, zaa, dF, dT] | with_reducible intro _ | ((with_reducible apply And.intro); omega))
  generalize hE : zeT e = E at hgo2
  refine zam (fun k : Nat => ([(1, encP 2 [.int .u32 ad, encL 2 Bl.cells l]), (3, .int .i64 i), (4, .int .i64 j), (5, .ptr 0 0 0 0 0), (6, .int .i64 k)], [(0, .row 8 [[.int .i64 op, .int .i64 var, .int .i64 width, .int .i64 next, .int .i64 els, .int .u32 tgt, encL 5 encX e, zaa cs]] 0)])) 1 (fun k => k ≤ e.length ∧ zeT (e.drop k) = E) (fun k => e.length - k) 0 ⟨Nat.zero_le _, hE⟩ (Ent.tab [(0, 0, 0)] [] rfl (by (try simp only [evWB, Nat.reduceBEq, Nat.reduceAdd, Nat.reduceSub, Nat.reduceLeDiff, Nat.reduceLT]) <;> exact fin2) (by (try simp only [evWB, Nat.reduceBEq, Nat.reduceAdd, Nat.reduceSub, Nat.reduceLeDiff, Nat.reduceLT]) <;> exact fin2)) ?_
  rintro k ⟨hk, hgo3⟩ wf3
  unfold zkS
  by_cases hke : k < e.length
  case neg =>
    rw [List.drop_of_length_le (by omega)] at hgo3
    replace hgo3 : E = true := by rw [← hgo3]; rfl
    subst hgo3
    (repeat first | simp (disch := try exact dis1) only [evD, Nat.reduceBEq, Nat.reduceAdd, Nat.reduceLeDiff, fldP, dF] | with_reducible intro _ | ((with_reducible apply And.intro); omega))
    unfold zlB
    (repeat first | simp (disch := try exact dis1) only [evD, Nat.reduceBEq, Nat.reduceAdd, Nat.reduceLeDiff] | with_reducible intro _ | ((with_reducible apply And.intro); omega))
    exact ⟨j + 1, ⟨by omega, by rw [← hgo2, Bool.true_and]⟩, by omega, (Ent.tab [] [] rfl (by (try simp only [evWB, Nat.reduceBEq, Nat.reduceAdd, Nat.reduceSub, Nat.reduceLeDiff, Nat.reduceLT]) <;> exact fin2) (by (try simp only [evWB, Nat.reduceBEq, Nat.reduceAdd, Nat.reduceSub, Nat.reduceLeDiff, Nat.reduceLT]) <;> exact fin2))⟩
  rw [zmo hke] at hgo3
  have hnr := zg3 e[k] 70 200 (by omega)
  (repeat first | simp (disch := try exact dis1) only [evD, Nat.reduceBEq, Nat.reduceAdd, Nat.reduceLeDiff, fldP, dT, zao hke, zbS, zbh] | with_reducible intro _ | ((with_reducible apply And.intro); omega))
  refine zae (zah (zmq (zgL e[k]) e[k] 70 200 (Nat.le_refl _) (by omega) (by omega) (by omega) (by omega)) (flX rfl)) ?_
  by_cases hn : zjH e[k] 70 200 < 0
  · rw [if_pos hn] at hgo3
    subst hgo3
    replace hgo2 : M = false := by rw [← hgo2]; rfl
    subst hgo2
    replace hgo : R = false := by rw [← hgo]; rfl
    subst hgo
    (repeat first | simp (disch := try exact dis1) only [evD, Nat.reduceBEq, Nat.reduceAdd, Nat.reduceLeDiff, dT, ze1] | with_reducible intro _ | ((with_reducible apply And.intro); omega))
    exact ⟨_, .bool _ _, rfl⟩
  · rw [if_neg hn] at hgo3
    (repeat first | simp (disch := try exact dis1) only [evD, Nat.reduceBEq, Nat.reduceAdd, Nat.reduceLeDiff, dF] | with_reducible intro _ | ((with_reducible apply And.intro); omega))
    exact ⟨k + 1, ⟨by omega, hgo3⟩, by omega, (Ent.tab [(0, 0, 0)] [] rfl (by (try simp only [evWB, Nat.reduceBEq, Nat.reduceAdd, Nat.reduceSub, Nat.reduceLeDiff, Nat.reduceLT]) <;> exact fin2) (by (try simp only [evWB, Nat.reduceBEq, Nat.reduceAdd, Nat.reduceSub, Nat.reduceLeDiff, Nat.reduceLT]) <;> exact fin2))⟩
end Go.Ab
