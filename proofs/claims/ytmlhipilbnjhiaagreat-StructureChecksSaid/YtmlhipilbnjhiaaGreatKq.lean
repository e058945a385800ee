/-
  Part 17 of the proof: how the calls of this program run, over values instead of memory, and what each function computes.
-/
import Derived.KernelRfl
import Derived.Test.YtmlhipilbnjhiaaGreatKp
set_option maxRecDepth 100000
set_option linter.unusedVariables false
set_option linter.unusedSimpArgs false
set_option linter.unnecessarySimpa false
set_option linter.unusedSectionVars false

namespace Go.Ab
open Go.RowKit Go.Proofs
theorem zp2 {op nn v w : Int} {l : List Ex} (h : op = 1) (hp : PredE (.fn (.func zY) []) l (fun x => !zfR x)) : zk Tryz.prog zaj [.agg [.int .i64 op, .int .u32 nn, .int .i64 v, .int .i64 w, encL 5 encX l]] (· = .bool (zdc l && zn op nn v w l.length)) := by
  refine fn_x zaZ rfl ?_
  unfold zaA
  have hB := hBig
  (repeat first | simp (disch := try exact dis1) only [evD, Nat.reduceBEq, Nat.reduceAdd, Nat.reduceLeDiff, dT, dF, fldP, zq, zj] | with_reducible intro _ | ((with_reducible apply And.intro); omega))
  by_cases q0 : v = 0 <;> (repeat first | simp (disch := try exact dis1) only [evD, Nat.reduceBEq, Nat.reduceAdd, Nat.reduceLeDiff, dT, dF, fldP, zq, zj] | with_reducible intro _ | ((with_reducible apply And.intro); omega))
  case neg =>
    exact ⟨_, .bool _ _, congrArg AV.bool (by rw [show zn op nn v w l.length = false from by unfold zn; exact dF (by omega), Bool.and_false])⟩
  by_cases q1 : w = 0 <;> (repeat first | simp (disch := try exact dis1) only [evD, Nat.reduceBEq, Nat.reduceAdd, Nat.reduceLeDiff, dT, dF, fldP, zq, zj] | with_reducible intro _ | ((with_reducible apply And.intro); omega))
  case neg =>
    exact ⟨_, .bool _ _, congrArg AV.bool (by rw [show zn op nn v w l.length = false from by unfold zn; exact dF (by omega), Bool.and_false])⟩
  by_cases q2 : l.length = 0 <;> (repeat first | simp (disch := try exact dis1) only [evD, Nat.reduceBEq, Nat.reduceAdd, Nat.reduceLeDiff, dT, dF, fldP, zq, zj] | with_reducible intro _ | ((with_reducible apply And.intro); omega))
  case neg =>
    exact ⟨_, .bool _ _, congrArg AV.bool (by rw [show zn op nn v w l.length = false from by unfold zn; exact dF (by omega), Bool.and_false])⟩
  refine ze (z6 (D := noR) (zJ l _ _ hp) (.cons (zay rfl) (.cons (zeg hp) .nil)) (.inl rfl)) ?_
  (repeat first | simp (disch := try exact dis1) only [evD, Nat.reduceBEq, Nat.reduceAdd, Nat.reduceLeDiff, dT, dF, fldP, zq, zj] | with_reducible intro _ | ((with_reducible apply And.intro); omega))
  exact ⟨_, .bool _ _, congrArg AV.bool (by rw [show zn op nn v w l.length = true from by unfold zn; exact dT (by omega), Bool.and_true, zcw, List.all_eq_not_any_not])⟩
theorem zpX {op nn v w : Int} {l : List Ex} (h : op = 2) (hp : PredE (.fn (.func zY) []) l (fun x => !zfR x)) : zk Tryz.prog zaj [.agg [.int .i64 op, .int .u32 nn, .int .i64 v, .int .i64 w, encL 5 encX l]] (· = .bool (zdc l && zn op nn v w l.length)) := by
  refine fn_x zaZ rfl ?_
  unfold zaA
  have hB := hBig
  (repeat first | simp (disch := try exact dis1) only [evD, Nat.reduceBEq, Nat.reduceAdd, Nat.reduceLeDiff, dT, dF, fldP, zq, zj] | with_reducible intro _ | ((with_reducible apply And.intro); omega))
  refine ze (zh (zgm v) rfl) ?_
  unfold zpf
  by_cases hv : 0 ≤ v ∧ v < 65536 <;> (repeat first | simp (disch := try exact dis1) only [evD, Nat.reduceBEq, Nat.reduceAdd, Nat.reduceLeDiff, dT, dF, fldP, zq, zj] | with_reducible intro _ | ((with_reducible apply And.intro); omega))
  case neg =>
    exact ⟨_, .bool _ _, congrArg AV.bool (by rw [show zn op nn v w l.length = false from by unfold zn; exact dF (by omega), Bool.and_false])⟩
  by_cases q0 : nn = 0 <;> (repeat first | simp (disch := try exact dis1) only [evD, Nat.reduceBEq, Nat.reduceAdd, Nat.reduceLeDiff, dT, dF, fldP, zq, zj] | with_reducible intro _ | ((with_reducible apply And.intro); omega))
  case neg =>
    exact ⟨_, .bool _ _, congrArg AV.bool (by rw [show zn op nn v w l.length = false from by unfold zn; exact dF (by omega), Bool.and_false])⟩
  by_cases q1 : w = 0 <;> (repeat first | simp (disch := try exact dis1) only [evD, Nat.reduceBEq, Nat.reduceAdd, Nat.reduceLeDiff, dT, dF, fldP, zq, zj] | with_reducible intro _ | ((with_reducible apply And.intro); omega))
  case neg =>
    exact ⟨_, .bool _ _, congrArg AV.bool (by rw [show zn op nn v w l.length = false from by unfold zn; exact dF (by omega), Bool.and_false])⟩
  by_cases q2 : l.length = 0 <;> (repeat first | simp (disch := try exact dis1) only [evD, Nat.reduceBEq, Nat.reduceAdd, Nat.reduceLeDiff, dT, dF, fldP, zq, zj] | with_reducible intro _ | ((with_reducible apply And.intro); omega))
  case neg =>
    exact ⟨_, .bool _ _, congrArg AV.bool (by rw [show zn op nn v w l.length = false from by unfold zn; exact dF (by omega), Bool.and_false])⟩
  refine ze (z6 (D := noR) (zJ l _ _ hp) (.cons (zay rfl) (.cons (zeg hp) .nil)) (.inl rfl)) ?_
  (repeat first | simp (disch := try exact dis1) only [evD, Nat.reduceBEq, Nat.reduceAdd, Nat.reduceLeDiff, dT, dF, fldP, zq, zj] | with_reducible intro _ | ((with_reducible apply And.intro); omega))
  exact ⟨_, .bool _ _, congrArg AV.bool (by rw [show zn op nn v w l.length = true from by unfold zn; exact dT (by omega), Bool.and_true, zcw, List.all_eq_not_any_not])⟩
theorem zpE {op nn v w : Int} {l : List Ex} (h : 3 ≤ op) (h2 : op ≤ 15) (hp : PredE (.fn (.func zY) []) l (fun x => !zfR x)) : zk Tryz.prog zaj [.agg [.int .i64 op, .int .u32 nn, .int .i64 v, .int .i64 w, encL 5 encX l]] (· = .bool (zdc l && zn op nn v w l.length)) := by
  refine fn_x zaZ rfl ?_
  unfold zaA
  have hB := hBig
  (repeat first | simp (disch := try exact dis1) only [evD, Nat.reduceBEq, Nat.reduceAdd, Nat.reduceLeDiff, dT, dF, fldP, zq, zj] | with_reducible intro _ | ((with_reducible apply And.intro); omega))
  by_cases q0 : nn = 0 <;> (repeat first | simp (disch := try exact dis1) only [evD, Nat.reduceBEq, Nat.reduceAdd, Nat.reduceLeDiff, dT, dF, fldP, zq, zj] | with_reducible intro _ | ((with_reducible apply And.intro); omega))
  case neg =>
    exact ⟨_, .bool _ _, congrArg AV.bool (by rw [show zn op nn v w l.length = false from by unfold zn; exact dF (by omega), Bool.and_false])⟩
  by_cases q1 : v = 0 <;> (repeat first | simp (disch := try exact dis1) only [evD, Nat.reduceBEq, Nat.reduceAdd, Nat.reduceLeDiff, dT, dF, fldP, zq, zj] | with_reducible intro _ | ((with_reducible apply And.intro); omega))
  case neg =>
    exact ⟨_, .bool _ _, congrArg AV.bool (by rw [show zn op nn v w l.length = false from by unfold zn; exact dF (by omega), Bool.and_false])⟩
  by_cases q2 : w = 0 <;> (repeat first | simp (disch := try exact dis1) only [evD, Nat.reduceBEq, Nat.reduceAdd, Nat.reduceLeDiff, dT, dF, fldP, zq, zj] | with_reducible intro _ | ((with_reducible apply And.intro); omega))
  case neg =>
    exact ⟨_, .bool _ _, congrArg AV.bool (by rw [show zn op nn v w l.length = false from by unfold zn; exact dF (by omega), Bool.and_false])⟩
  by_cases q3 : l.length = 2 <;> (repeat first | simp (disch := try exact dis1) only [evD, Nat.reduceBEq, Nat.reduceAdd, Nat.reduceLeDiff, dT, dF, fldP, zq, zj] | with_reducible intro _ | ((with_reducible apply And.intro); omega))
  case neg =>
    exact ⟨_, .bool _ _, congrArg AV.bool (by rw [show zn op nn v w l.length = false from by unfold zn; exact dF (by omega), Bool.and_false])⟩
  refine ze (z6 (D := noR) (zJ l _ _ hp) (.cons (zay rfl) (.cons (zeg hp) .nil)) (.inl rfl)) ?_
  (repeat first | simp (disch := try exact dis1) only [evD, Nat.reduceBEq, Nat.reduceAdd, Nat.reduceLeDiff, dT, dF, fldP, zq, zj] | with_reducible intro _ | ((with_reducible apply And.intro); omega))
  exact ⟨_, .bool _ _, congrArg AV.bool (by rw [show zn op nn v w l.length = true from by unfold zn; exact dT (by omega), Bool.and_true, zcw, List.all_eq_not_any_not])⟩
theorem zpa {op nn v w : Int} {l : List Ex} (h : op = 16) (hp : PredE (.fn (.func zY) []) l (fun x => !zfR x)) : zk Tryz.prog zaj [.agg [.int .i64 op, .int .u32 nn, .int .i64 v, .int .i64 w, encL 5 encX l]] (· = .bool (zdc l && zn op nn v w l.length)) := by
  refine fn_x zaZ rfl ?_
  unfold zaA
  have hB := hBig
  (repeat first | simp (disch := try exact dis1) only [evD, Nat.reduceBEq, Nat.reduceAdd, Nat.reduceLeDiff, dT, dF, fldP, zq, zj] | with_reducible intro _ | ((with_reducible apply And.intro); omega))
  by_cases q0 : nn = 0 <;> (repeat first | simp (disch := try exact dis1) only [evD, Nat.reduceBEq, Nat.reduceAdd, Nat.reduceLeDiff, dT, dF, fldP, zq, zj] | with_reducible intro _ | ((with_reducible apply And.intro); omega))
  case neg =>
    exact ⟨_, .bool _ _, congrArg AV.bool (by rw [show zn op nn v w l.length = false from by unfold zn; exact dF (by omega), Bool.and_false])⟩
  by_cases q1 : v = 0 <;> (repeat first | simp (disch := try exact dis1) only [evD, Nat.reduceBEq, Nat.reduceAdd, Nat.reduceLeDiff, dT, dF, fldP, zq, zj] | with_reducible intro _ | ((with_reducible apply And.intro); omega))
  case neg =>
    exact ⟨_, .bool _ _, congrArg AV.bool (by rw [show zn op nn v w l.length = false from by unfold zn; exact dF (by omega), Bool.and_false])⟩
  by_cases q2 : w = 0 <;> (repeat first | simp (disch := try exact dis1) only [evD, Nat.reduceBEq, Nat.reduceAdd, Nat.reduceLeDiff, dT, dF, fldP, zq, zj] | with_reducible intro _ | ((with_reducible apply And.intro); omega))
  case neg =>
    exact ⟨_, .bool _ _, congrArg AV.bool (by rw [show zn op nn v w l.length = false from by unfold zn; exact dF (by omega), Bool.and_false])⟩
  by_cases q3 : l.length = 1 <;> (repeat first | simp (disch := try exact dis1) only [evD, Nat.reduceBEq, Nat.reduceAdd, Nat.reduceLeDiff, dT, dF, fldP, zq, zj] | with_reducible intro _ | ((with_reducible apply And.intro); omega))
  case neg =>
    exact ⟨_, .bool _ _, congrArg AV.bool (by rw [show zn op nn v w l.length = false from by unfold zn; exact dF (by omega), Bool.and_false])⟩
  refine ze (z6 (D := noR) (zJ l _ _ hp) (.cons (zay rfl) (.cons (zeg hp) .nil)) (.inl rfl)) ?_
  (repeat first | simp (disch := try exact dis1) only [evD, Nat.reduceBEq, Nat.reduceAdd, Nat.reduceLeDiff, dT, dF, fldP, zq, zj] | with_reducible intro _ | ((with_reducible apply And.intro); omega))
  exact ⟨_, .bool _ _, congrArg AV.bool (by rw [show zn op nn v w l.length = true from by unfold zn; exact dT (by omega), Bool.and_true, zcw, List.all_eq_not_any_not])⟩
theorem zps {op nn v w : Int} {l : List Ex} (h : op = 17) (hp : PredE (.fn (.func zY) []) l (fun x => !zfR x)) : zk Tryz.prog zaj [.agg [.int .i64 op, .int .u32 nn, .int .i64 v, .int .i64 w, encL 5 encX l]] (· = .bool (zdc l && zn op nn v w l.length)) := by
  refine fn_x zaZ rfl ?_
  unfold zaA
  have hB := hBig
  (repeat first | simp (disch := try exact dis1) only [evD, Nat.reduceBEq, Nat.reduceAdd, Nat.reduceLeDiff, dT, dF, fldP, zq, zj] | with_reducible intro _ | ((with_reducible apply And.intro); omega))
  by_cases q0 : nn = 0 <;> (repeat first | simp (disch := try exact dis1) only [evD, Nat.reduceBEq, Nat.reduceAdd, Nat.reduceLeDiff, dT, dF, fldP, zq, zj] | with_reducible intro _ | ((with_reducible apply And.intro); omega))
  case neg =>
    exact ⟨_, .bool _ _, congrArg AV.bool (by rw [show zn op nn v w l.length = false from by unfold zn; exact dF (by omega), Bool.and_false])⟩
  by_cases q1 : v = 0 <;> (repeat first | simp (disch := try exact dis1) only [evD, Nat.reduceBEq, Nat.reduceAdd, Nat.reduceLeDiff, dT, dF, fldP, zq, zj] | with_reducible intro _ | ((with_reducible apply And.intro); omega))
  case neg =>
    exact ⟨_, .bool _ _, congrArg AV.bool (by rw [show zn op nn v w l.length = false from by unfold zn; exact dF (by omega), Bool.and_false])⟩
  by_cases q2 : w = 0 <;> (repeat first | simp (disch := try exact dis1) only [evD, Nat.reduceBEq, Nat.reduceAdd, Nat.reduceLeDiff, dT, dF, fldP, zq, zj] | with_reducible intro _ | ((with_reducible apply And.intro); omega))
  case neg =>
    exact ⟨_, .bool _ _, congrArg AV.bool (by rw [show zn op nn v w l.length = false from by unfold zn; exact dF (by omega), Bool.and_false])⟩
  by_cases q3 : l.length = 1 <;> (repeat first | simp (disch := try exact dis1) only [evD, Nat.reduceBEq, Nat.reduceAdd, Nat.reduceLeDiff, dT, dF, fldP, zq, zj] | with_reducible intro _ | ((with_reducible apply And.intro); omega))
  case neg =>
    exact ⟨_, .bool _ _, congrArg AV.bool (by rw [show zn op nn v w l.length = false from by unfold zn; exact dF (by omega), Bool.and_false])⟩
  refine ze (z6 (D := noR) (zJ l _ _ hp) (.cons (zay rfl) (.cons (zeg hp) .nil)) (.inl rfl)) ?_
  (repeat first | simp (disch := try exact dis1) only [evD, Nat.reduceBEq, Nat.reduceAdd, Nat.reduceLeDiff, dT, dF, fldP, zq, zj] | with_reducible intro _ | ((with_reducible apply And.intro); omega))
  exact ⟨_, .bool _ _, congrArg AV.bool (by rw [show zn op nn v w l.length = true from by unfold zn; exact dT (by omega), Bool.and_true, zcw, List.all_eq_not_any_not])⟩
theorem zoM {op nn v w : Int} {l : List Ex} (h : op = 18) (hp : PredE (.fn (.func zY) []) l (fun x => !zfR x)) : zk Tryz.prog zaj [.agg [.int .i64 op, .int .u32 nn, .int .i64 v, .int .i64 w, encL 5 encX l]] (· = .bool (zdc l && zn op nn v w l.length)) := by
  refine fn_x zaZ rfl ?_
  unfold zaA
  have hB := hBig
  (repeat first | simp (disch := try exact dis1) only [evD, Nat.reduceBEq, Nat.reduceAdd, Nat.reduceLeDiff, dT, dF, fldP, zq, zj] | with_reducible intro _ | ((with_reducible apply And.intro); omega))
  refine ze (zh (zlW w) rfl) ?_
  unfold zoQ
  by_cases hv : w = 1 ∨ w = 2 ∨ w = 4 <;> (repeat first | simp (disch := try exact dis1) only [evD, Nat.reduceBEq, Nat.reduceAdd, Nat.reduceLeDiff, dT, dF, fldP, zq, zj] | with_reducible intro _ | ((with_reducible apply And.intro); omega))
  case neg =>
    exact ⟨_, .bool _ _, congrArg AV.bool (by rw [show zn op nn v w l.length = false from by unfold zn; exact dF (by omega), Bool.and_false])⟩
  by_cases q0 : nn = 0 <;> (repeat first | simp (disch := try exact dis1) only [evD, Nat.reduceBEq, Nat.reduceAdd, Nat.reduceLeDiff, dT, dF, fldP, zq, zj] | with_reducible intro _ | ((with_reducible apply And.intro); omega))
  case neg =>
    exact ⟨_, .bool _ _, congrArg AV.bool (by rw [show zn op nn v w l.length = false from by unfold zn; exact dF (by omega), Bool.and_false])⟩
  by_cases q1 : v = 0 <;> (repeat first | simp (disch := try exact dis1) only [evD, Nat.reduceBEq, Nat.reduceAdd, Nat.reduceLeDiff, dT, dF, fldP, zq, zj] | with_reducible intro _ | ((with_reducible apply And.intro); omega))
  case neg =>
    exact ⟨_, .bool _ _, congrArg AV.bool (by rw [show zn op nn v w l.length = false from by unfold zn; exact dF (by omega), Bool.and_false])⟩
  by_cases q2 : l.length = 1 <;> (repeat first | simp (disch := try exact dis1) only [evD, Nat.reduceBEq, Nat.reduceAdd, Nat.reduceLeDiff, dT, dF, fldP, zq, zj] | with_reducible intro _ | ((with_reducible apply And.intro); omega))
  case neg =>
    exact ⟨_, .bool _ _, congrArg AV.bool (by rw [show zn op nn v w l.length = false from by unfold zn; exact dF (by omega), Bool.and_false])⟩
  refine ze (z6 (D := noR) (zJ l _ _ hp) (.cons (zay rfl) (.cons (zeg hp) .nil)) (.inl rfl)) ?_
  (repeat first | simp (disch := try exact dis1) only [evD, Nat.reduceBEq, Nat.reduceAdd, Nat.reduceLeDiff, dT, dF, fldP, zq, zj] | with_reducible intro _ | ((with_reducible apply And.intro); omega))
  exact ⟨_, .bool _ _, congrArg AV.bool (by rw [show zn op nn v w l.length = true from by unfold zn; exact dT (by omega), Bool.and_true, zcw, List.all_eq_not_any_not])⟩
theorem znQ {op nn v w : Int} {l : List Ex} (h : op = 19) (hw : w = 1) (hp : PredE (.fn (.func zY) []) l (fun x => !zfR x)) : zk Tryz.prog zaj [.agg [.int .i64 op, .int .u32 nn, .int .i64 v, .int .i64 w, encL 5 encX l]] (· = .bool (zdc l && zn op nn v w l.length)) := by
  refine fn_x zaZ rfl ?_
  unfold zaA
  have hB := hBig
  (repeat first | simp (disch := try exact dis1) only [evD, Nat.reduceBEq, Nat.reduceAdd, Nat.reduceLeDiff, dT, dF, fldP, zq, zj] | with_reducible intro _ | ((with_reducible apply And.intro); omega))
  by_cases q0 : nn = 0 <;> (repeat first | simp (disch := try exact dis1) only [evD, Nat.reduceBEq, Nat.reduceAdd, Nat.reduceLeDiff, dT, dF, fldP, zq, zj] | with_reducible intro _ | ((with_reducible apply And.intro); omega))
  case neg =>
    exact ⟨_, .bool _ _, congrArg AV.bool (by rw [show zn op nn v w l.length = false from by unfold zn; exact dF (by omega), Bool.and_false])⟩
  by_cases q1 : v = 0 <;> (repeat first | simp (disch := try exact dis1) only [evD, Nat.reduceBEq, Nat.reduceAdd, Nat.reduceLeDiff, dT, dF, fldP, zq, zj] | with_reducible intro _ | ((with_reducible apply And.intro); omega))
  case neg =>
    exact ⟨_, .bool _ _, congrArg AV.bool (by rw [show zn op nn v w l.length = false from by unfold zn; exact dF (by omega), Bool.and_false])⟩
  by_cases q2 : l.length = 1 <;> (repeat first | simp (disch := try exact dis1) only [evD, Nat.reduceBEq, Nat.reduceAdd, Nat.reduceLeDiff, dT, dF, fldP, zq, zj] | with_reducible intro _ | ((with_reducible apply And.intro); omega))
  case neg =>
    exact ⟨_, .bool _ _, congrArg AV.bool (by rw [show zn op nn v w l.length = false from by unfold zn; exact dF (by omega), Bool.and_false])⟩
  refine ze (z6 (D := noR) (zJ l _ _ hp) (.cons (zay rfl) (.cons (zeg hp) .nil)) (.inl rfl)) ?_
  (repeat first | simp (disch := try exact dis1) only [evD, Nat.reduceBEq, Nat.reduceAdd, Nat.reduceLeDiff, dT, dF, fldP, zq, zj] | with_reducible intro _ | ((with_reducible apply And.intro); omega))
  exact ⟨_, .bool _ _, congrArg AV.bool (by rw [show zn op nn v w l.length = true from by unfold zn; exact dT (by omega), Bool.and_true, zcw, List.all_eq_not_any_not])⟩
theorem znF {op nn v w : Int} {l : List Ex} (h : op = 19) (hw : w = 2) (hp : PredE (.fn (.func zY) []) l (fun x => !zfR x)) : zk Tryz.prog zaj [.agg [.int .i64 op, .int .u32 nn, .int .i64 v, .int .i64 w, encL 5 encX l]] (· = .bool (zdc l && zn op nn v w l.length)) := by
  refine fn_x zaZ rfl ?_
  unfold zaA
  have hB := hBig
  (repeat first | simp (disch := try exact dis1) only [evD, Nat.reduceBEq, Nat.reduceAdd, Nat.reduceLeDiff, dT, dF, fldP, zq, zj] | with_reducible intro _ | ((with_reducible apply And.intro); omega))
  by_cases q0 : nn = 0 <;> (repeat first | simp (disch := try exact dis1) only [evD, Nat.reduceBEq, Nat.reduceAdd, Nat.reduceLeDiff, dT, dF, fldP, zq, zj] | with_reducible intro _ | ((with_reducible apply And.intro); omega))
  case neg =>
    exact ⟨_, .bool _ _, congrArg AV.bool (by rw [show zn op nn v w l.length = false from by unfold zn; exact dF (by omega), Bool.and_false])⟩
  by_cases q1 : v = 0 <;> (repeat first | simp (disch := try exact dis1) only [evD, Nat.reduceBEq, Nat.reduceAdd, Nat.reduceLeDiff, dT, dF, fldP, zq, zj] | with_reducible intro _ | ((with_reducible apply And.intro); omega))
  case neg =>
    exact ⟨_, .bool _ _, congrArg AV.bool (by rw [show zn op nn v w l.length = false from by unfold zn; exact dF (by omega), Bool.and_false])⟩
  by_cases q2 : l.length = 1 <;> (repeat first | simp (disch := try exact dis1) only [evD, Nat.reduceBEq, Nat.reduceAdd, Nat.reduceLeDiff, dT, dF, fldP, zq, zj] | with_reducible intro _ | ((with_reducible apply And.intro); omega))
  case neg =>
    exact ⟨_, .bool _ _, congrArg AV.bool (by rw [show zn op nn v w l.length = false from by unfold zn; exact dF (by omega), Bool.and_false])⟩
  refine ze (z6 (D := noR) (zJ l _ _ hp) (.cons (zay rfl) (.cons (zeg hp) .nil)) (.inl rfl)) ?_
  (repeat first | simp (disch := try exact dis1) only [evD, Nat.reduceBEq, Nat.reduceAdd, Nat.reduceLeDiff, dT, dF, fldP, zq, zj] | with_reducible intro _ | ((with_reducible apply And.intro); omega))
  exact ⟨_, .bool _ _, congrArg AV.bool (by rw [show zn op nn v w l.length = true from by unfold zn; exact dT (by omega), Bool.and_true, zcw, List.all_eq_not_any_not])⟩
theorem znX {op nn v w : Int} {l : List Ex} (h : op = 19) (h1 : w ≠ 1) (h2 : w ≠ 2) (hp : PredE (.fn (.func zY) []) l (fun x => !zfR x)) : zk Tryz.prog zaj [.agg [.int .i64 op, .int .u32 nn, .int .i64 v, .int .i64 w, encL 5 encX l]] (· = .bool (zdc l && zn op nn v w l.length)) := by
  refine fn_x zaZ rfl ?_
  unfold zaA
  have hB := hBig
  (repeat first | simp (disch := try exact dis1) only [evD, Nat.reduceBEq, Nat.reduceAdd, Nat.reduceLeDiff, dT, dF, fldP, zq, zj] | with_reducible intro _ | ((with_reducible apply And.intro); omega))
  exact ⟨_, .bool _ _, congrArg AV.bool (by rw [show zn op nn v w l.length = false from by unfold zn; exact dF (by omega), Bool.and_false])⟩
theorem zrN {op nn v w : Int} {l : List Ex} (h0 : op < 1) (hp : PredE (.fn (.func zY) []) l (fun x => !zfR x)) : zk Tryz.prog zaj [.agg [.int .i64 op, .int .u32 nn, .int .i64 v, .int .i64 w, encL 5 encX l]] (· = .bool (zdc l && zn op nn v w l.length)) := by
  refine fn_x zaZ rfl ?_
  unfold zaA
  have hB := hBig
  (repeat first | simp (disch := try exact dis1) only [evD, Nat.reduceBEq, Nat.reduceAdd, Nat.reduceLeDiff, dT, dF, fldP, zq, zj] | with_reducible intro _ | ((with_reducible apply And.intro); omega))
  exact ⟨_, .bool _ _, congrArg AV.bool (by rw [show zn op nn v w l.length = false from by unfold zn; exact dF (by omega), Bool.and_false])⟩
theorem zrD {op nn v w : Int} {l : List Ex} (h0 : 19 < op) (hp : PredE (.fn (.func zY) []) l (fun x => !zfR x)) : zk Tryz.prog zaj [.agg [.int .i64 op, .int .u32 nn, .int .i64 v, .int .i64 w, encL 5 encX l]] (· = .bool (zdc l && zn op nn v w l.length)) := by
  refine fn_x zaZ rfl ?_
  unfold zaA
  have hB := hBig
  (repeat first | simp (disch := try exact dis1) only [evD, Nat.reduceBEq, Nat.reduceAdd, Nat.reduceLeDiff, dT, dF, fldP, zq, zj] | with_reducible intro _ | ((with_reducible apply And.intro); omega))
  exact ⟨_, .bool _ _, congrArg AV.bool (by rw [show zn op nn v w l.length = false from by unfold zn; exact dF (by omega), Bool.and_false])⟩
theorem zqA : ∀ (k : Nat) (e : Ex), zfV e ≤ k → zk Tryz.prog zaj [.agg (encX e)] (· = .bool (zfR e)) := by
  intro k
  induction k with
  | zero => intro e h; obtain ⟨_, _, _, _, l⟩ := e; rw [zfV] at h; omega
  | succ k ih =>
  intro e hk
  obtain ⟨op, nn, v, w, l⟩ := e
  rw [zfV] at hk
  rw [zgs, zfR]
  have hp : PredE (.fn (.func zY) []) l (fun x => !zfR x) := by
    refine ⟨_, _, rfl, by kernel_rfl, rfl, fun s hs => ?_⟩
    have hm := zgA hs
    refine fn_x znH rfl ?_
    unfold zjp
    have hB := hBig
    (repeat first | simp (disch := try exact dis1) only [evD, Nat.reduceBEq, Nat.reduceAdd, Nat.reduceLeDiff, za1, zq, zar, encP] | with_reducible intro _ | ((with_reducible apply And.intro); omega))
    refine ze (zh (ih s (by omega)) (flX rfl)) ?_
    (repeat first | simp (disch := try exact dis1) only [evD, Nat.reduceBEq, Nat.reduceAdd, Nat.reduceLeDiff, zjr] | with_reducible intro _ | ((with_reducible apply And.intro); omega))
    exact ⟨_, .bool _ _, rfl⟩
  by_cases h1 : op = 1
  · exact zp2 h1 hp
  by_cases h2 : op = 2
  · exact zpX h2 hp
  by_cases h3 : 3 ≤ op ∧ op ≤ 15
  · exact zpE h3.1 h3.2 hp
  by_cases h16 : op = 16
  · exact zpa h16 hp
  by_cases h17 : op = 17
  · exact zps h17 hp
  by_cases h18 : op = 18
  · exact zoM h18 hp
  by_cases h19 : op = 19
  · by_cases w1 : w = 1
    · exact znQ h19 w1 hp
    by_cases w2 : w = 2
    · exact znF h19 w2 hp
    exact znX h19 w1 w2 hp
  by_cases h0 : op < 1
  · exact zrN h0 hp
  exact zrD (by omega) hp
theorem zdA (e : Ex) : zk Tryz.prog zcR [.agg (encX e)] (· = .int .i64 (ze1 e)) := by
  refine fn_x zmU rfl ?_
  unfold ziR ze1
  have hB := hBig
  (repeat first | simp (disch := try exact dis1) only [evD, Nat.reduceBEq, Nat.reduceAdd, Nat.reduceLeDiff, za1, zq, zar] | with_reducible intro _ | ((with_reducible apply And.intro); omega))
  refine ze (zh (zpk (zfV e) e 64 (Nat.le_refl _) (by omega) (by omega)) (flX rfl)) ?_
  cases zmF e 64 with
  | true =>
    (repeat first | simp (disch := try exact dis1) only [evD, Nat.reduceBEq, Nat.reduceAdd, Nat.reduceLeDiff, zdn] | with_reducible intro _ | ((with_reducible apply And.intro); omega))
    exact ⟨_, .int _ _ _, rfl⟩
  | false =>
    (repeat first | simp (disch := try exact dis1) only [evD, Nat.reduceBEq, Nat.reduceAdd, Nat.reduceLeDiff, za1, zq, zar] | with_reducible intro _ | ((with_reducible apply And.intro); omega))
    refine ze (zh (zqA (zfV e) e (Nat.le_refl _)) (flX rfl)) ?_
    cases zfR e with
    | true =>
      (repeat first | simp (disch := try exact dis1) only [evD, Nat.reduceBEq, Nat.reduceAdd, Nat.reduceLeDiff, zdn] | with_reducible intro _ | ((with_reducible apply And.intro); omega))
      exact ⟨_, .int _ _ _, rfl⟩
    | false =>
      (repeat first | simp (disch := try exact dis1) only [evD, Nat.reduceBEq, Nat.reduceAdd, Nat.reduceLeDiff, zdn] | with_reducible intro _ | ((with_reducible apply And.intro); omega))
      exact ⟨_, .int _ _ _, rfl⟩
def zR (op : Int) : Int := if op = 2 then 2 else if op = 1 ∨ op = 4 ∨ op = 7 ∨ op = 8 then 1 else if op = 3 ∨ op = 5 ∨ op = 6 ∨ op = 9 ∨ op = 10 then 0 else -1
def zz (op var width next els tgt : Int) (k : Nat) : Bool := decide (((op = 1 ∨ op = 3) ∨ var = 0) ∧ (op = 2 ∨ width = 0) ∧ ((op = 6 ∨ op = 7) ∨ next = 0) ∧ (op = 7 ∨ els = 0) ∧ (op = 5 ∨ tgt = 0) ∧ (op = 8 ∨ k = 0))
def zt (op var width next els tgt : Int) (k : Nat) : Bool := decide ((((op = 1 ∨ op = 3) ∨ var = 0) ∧ (op = 2 ∨ width = 0) ∧ ((op = 6 ∨ op = 7) ∨ next = 0) ∧ (op = 7 ∨ els = 0) ∧ (op = 5 ∨ tgt = 0) ∧ (op = 8 ∨ k = 0)) ∧ (0 ≤ var ∧ var < 65536) ∧ (op = 2 → width = 1 ∨ width = 2 ∨ width = 4) ∧ (op = 8 → 1 ≤ k ∧ k ≤ 64))
theorem zli (op : Int) : zk Tryz.prog zc2 [.int .i64 op] (· = .int .i64 (zR op)) := by
  refine fn_x zlb rfl ?_
  unfold zgT
  by_cases h1 : op = 1
  · have hr : zR op = 1 := by unfold zR; subst h1; rfl
    rw [hr]
    (repeat first | simp (disch := try exact dis1) only [evD, Nat.reduceBEq, Nat.reduceAdd, Nat.reduceLeDiff, dT, dF, zN] | with_reducible intro _ | ((with_reducible apply And.intro); omega))
    exact ⟨_, .int _ _ _, rfl⟩
  by_cases h4 : op = 4
  · have hr : zR op = 1 := by unfold zR; subst h4; rfl
    rw [hr]
    (repeat first | simp (disch := try exact dis1) only [evD, Nat.reduceBEq, Nat.reduceAdd, Nat.reduceLeDiff, dT, dF, zN] | with_reducible intro _ | ((with_reducible apply And.intro); omega))
    exact ⟨_, .int _ _ _, rfl⟩
  by_cases h7 : op = 7
  · have hr : zR op = 1 := by unfold zR; subst h7; rfl
    rw [hr]
    (repeat first | simp (disch := try exact dis1) only [evD, Nat.reduceBEq, Nat.reduceAdd, Nat.reduceLeDiff, dT, dF, zN] | with_reducible intro _ | ((with_reducible apply And.intro); omega))
    exact ⟨_, .int _ _ _, rfl⟩
  by_cases h8 : op = 8
  · have hr : zR op = 1 := by unfold zR; subst h8; rfl
    rw [hr]
    (repeat first | simp (disch := try exact dis1) only [evD, Nat.reduceBEq, Nat.reduceAdd, Nat.reduceLeDiff, dT, dF, zN] | with_reducible intro _ | ((with_reducible apply And.intro); omega))
    exact ⟨_, .int _ _ _, rfl⟩
  by_cases h2 : op = 2
  · have hr : zR op = 2 := by unfold zR; subst h2; rfl
    rw [hr]
    (repeat first | simp (disch := try exact dis1) only [evD, Nat.reduceBEq, Nat.reduceAdd, Nat.reduceLeDiff, dT, dF, zN] | with_reducible intro _ | ((with_reducible apply And.intro); omega))
    exact ⟨_, .int _ _ _, rfl⟩
  by_cases h3 : op = 3
  · have hr : zR op = 0 := by unfold zR; subst h3; rfl
    rw [hr]
    (repeat first | simp (disch := try exact dis1) only [evD, Nat.reduceBEq, Nat.reduceAdd, Nat.reduceLeDiff, dT, dF, zN] | with_reducible intro _ | ((with_reducible apply And.intro); omega))
    exact ⟨_, .int _ _ _, rfl⟩
  by_cases h5 : op = 5
  · have hr : zR op = 0 := by unfold zR; subst h5; rfl
    rw [hr]
    (repeat first | simp (disch := try exact dis1) only [evD, Nat.reduceBEq, Nat.reduceAdd, Nat.reduceLeDiff, dT, dF, zN] | with_reducible intro _ | ((with_reducible apply And.intro); omega))
    exact ⟨_, .int _ _ _, rfl⟩
  by_cases h6 : op = 6
  · have hr : zR op = 0 := by unfold zR; subst h6; rfl
    rw [hr]
    (repeat first | simp (disch := try exact dis1) only [evD, Nat.reduceBEq, Nat.reduceAdd, Nat.reduceLeDiff, dT, dF, zN] | with_reducible intro _ | ((with_reducible apply And.intro); omega))
    exact ⟨_, .int _ _ _, rfl⟩
  by_cases h9 : op = 9
  · have hr : zR op = 0 := by unfold zR; subst h9; rfl
    rw [hr]
    (repeat first | simp (disch := try exact dis1) only [evD, Nat.reduceBEq, Nat.reduceAdd, Nat.reduceLeDiff, dT, dF, zN] | with_reducible intro _ | ((with_reducible apply And.intro); omega))
    exact ⟨_, .int _ _ _, rfl⟩
  by_cases h10 : op = 10
  · have hr : zR op = 0 := by unfold zR; subst h10; rfl
    rw [hr]
    (repeat first | simp (disch := try exact dis1) only [evD, Nat.reduceBEq, Nat.reduceAdd, Nat.reduceLeDiff, dT, dF, zN] | with_reducible intro _ | ((with_reducible apply And.intro); omega))
    exact ⟨_, .int _ _ _, rfl⟩
  have hr : zR op = -1 := by unfold zR; rw [if_neg (by omega), if_neg (by omega), if_neg (by omega)]
  rw [hr]
  (repeat first | simp (disch := try exact dis1) only [evD, Nat.reduceBEq, Nat.reduceAdd, Nat.reduceLeDiff, dT, dF, zN] | with_reducible intro _ | ((with_reducible apply And.intro); omega))
  exact ⟨_, .int _ _ _, rfl⟩
theorem zpU (op : Int) (h1 : 1 ≤ op) (h2 : op ≤ 10) : zk Tryz.prog zg3 [.int .i64 op] (· = .int .i64 (zR op)) := by
  refine fn_x zqt rfl ?_
  unfold zlA
  by_cases h2 : op = 2
  · have hr : zR op = 2 := by unfold zR; subst h2; rfl
    rw [hr]
    (repeat first | simp (disch := try exact dis1) only [evD, Nat.reduceBEq, Nat.reduceAdd, Nat.reduceLeDiff, dT, dF, zcm] | with_reducible intro _ | ((with_reducible apply And.intro); omega))
    exact ⟨_, .int _ _ _, rfl⟩
  by_cases h1 : op = 1
  · have hr : zR op = 1 := by unfold zR; subst h1; rfl
    rw [hr]
    (repeat first | simp (disch := try exact dis1) only [evD, Nat.reduceBEq, Nat.reduceAdd, Nat.reduceLeDiff, dT, dF, zcm] | with_reducible intro _ | ((with_reducible apply And.intro); omega))
    exact ⟨_, .int _ _ _, rfl⟩
  by_cases h4 : op = 4
  · have hr : zR op = 1 := by unfold zR; subst h4; rfl
    rw [hr]
    (repeat first | simp (disch := try exact dis1) only [evD, Nat.reduceBEq, Nat.reduceAdd, Nat.reduceLeDiff, dT, dF, zcm] | with_reducible intro _ | ((with_reducible apply And.intro); omega))
    exact ⟨_, .int _ _ _, rfl⟩
  by_cases h7 : op = 7
  · have hr : zR op = 1 := by unfold zR; subst h7; rfl
    rw [hr]
    (repeat first | simp (disch := try exact dis1) only [evD, Nat.reduceBEq, Nat.reduceAdd, Nat.reduceLeDiff, dT, dF, zcm] | with_reducible intro _ | ((with_reducible apply And.intro); omega))
    exact ⟨_, .int _ _ _, rfl⟩
  by_cases h8 : op = 8
  · have hr : zR op = 1 := by unfold zR; subst h8; rfl
    rw [hr]
    (repeat first | simp (disch := try exact dis1) only [evD, Nat.reduceBEq, Nat.reduceAdd, Nat.reduceLeDiff, dT, dF, zcm] | with_reducible intro _ | ((with_reducible apply And.intro); omega))
    exact ⟨_, .int _ _ _, rfl⟩
  have hr : zR op = 0 := by unfold zR; rw [if_neg (by omega), if_neg (by omega), if_pos (by omega)]
  rw [hr]
  (repeat first | simp (disch := try exact dis1) only [evD, Nat.reduceBEq, Nat.reduceAdd, Nat.reduceLeDiff, dT, dF, zcm] | with_reducible intro _ | ((with_reducible apply And.intro); omega))
  exact ⟨_, .int _ _ _, rfl⟩
theorem zqw (op var width next els tgt : Int) (e : List Ex) (cs : List Int) (h : op = 1) : zk Tryz.prog zal [.agg [.int .i64 op, .int .i64 var, .int .i64 width, .int .i64 next, .int .i64 els, .int .u32 tgt, encL 5 encX e, za cs]] (· = .bool (zz op var width next els tgt cs.length)) := by
  refine fn_x zaT rfl ?_
  unfold zaz
  have hB := hBig
  (repeat first | simp (disch := try exact dis1) only [evD, Nat.reduceBEq, Nat.reduceAdd, Nat.reduceLeDiff, dT, dF, fldP, za, zg] | with_reducible intro _ | ((with_reducible apply And.intro); omega))
  by_cases q0 : width = 0 <;> (repeat first | simp (disch := try exact dis1) only [evD, Nat.reduceBEq, Nat.reduceAdd, Nat.reduceLeDiff, dT, dF, fldP, za, zg] | with_reducible intro _ | ((with_reducible apply And.intro); omega))
  case neg =>
    exact ⟨_, .bool _ _, congrArg AV.bool (by unfold zz; exact lb)⟩
  by_cases q1 : next = 0 <;> (repeat first | simp (disch := try exact dis1) only [evD, Nat.reduceBEq, Nat.reduceAdd, Nat.reduceLeDiff, dT, dF, fldP, za, zg] | with_reducible intro _ | ((with_reducible apply And.intro); omega))
  case neg =>
    exact ⟨_, .bool _ _, congrArg AV.bool (by unfold zz; exact lb)⟩
  by_cases q2 : els = 0 <;> (repeat first | simp (disch := try exact dis1) only [evD, Nat.reduceBEq, Nat.reduceAdd, Nat.reduceLeDiff, dT, dF, fldP, za, zg] | with_reducible intro _ | ((with_reducible apply And.intro); omega))
  case neg =>
    exact ⟨_, .bool _ _, congrArg AV.bool (by unfold zz; exact lb)⟩
  by_cases q3 : tgt = 0 <;> (repeat first | simp (disch := try exact dis1) only [evD, Nat.reduceBEq, Nat.reduceAdd, Nat.reduceLeDiff, dT, dF, fldP, za, zg] | with_reducible intro _ | ((with_reducible apply And.intro); omega))
  case neg =>
    exact ⟨_, .bool _ _, congrArg AV.bool (by unfold zz; exact lb)⟩
  exact ⟨_, .bool _ _, congrArg AV.bool (by unfold zz; exact lb)⟩
theorem zqU (op var width next els tgt : Int) (e : List Ex) (cs : List Int) (h : op = 2) : zk Tryz.prog zal [.agg [.int .i64 op, .int .i64 var, .int .i64 width, .int .i64 next, .int .i64 els, .int .u32 tgt, encL 5 encX e, za cs]] (· = .bool (zz op var width next els tgt cs.length)) := by
  refine fn_x zaT rfl ?_
  unfold zaz
  have hB := hBig
  (repeat first | simp (disch := try exact dis1) only [evD, Nat.reduceBEq, Nat.reduceAdd, Nat.reduceLeDiff, dT, dF, fldP, za, zg] | with_reducible intro _ | ((with_reducible apply And.intro); omega))
  by_cases q0 : var = 0 <;> (repeat first | simp (disch := try exact dis1) only [evD, Nat.reduceBEq, Nat.reduceAdd, Nat.reduceLeDiff, dT, dF, fldP, za, zg] | with_reducible intro _ | ((with_reducible apply And.intro); omega))
  case neg =>
    exact ⟨_, .bool _ _, congrArg AV.bool (by unfold zz; exact lb)⟩
  by_cases q1 : next = 0 <;> (repeat first | simp (disch := try exact dis1) only [evD, Nat.reduceBEq, Nat.reduceAdd, Nat.reduceLeDiff, dT, dF, fldP, za, zg] | with_reducible intro _ | ((with_reducible apply And.intro); omega))
  case neg =>
    exact ⟨_, .bool _ _, congrArg AV.bool (by unfold zz; exact lb)⟩
  by_cases q2 : els = 0 <;> (repeat first | simp (disch := try exact dis1) only [evD, Nat.reduceBEq, Nat.reduceAdd, Nat.reduceLeDiff, dT, dF, fldP, za, zg] | with_reducible intro _ | ((with_reducible apply And.intro); omega))
  case neg =>
    exact ⟨_, .bool _ _, congrArg AV.bool (by unfold zz; exact lb)⟩
  by_cases q3 : tgt = 0 <;> (repeat first | simp (disch := try exact dis1) only [evD, Nat.reduceBEq, Nat.reduceAdd, Nat.reduceLeDiff, dT, dF, fldP, za, zg] | with_reducible intro _ | ((with_reducible apply And.intro); omega))
  case neg =>
    exact ⟨_, .bool _ _, congrArg AV.bool (by unfold zz; exact lb)⟩
  exact ⟨_, .bool _ _, congrArg AV.bool (by unfold zz; exact lb)⟩
theorem zqS (op var width next els tgt : Int) (e : List Ex) (cs : List Int) (h : op = 3) : zk Tryz.prog zal [.agg [.int .i64 op, .int .i64 var, .int .i64 width, .int .i64 next, .int .i64 els, .int .u32 tgt, encL 5 encX e, za cs]] (· = .bool (zz op var width next els tgt cs.length)) := by
  refine fn_x zaT rfl ?_
  unfold zaz
  have hB := hBig
  (repeat first | simp (disch := try exact dis1) only [evD, Nat.reduceBEq, Nat.reduceAdd, Nat.reduceLeDiff, dT, dF, fldP, za, zg] | with_reducible intro _ | ((with_reducible apply And.intro); omega))
  by_cases q0 : width = 0 <;> (repeat first | simp (disch := try exact dis1) only [evD, Nat.reduceBEq, Nat.reduceAdd, Nat.reduceLeDiff, dT, dF, fldP, za, zg] | with_reducible intro _ | ((with_reducible apply And.intro); omega))
  case neg =>
    exact ⟨_, .bool _ _, congrArg AV.bool (by unfold zz; exact lb)⟩
  by_cases q1 : next = 0 <;> (repeat first | simp (disch := try exact dis1) only [evD, Nat.reduceBEq, Nat.reduceAdd, Nat.reduceLeDiff, dT, dF, fldP, za, zg] | with_reducible intro _ | ((with_reducible apply And.intro); omega))
  case neg =>
    exact ⟨_, .bool _ _, congrArg AV.bool (by unfold zz; exact lb)⟩
  by_cases q2 : els = 0 <;> (repeat first | simp (disch := try exact dis1) only [evD, Nat.reduceBEq, Nat.reduceAdd, Nat.reduceLeDiff, dT, dF, fldP, za, zg] | with_reducible intro _ | ((with_reducible apply And.intro); omega))
  case neg =>
    exact ⟨_, .bool _ _, congrArg AV.bool (by unfold zz; exact lb)⟩
  by_cases q3 : tgt = 0 <;> (repeat first | simp (disch := try exact dis1) only [evD, Nat.reduceBEq, Nat.reduceAdd, Nat.reduceLeDiff, dT, dF, fldP, za, zg] | with_reducible intro _ | ((with_reducible apply And.intro); omega))
  case neg =>
    exact ⟨_, .bool _ _, congrArg AV.bool (by unfold zz; exact lb)⟩
  exact ⟨_, .bool _ _, congrArg AV.bool (by unfold zz; exact lb)⟩
theorem zpG (op var width next els tgt : Int) (e : List Ex) (cs : List Int) (h : op = 4) : zk Tryz.prog zal [.agg [.int .i64 op, .int .i64 var, .int .i64 width, .int .i64 next, .int .i64 els, .int .u32 tgt, encL 5 encX e, za cs]] (· = .bool (zz op var width next els tgt cs.length)) := by
  refine fn_x zaT rfl ?_
  unfold zaz
  have hB := hBig
  (repeat first | simp (disch := try exact dis1) only [evD, Nat.reduceBEq, Nat.reduceAdd, Nat.reduceLeDiff, dT, dF, fldP, za, zg] | with_reducible intro _ | ((with_reducible apply And.intro); omega))
  by_cases q0 : var = 0 <;> (repeat first | simp (disch := try exact dis1) only [evD, Nat.reduceBEq, Nat.reduceAdd, Nat.reduceLeDiff, dT, dF, fldP, za, zg] | with_reducible intro _ | ((with_reducible apply And.intro); omega))
  case neg =>
    exact ⟨_, .bool _ _, congrArg AV.bool (by unfold zz; exact lb)⟩
  by_cases q1 : width = 0 <;> (repeat first | simp (disch := try exact dis1) only [evD, Nat.reduceBEq, Nat.reduceAdd, Nat.reduceLeDiff, dT, dF, fldP, za, zg] | with_reducible intro _ | ((with_reducible apply And.intro); omega))
  case neg =>
    exact ⟨_, .bool _ _, congrArg AV.bool (by unfold zz; exact lb)⟩
  by_cases q2 : next = 0 <;> (repeat first | simp (disch := try exact dis1) only [evD, Nat.reduceBEq, Nat.reduceAdd, Nat.reduceLeDiff, dT, dF, fldP, za, zg] | with_reducible intro _ | ((with_reducible apply And.intro); omega))
  case neg =>
    exact ⟨_, .bool _ _, congrArg AV.bool (by unfold zz; exact lb)⟩
  by_cases q3 : els = 0 <;> (repeat first | simp (disch := try exact dis1) only [evD, Nat.reduceBEq, Nat.reduceAdd, Nat.reduceLeDiff, dT, dF, fldP, za, zg] | with_reducible intro _ | ((with_reducible apply And.intro); omega))
  case neg =>
    exact ⟨_, .bool _ _, congrArg AV.bool (by unfold zz; exact lb)⟩
  by_cases q4 : tgt = 0 <;> (repeat first | simp (disch := try exact dis1) only [evD, Nat.reduceBEq, Nat.reduceAdd, Nat.reduceLeDiff, dT, dF, fldP, za, zg] | with_reducible intro _ | ((with_reducible apply And.intro); omega))
  case neg =>
    exact ⟨_, .bool _ _, congrArg AV.bool (by unfold zz; exact lb)⟩
  exact ⟨_, .bool _ _, congrArg AV.bool (by unfold zz; exact lb)⟩
theorem zp0 (op var width next els tgt : Int) (e : List Ex) (cs : List Int) (h : op = 5) : zk Tryz.prog zal [.agg [.int .i64 op, .int .i64 var, .int .i64 width, .int .i64 next, .int .i64 els, .int .u32 tgt, encL 5 encX e, za cs]] (· = .bool (zz op var width next els tgt cs.length)) := by
  refine fn_x zaT rfl ?_
  unfold zaz
  have hB := hBig
  (repeat first | simp (disch := try exact dis1) only [evD, Nat.reduceBEq, Nat.reduceAdd, Nat.reduceLeDiff, dT, dF, fldP, za, zg] | with_reducible intro _ | ((with_reducible apply And.intro); omega))
  by_cases q0 : var = 0 <;> (repeat first | simp (disch := try exact dis1) only [evD, Nat.reduceBEq, Nat.reduceAdd, Nat.reduceLeDiff, dT, dF, fldP, za, zg] | with_reducible intro _ | ((with_reducible apply And.intro); omega))
  case neg =>
    exact ⟨_, .bool _ _, congrArg AV.bool (by unfold zz; exact lb)⟩
  by_cases q1 : width = 0 <;> (repeat first | simp (disch := try exact dis1) only [evD, Nat.reduceBEq, Nat.reduceAdd, Nat.reduceLeDiff, dT, dF, fldP, za, zg] | with_reducible intro _ | ((with_reducible apply And.intro); omega))
  case neg =>
    exact ⟨_, .bool _ _, congrArg AV.bool (by unfold zz; exact lb)⟩
  by_cases q2 : next = 0 <;> (repeat first | simp (disch := try exact dis1) only [evD, Nat.reduceBEq, Nat.reduceAdd, Nat.reduceLeDiff, dT, dF, fldP, za, zg] | with_reducible intro _ | ((with_reducible apply And.intro); omega))
  case neg =>
    exact ⟨_, .bool _ _, congrArg AV.bool (by unfold zz; exact lb)⟩
  by_cases q3 : els = 0 <;> (repeat first | simp (disch := try exact dis1) only [evD, Nat.reduceBEq, Nat.reduceAdd, Nat.reduceLeDiff, dT, dF, fldP, za, zg] | with_reducible intro _ | ((with_reducible apply And.intro); omega))
  case neg =>
    exact ⟨_, .bool _ _, congrArg AV.bool (by unfold zz; exact lb)⟩
  exact ⟨_, .bool _ _, congrArg AV.bool (by unfold zz; exact lb)⟩
theorem zp1 (op var width next els tgt : Int) (e : List Ex) (cs : List Int) (h : op = 6) : zk Tryz.prog zal [.agg [.int .i64 op, .int .i64 var, .int .i64 width, .int .i64 next, .int .i64 els, .int .u32 tgt, encL 5 encX e, za cs]] (· = .bool (zz op var width next els tgt cs.length)) := by
  refine fn_x zaT rfl ?_
  unfold zaz
  have hB := hBig
  (repeat first | simp (disch := try exact dis1) only [evD, Nat.reduceBEq, Nat.reduceAdd, Nat.reduceLeDiff, dT, dF, fldP, za, zg] | with_reducible intro _ | ((with_reducible apply And.intro); omega))
  by_cases q0 : var = 0 <;> (repeat first | simp (disch := try exact dis1) only [evD, Nat.reduceBEq, Nat.reduceAdd, Nat.reduceLeDiff, dT, dF, fldP, za, zg] | with_reducible intro _ | ((with_reducible apply And.intro); omega))
  case neg =>
    exact ⟨_, .bool _ _, congrArg AV.bool (by unfold zz; exact lb)⟩
  by_cases q1 : width = 0 <;> (repeat first | simp (disch := try exact dis1) only [evD, Nat.reduceBEq, Nat.reduceAdd, Nat.reduceLeDiff, dT, dF, fldP, za, zg] | with_reducible intro _ | ((with_reducible apply And.intro); omega))
  case neg =>
    exact ⟨_, .bool _ _, congrArg AV.bool (by unfold zz; exact lb)⟩
  by_cases q2 : els = 0 <;> (repeat first | simp (disch := try exact dis1) only [evD, Nat.reduceBEq, Nat.reduceAdd, Nat.reduceLeDiff, dT, dF, fldP, za, zg] | with_reducible intro _ | ((with_reducible apply And.intro); omega))
  case neg =>
    exact ⟨_, .bool _ _, congrArg AV.bool (by unfold zz; exact lb)⟩
  by_cases q3 : tgt = 0 <;> (repeat first | simp (disch := try exact dis1) only [evD, Nat.reduceBEq, Nat.reduceAdd, Nat.reduceLeDiff, dT, dF, fldP, za, zg] | with_reducible intro _ | ((with_reducible apply And.intro); omega))
  case neg =>
    exact ⟨_, .bool _ _, congrArg AV.bool (by unfold zz; exact lb)⟩
  exact ⟨_, .bool _ _, congrArg AV.bool (by unfold zz; exact lb)⟩
theorem zqC (op var width next els tgt : Int) (e : List Ex) (cs : List Int) (h : op = 7) : zk Tryz.prog zal [.agg [.int .i64 op, .int .i64 var, .int .i64 width, .int .i64 next, .int .i64 els, .int .u32 tgt, encL 5 encX e, za cs]] (· = .bool (zz op var width next els tgt cs.length)) := by
  refine fn_x zaT rfl ?_
  unfold zaz
  have hB := hBig
  (repeat first | simp (disch := try exact dis1) only [evD, Nat.reduceBEq, Nat.reduceAdd, Nat.reduceLeDiff, dT, dF, fldP, za, zg] | with_reducible intro _ | ((with_reducible apply And.intro); omega))
  by_cases q0 : var = 0 <;> (repeat first | simp (disch := try exact dis1) only [evD, Nat.reduceBEq, Nat.reduceAdd, Nat.reduceLeDiff, dT, dF, fldP, za, zg] | with_reducible intro _ | ((with_reducible apply And.intro); omega))
  case neg =>
    exact ⟨_, .bool _ _, congrArg AV.bool (by unfold zz; exact lb)⟩
  by_cases q1 : width = 0 <;> (repeat first | simp (disch := try exact dis1) only [evD, Nat.reduceBEq, Nat.reduceAdd, Nat.reduceLeDiff, dT, dF, fldP, za, zg] | with_reducible intro _ | ((with_reducible apply And.intro); omega))
  case neg =>
    exact ⟨_, .bool _ _, congrArg AV.bool (by unfold zz; exact lb)⟩
  by_cases q2 : tgt = 0 <;> (repeat first | simp (disch := try exact dis1) only [evD, Nat.reduceBEq, Nat.reduceAdd, Nat.reduceLeDiff, dT, dF, fldP, za, zg] | with_reducible intro _ | ((with_reducible apply And.intro); omega))
  case neg =>
    exact ⟨_, .bool _ _, congrArg AV.bool (by unfold zz; exact lb)⟩
  exact ⟨_, .bool _ _, congrArg AV.bool (by unfold zz; exact lb)⟩
theorem zqn (op var width next els tgt : Int) (e : List Ex) (cs : List Int) (h : op = 8) : zk Tryz.prog zal [.agg [.int .i64 op, .int .i64 var, .int .i64 width, .int .i64 next, .int .i64 els, .int .u32 tgt, encL 5 encX e, za cs]] (· = .bool (zz op var width next els tgt cs.length)) := by
  refine fn_x zaT rfl ?_
  unfold zaz
  have hB := hBig
  (repeat first | simp (disch := try exact dis1) only [evD, Nat.reduceBEq, Nat.reduceAdd, Nat.reduceLeDiff, dT, dF, fldP, za, zg] | with_reducible intro _ | ((with_reducible apply And.intro); omega))
  by_cases q0 : var = 0 <;> (repeat first | simp (disch := try exact dis1) only [evD, Nat.reduceBEq, Nat.reduceAdd, Nat.reduceLeDiff, dT, dF, fldP, za, zg] | with_reducible intro _ | ((with_reducible apply And.intro); omega))
  case neg =>
    exact ⟨_, .bool _ _, congrArg AV.bool (by unfold zz; exact lb)⟩
  by_cases q1 : width = 0 <;> (repeat first | simp (disch := try exact dis1) only [evD, Nat.reduceBEq, Nat.reduceAdd, Nat.reduceLeDiff, dT, dF, fldP, za, zg] | with_reducible intro _ | ((with_reducible apply And.intro); omega))
  case neg =>
    exact ⟨_, .bool _ _, congrArg AV.bool (by unfold zz; exact lb)⟩
  by_cases q2 : next = 0 <;> (repeat first | simp (disch := try exact dis1) only [evD, Nat.reduceBEq, Nat.reduceAdd, Nat.reduceLeDiff, dT, dF, fldP, za, zg] | with_reducible intro _ | ((with_reducible apply And.intro); omega))
  case neg =>
    exact ⟨_, .bool _ _, congrArg AV.bool (by unfold zz; exact lb)⟩
  by_cases q3 : els = 0 <;> (repeat first | simp (disch := try exact dis1) only [evD, Nat.reduceBEq, Nat.reduceAdd, Nat.reduceLeDiff, dT, dF, fldP, za, zg] | with_reducible intro _ | ((with_reducible apply And.intro); omega))
  case neg =>
    exact ⟨_, .bool _ _, congrArg AV.bool (by unfold zz; exact lb)⟩
  by_cases q4 : tgt = 0 <;> (repeat first | simp (disch := try exact dis1) only [evD, Nat.reduceBEq, Nat.reduceAdd, Nat.reduceLeDiff, dT, dF, fldP, za, zg] | with_reducible intro _ | ((with_reducible apply And.intro); omega))
  case neg =>
    exact ⟨_, .bool _ _, congrArg AV.bool (by unfold zz; exact lb)⟩
  exact ⟨_, .bool _ _, congrArg AV.bool (by unfold zz; exact lb)⟩
theorem zpB (op var width next els tgt : Int) (e : List Ex) (cs : List Int) (h : op = 9) : zk Tryz.prog zal [.agg [.int .i64 op, .int .i64 var, .int .i64 width, .int .i64 next, .int .i64 els, .int .u32 tgt, encL 5 encX e, za cs]] (· = .bool (zz op var width next els tgt cs.length)) := by
  refine fn_x zaT rfl ?_
  unfold zaz
  have hB := hBig
  (repeat first | simp (disch := try exact dis1) only [evD, Nat.reduceBEq, Nat.reduceAdd, Nat.reduceLeDiff, dT, dF, fldP, za, zg] | with_reducible intro _ | ((with_reducible apply And.intro); omega))
  by_cases q0 : var = 0 <;> (repeat first | simp (disch := try exact dis1) only [evD, Nat.reduceBEq, Nat.reduceAdd, Nat.reduceLeDiff, dT, dF, fldP, za, zg] | with_reducible intro _ | ((with_reducible apply And.intro); omega))
  case neg =>
    exact ⟨_, .bool _ _, congrArg AV.bool (by unfold zz; exact lb)⟩
  by_cases q1 : width = 0 <;> (repeat first | simp (disch := try exact dis1) only [evD, Nat.reduceBEq, Nat.reduceAdd, Nat.reduceLeDiff, dT, dF, fldP, za, zg] | with_reducible intro _ | ((with_reducible apply And.intro); omega))
  case neg =>
    exact ⟨_, .bool _ _, congrArg AV.bool (by unfold zz; exact lb)⟩
  by_cases q2 : next = 0 <;> (repeat first | simp (disch := try exact dis1) only [evD, Nat.reduceBEq, Nat.reduceAdd, Nat.reduceLeDiff, dT, dF, fldP, za, zg] | with_reducible intro _ | ((with_reducible apply And.intro); omega))
  case neg =>
    exact ⟨_, .bool _ _, congrArg AV.bool (by unfold zz; exact lb)⟩
  by_cases q3 : els = 0 <;> (repeat first | simp (disch := try exact dis1) only [evD, Nat.reduceBEq, Nat.reduceAdd, Nat.reduceLeDiff, dT, dF, fldP, za, zg] | with_reducible intro _ | ((with_reducible apply And.intro); omega))
  case neg =>
    exact ⟨_, .bool _ _, congrArg AV.bool (by unfold zz; exact lb)⟩
  by_cases q4 : tgt = 0 <;> (repeat first | simp (disch := try exact dis1) only [evD, Nat.reduceBEq, Nat.reduceAdd, Nat.reduceLeDiff, dT, dF, fldP, za, zg] | with_reducible intro _ | ((with_reducible apply And.intro); omega))
  case neg =>
    exact ⟨_, .bool _ _, congrArg AV.bool (by unfold zz; exact lb)⟩
  exact ⟨_, .bool _ _, congrArg AV.bool (by unfold zz; exact lb)⟩
theorem zpd (op var width next els tgt : Int) (e : List Ex) (cs : List Int) (h : op = 10) : zk Tryz.prog zal [.agg [.int .i64 op, .int .i64 var, .int .i64 width, .int .i64 next, .int .i64 els, .int .u32 tgt, encL 5 encX e, za cs]] (· = .bool (zz op var width next els tgt cs.length)) := by
  refine fn_x zaT rfl ?_
  unfold zaz
  have hB := hBig
  (repeat first | simp (disch := try exact dis1) only [evD, Nat.reduceBEq, Nat.reduceAdd, Nat.reduceLeDiff, dT, dF, fldP, za, zg] | with_reducible intro _ | ((with_reducible apply And.intro); omega))
  by_cases q0 : var = 0 <;> (repeat first | simp (disch := try exact dis1) only [evD, Nat.reduceBEq, Nat.reduceAdd, Nat.reduceLeDiff, dT, dF, fldP, za, zg] | with_reducible intro _ | ((with_reducible apply And.intro); omega))
  case neg =>
    exact ⟨_, .bool _ _, congrArg AV.bool (by unfold zz; exact lb)⟩
  by_cases q1 : width = 0 <;> (repeat first | simp (disch := try exact dis1) only [evD, Nat.reduceBEq, Nat.reduceAdd, Nat.reduceLeDiff, dT, dF, fldP, za, zg] | with_reducible intro _ | ((with_reducible apply And.intro); omega))
  case neg =>
    exact ⟨_, .bool _ _, congrArg AV.bool (by unfold zz; exact lb)⟩
  by_cases q2 : next = 0 <;> (repeat first | simp (disch := try exact dis1) only [evD, Nat.reduceBEq, Nat.reduceAdd, Nat.reduceLeDiff, dT, dF, fldP, za, zg] | with_reducible intro _ | ((with_reducible apply And.intro); omega))
  case neg =>
    exact ⟨_, .bool _ _, congrArg AV.bool (by unfold zz; exact lb)⟩
  by_cases q3 : els = 0 <;> (repeat first | simp (disch := try exact dis1) only [evD, Nat.reduceBEq, Nat.reduceAdd, Nat.reduceLeDiff, dT, dF, fldP, za, zg] | with_reducible intro _ | ((with_reducible apply And.intro); omega))
  case neg =>
    exact ⟨_, .bool _ _, congrArg AV.bool (by unfold zz; exact lb)⟩
  by_cases q4 : tgt = 0 <;> (repeat first | simp (disch := try exact dis1) only [evD, Nat.reduceBEq, Nat.reduceAdd, Nat.reduceLeDiff, dT, dF, fldP, za, zg] | with_reducible intro _ | ((with_reducible apply And.intro); omega))
  case neg =>
    exact ⟨_, .bool _ _, congrArg AV.bool (by unfold zz; exact lb)⟩
  exact ⟨_, .bool _ _, congrArg AV.bool (by unfold zz; exact lb)⟩
theorem zpq (op var width next els tgt : Int) (e : List Ex) (cs : List Int) (h1 : 1 ≤ op) (h2 : op ≤ 10) : zk Tryz.prog zal [.agg [.int .i64 op, .int .i64 var, .int .i64 width, .int .i64 next, .int .i64 els, .int .u32 tgt, encL 5 encX e, za cs]] (· = .bool (zz op var width next els tgt cs.length)) := by
  by_cases h10 : op = 1
  · exact zqw op var width next els tgt e cs h10
  by_cases h20 : op = 2
  · exact zqU op var width next els tgt e cs h20
  by_cases h30 : op = 3
  · exact zqS op var width next els tgt e cs h30
  by_cases h40 : op = 4
  · exact zpG op var width next els tgt e cs h40
  by_cases h50 : op = 5
  · exact zp0 op var width next els tgt e cs h50
  by_cases h60 : op = 6
  · exact zp1 op var width next els tgt e cs h60
  by_cases h70 : op = 7
  · exact zqC op var width next els tgt e cs h70
  by_cases h80 : op = 8
  · exact zqn op var width next els tgt e cs h80
  by_cases h90 : op = 9
  · exact zpB op var width next els tgt e cs h90
  by_cases h100 : op = 10
  · exact zpd op var width next els tgt e cs h100
  omega
theorem zsx (op var width next els tgt : Int) (e : List Ex) (cs : List Int) (h : op = 1) : zk Tryz.prog zav [.agg [.int .i64 op, .int .i64 var, .int .i64 width, .int .i64 next, .int .i64 els, .int .u32 tgt, encL 5 encX e, za cs]] (· = .bool (zt op var width next els tgt cs.length)) := by
  refine fn_x zbb rfl ?_
  unfold zaX
  have hB := hBig
  (repeat first | simp (disch := try exact dis1) only [evD, Nat.reduceBEq, Nat.reduceAdd, Nat.reduceLeDiff, dT, dF, fldP, za, zd] | with_reducible intro _ | ((with_reducible apply And.intro); omega))
  refine ze (zh (zgm var) rfl) ?_
  unfold zpf
  by_cases hv : 0 ≤ var ∧ var < 65536 <;> (repeat first | simp (disch := try exact dis1) only [evD, Nat.reduceBEq, Nat.reduceAdd, Nat.reduceLeDiff, dT, dF, fldP, za, zd] | with_reducible intro _ | ((with_reducible apply And.intro); omega))
  case neg =>
    exact ⟨_, .bool _ _, congrArg AV.bool (by unfold zt; exact lb)⟩
  by_cases q0 : width = 0 <;> (repeat first | simp (disch := try exact dis1) only [evD, Nat.reduceBEq, Nat.reduceAdd, Nat.reduceLeDiff, dT, dF, fldP, za, zd] | with_reducible intro _ | ((with_reducible apply And.intro); omega))
  case neg =>
    exact ⟨_, .bool _ _, congrArg AV.bool (by unfold zt; exact lb)⟩
  by_cases q1 : tgt = 0 <;> (repeat first | simp (disch := try exact dis1) only [evD, Nat.reduceBEq, Nat.reduceAdd, Nat.reduceLeDiff, dT, dF, fldP, za, zd] | with_reducible intro _ | ((with_reducible apply And.intro); omega))
  case neg =>
    exact ⟨_, .bool _ _, congrArg AV.bool (by unfold zt; exact lb)⟩
  by_cases q2 : next = 0 <;> (repeat first | simp (disch := try exact dis1) only [evD, Nat.reduceBEq, Nat.reduceAdd, Nat.reduceLeDiff, dT, dF, fldP, za, zd] | with_reducible intro _ | ((with_reducible apply And.intro); omega))
  case neg =>
    exact ⟨_, .bool _ _, congrArg AV.bool (by unfold zt; exact lb)⟩
  by_cases q3 : els = 0 <;> (repeat first | simp (disch := try exact dis1) only [evD, Nat.reduceBEq, Nat.reduceAdd, Nat.reduceLeDiff, dT, dF, fldP, za, zd] | with_reducible intro _ | ((with_reducible apply And.intro); omega))
  case neg =>
    exact ⟨_, .bool _ _, congrArg AV.bool (by unfold zt; exact lb)⟩
  exact ⟨_, .bool _ _, congrArg AV.bool (by unfold zt; exact lb)⟩
theorem zrU (op var width next els tgt : Int) (e : List Ex) (cs : List Int) (h : op = 2) : zk Tryz.prog zav [.agg [.int .i64 op, .int .i64 var, .int .i64 width, .int .i64 next, .int .i64 els, .int .u32 tgt, encL 5 encX e, za cs]] (· = .bool (zt op var width next els tgt cs.length)) := by
  refine fn_x zbb rfl ?_
  unfold zaX
  have hB := hBig
  (repeat first | simp (disch := try exact dis1) only [evD, Nat.reduceBEq, Nat.reduceAdd, Nat.reduceLeDiff, dT, dF, fldP, za, zd] | with_reducible intro _ | ((with_reducible apply And.intro); omega))
  refine ze (zh (zlW width) rfl) ?_
  unfold zoQ
  by_cases hv : width = 1 ∨ width = 2 ∨ width = 4 <;> (repeat first | simp (disch := try exact dis1) only [evD, Nat.reduceBEq, Nat.reduceAdd, Nat.reduceLeDiff, dT, dF, fldP, za, zd] | with_reducible intro _ | ((with_reducible apply And.intro); omega))
  case neg =>
    exact ⟨_, .bool _ _, congrArg AV.bool (by unfold zt; exact lb)⟩
  by_cases q0 : var = 0 <;> (repeat first | simp (disch := try exact dis1) only [evD, Nat.reduceBEq, Nat.reduceAdd, Nat.reduceLeDiff, dT, dF, fldP, za, zd] | with_reducible intro _ | ((with_reducible apply And.intro); omega))
  case neg =>
    exact ⟨_, .bool _ _, congrArg AV.bool (by unfold zt; exact lb)⟩
  by_cases q1 : tgt = 0 <;> (repeat first | simp (disch := try exact dis1) only [evD, Nat.reduceBEq, Nat.reduceAdd, Nat.reduceLeDiff, dT, dF, fldP, za, zd] | with_reducible intro _ | ((with_reducible apply And.intro); omega))
  case neg =>
    exact ⟨_, .bool _ _, congrArg AV.bool (by unfold zt; exact lb)⟩
  by_cases q2 : next = 0 <;> (repeat first | simp (disch := try exact dis1) only [evD, Nat.reduceBEq, Nat.reduceAdd, Nat.reduceLeDiff, dT, dF, fldP, za, zd] | with_reducible intro _ | ((with_reducible apply And.intro); omega))
  case neg =>
    exact ⟨_, .bool _ _, congrArg AV.bool (by unfold zt; exact lb)⟩
  by_cases q3 : els = 0 <;> (repeat first | simp (disch := try exact dis1) only [evD, Nat.reduceBEq, Nat.reduceAdd, Nat.reduceLeDiff, dT, dF, fldP, za, zd] | with_reducible intro _ | ((with_reducible apply And.intro); omega))
  case neg =>
    exact ⟨_, .bool _ _, congrArg AV.bool (by unfold zt; exact lb)⟩
  exact ⟨_, .bool _ _, congrArg AV.bool (by unfold zt; exact lb)⟩
theorem zsy (op var width next els tgt : Int) (e : List Ex) (cs : List Int) (h : op = 3) : zk Tryz.prog zav [.agg [.int .i64 op, .int .i64 var, .int .i64 width, .int .i64 next, .int .i64 els, .int .u32 tgt, encL 5 encX e, za cs]] (· = .bool (zt op var width next els tgt cs.length)) := by
  refine fn_x zbb rfl ?_
  unfold zaX
  have hB := hBig
  (repeat first | simp (disch := try exact dis1) only [evD, Nat.reduceBEq, Nat.reduceAdd, Nat.reduceLeDiff, dT, dF, fldP, za, zd] | with_reducible intro _ | ((with_reducible apply And.intro); omega))
  refine ze (zh (zgm var) rfl) ?_
  unfold zpf
  by_cases hv : 0 ≤ var ∧ var < 65536 <;> (repeat first | simp (disch := try exact dis1) only [evD, Nat.reduceBEq, Nat.reduceAdd, Nat.reduceLeDiff, dT, dF, fldP, za, zd] | with_reducible intro _ | ((with_reducible apply And.intro); omega))
  case neg =>
    exact ⟨_, .bool _ _, congrArg AV.bool (by unfold zt; exact lb)⟩
  by_cases q0 : width = 0 <;> (repeat first | simp (disch := try exact dis1) only [evD, Nat.reduceBEq, Nat.reduceAdd, Nat.reduceLeDiff, dT, dF, fldP, za, zd] | with_reducible intro _ | ((with_reducible apply And.intro); omega))
  case neg =>
    exact ⟨_, .bool _ _, congrArg AV.bool (by unfold zt; exact lb)⟩
  by_cases q1 : tgt = 0 <;> (repeat first | simp (disch := try exact dis1) only [evD, Nat.reduceBEq, Nat.reduceAdd, Nat.reduceLeDiff, dT, dF, fldP, za, zd] | with_reducible intro _ | ((with_reducible apply And.intro); omega))
  case neg =>
    exact ⟨_, .bool _ _, congrArg AV.bool (by unfold zt; exact lb)⟩
  by_cases q2 : next = 0 <;> (repeat first | simp (disch := try exact dis1) only [evD, Nat.reduceBEq, Nat.reduceAdd, Nat.reduceLeDiff, dT, dF, fldP, za, zd] | with_reducible intro _ | ((with_reducible apply And.intro); omega))
  case neg =>
    exact ⟨_, .bool _ _, congrArg AV.bool (by unfold zt; exact lb)⟩
  by_cases q3 : els = 0 <;> (repeat first | simp (disch := try exact dis1) only [evD, Nat.reduceBEq, Nat.reduceAdd, Nat.reduceLeDiff, dT, dF, fldP, za, zd] | with_reducible intro _ | ((with_reducible apply And.intro); omega))
  case neg =>
    exact ⟨_, .bool _ _, congrArg AV.bool (by unfold zt; exact lb)⟩
  exact ⟨_, .bool _ _, congrArg AV.bool (by unfold zt; exact lb)⟩
theorem zrO (op var width next els tgt : Int) (e : List Ex) (cs : List Int) (h : op = 4) : zk Tryz.prog zav [.agg [.int .i64 op, .int .i64 var, .int .i64 width, .int .i64 next, .int .i64 els, .int .u32 tgt, encL 5 encX e, za cs]] (· = .bool (zt op var width next els tgt cs.length)) := by
  refine fn_x zbb rfl ?_
  unfold zaX
  have hB := hBig
  (repeat first | simp (disch := try exact dis1) only [evD, Nat.reduceBEq, Nat.reduceAdd, Nat.reduceLeDiff, dT, dF, fldP, za, zd] | with_reducible intro _ | ((with_reducible apply And.intro); omega))
  by_cases q0 : var = 0 <;> (repeat first | simp (disch := try exact dis1) only [evD, Nat.reduceBEq, Nat.reduceAdd, Nat.reduceLeDiff, dT, dF, fldP, za, zd] | with_reducible intro _ | ((with_reducible apply And.intro); omega))
  case neg =>
    exact ⟨_, .bool _ _, congrArg AV.bool (by unfold zt; exact lb)⟩
  by_cases q1 : width = 0 <;> (repeat first | simp (disch := try exact dis1) only [evD, Nat.reduceBEq, Nat.reduceAdd, Nat.reduceLeDiff, dT, dF, fldP, za, zd] | with_reducible intro _ | ((with_reducible apply And.intro); omega))
  case neg =>
    exact ⟨_, .bool _ _, congrArg AV.bool (by unfold zt; exact lb)⟩
  by_cases q2 : tgt = 0 <;> (repeat first | simp (disch := try exact dis1) only [evD, Nat.reduceBEq, Nat.reduceAdd, Nat.reduceLeDiff, dT, dF, fldP, za, zd] | with_reducible intro _ | ((with_reducible apply And.intro); omega))
  case neg =>
    exact ⟨_, .bool _ _, congrArg AV.bool (by unfold zt; exact lb)⟩
  by_cases q3 : next = 0 <;> (repeat first | simp (disch := try exact dis1) only [evD, Nat.reduceBEq, Nat.reduceAdd, Nat.reduceLeDiff, dT, dF, fldP, za, zd] | with_reducible intro _ | ((with_reducible apply And.intro); omega))
  case neg =>
    exact ⟨_, .bool _ _, congrArg AV.bool (by unfold zt; exact lb)⟩
  by_cases q4 : els = 0 <;> (repeat first | simp (disch := try exact dis1) only [evD, Nat.reduceBEq, Nat.reduceAdd, Nat.reduceLeDiff, dT, dF, fldP, za, zd] | with_reducible intro _ | ((with_reducible apply And.intro); omega))
  case neg =>
    exact ⟨_, .bool _ _, congrArg AV.bool (by unfold zt; exact lb)⟩
  exact ⟨_, .bool _ _, congrArg AV.bool (by unfold zt; exact lb)⟩
theorem zrB (op var width next els tgt : Int) (e : List Ex) (cs : List Int) (h : op = 5) : zk Tryz.prog zav [.agg [.int .i64 op, .int .i64 var, .int .i64 width, .int .i64 next, .int .i64 els, .int .u32 tgt, encL 5 encX e, za cs]] (· = .bool (zt op var width next els tgt cs.length)) := by
  refine fn_x zbb rfl ?_
  unfold zaX
  have hB := hBig
  (repeat first | simp (disch := try exact dis1) only [evD, Nat.reduceBEq, Nat.reduceAdd, Nat.reduceLeDiff, dT, dF, fldP, za, zd] | with_reducible intro _ | ((with_reducible apply And.intro); omega))
  by_cases q0 : var = 0 <;> (repeat first | simp (disch := try exact dis1) only [evD, Nat.reduceBEq, Nat.reduceAdd, Nat.reduceLeDiff, dT, dF, fldP, za, zd] | with_reducible intro _ | ((with_reducible apply And.intro); omega))
  case neg =>
    exact ⟨_, .bool _ _, congrArg AV.bool (by unfold zt; exact lb)⟩
  by_cases q1 : width = 0 <;> (repeat first | simp (disch := try exact dis1) only [evD, Nat.reduceBEq, Nat.reduceAdd, Nat.reduceLeDiff, dT, dF, fldP, za, zd] | with_reducible intro _ | ((with_reducible apply And.intro); omega))
  case neg =>
    exact ⟨_, .bool _ _, congrArg AV.bool (by unfold zt; exact lb)⟩
  by_cases q2 : next = 0 <;> (repeat first | simp (disch := try exact dis1) only [evD, Nat.reduceBEq, Nat.reduceAdd, Nat.reduceLeDiff, dT, dF, fldP, za, zd] | with_reducible intro _ | ((with_reducible apply And.intro); omega))
  case neg =>
    exact ⟨_, .bool _ _, congrArg AV.bool (by unfold zt; exact lb)⟩
  by_cases q3 : els = 0 <;> (repeat first | simp (disch := try exact dis1) only [evD, Nat.reduceBEq, Nat.reduceAdd, Nat.reduceLeDiff, dT, dF, fldP, za, zd] | with_reducible intro _ | ((with_reducible apply And.intro); omega))
  case neg =>
    exact ⟨_, .bool _ _, congrArg AV.bool (by unfold zt; exact lb)⟩
  exact ⟨_, .bool _ _, congrArg AV.bool (by unfold zt; exact lb)⟩
theorem zrx (op var width next els tgt : Int) (e : List Ex) (cs : List Int) (h : op = 6) : zk Tryz.prog zav [.agg [.int .i64 op, .int .i64 var, .int .i64 width, .int .i64 next, .int .i64 els, .int .u32 tgt, encL 5 encX e, za cs]] (· = .bool (zt op var width next els tgt cs.length)) := by
  refine fn_x zbb rfl ?_
  unfold zaX
  have hB := hBig
  (repeat first | simp (disch := try exact dis1) only [evD, Nat.reduceBEq, Nat.reduceAdd, Nat.reduceLeDiff, dT, dF, fldP, za, zd] | with_reducible intro _ | ((with_reducible apply And.intro); omega))
  by_cases q0 : var = 0 <;> (repeat first | simp (disch := try exact dis1) only [evD, Nat.reduceBEq, Nat.reduceAdd, Nat.reduceLeDiff, dT, dF, fldP, za, zd] | with_reducible intro _ | ((with_reducible apply And.intro); omega))
  case neg =>
    exact ⟨_, .bool _ _, congrArg AV.bool (by unfold zt; exact lb)⟩
  by_cases q1 : width = 0 <;> (repeat first | simp (disch := try exact dis1) only [evD, Nat.reduceBEq, Nat.reduceAdd, Nat.reduceLeDiff, dT, dF, fldP, za, zd] | with_reducible intro _ | ((with_reducible apply And.intro); omega))
  case neg =>
    exact ⟨_, .bool _ _, congrArg AV.bool (by unfold zt; exact lb)⟩
  by_cases q2 : tgt = 0 <;> (repeat first | simp (disch := try exact dis1) only [evD, Nat.reduceBEq, Nat.reduceAdd, Nat.reduceLeDiff, dT, dF, fldP, za, zd] | with_reducible intro _ | ((with_reducible apply And.intro); omega))
  case neg =>
    exact ⟨_, .bool _ _, congrArg AV.bool (by unfold zt; exact lb)⟩
  by_cases q3 : els = 0 <;> (repeat first | simp (disch := try exact dis1) only [evD, Nat.reduceBEq, Nat.reduceAdd, Nat.reduceLeDiff, dT, dF, fldP, za, zd] | with_reducible intro _ | ((with_reducible apply And.intro); omega))
  case neg =>
    exact ⟨_, .bool _ _, congrArg AV.bool (by unfold zt; exact lb)⟩
  exact ⟨_, .bool _ _, congrArg AV.bool (by unfold zt; exact lb)⟩
theorem zrt (op var width next els tgt : Int) (e : List Ex) (cs : List Int) (h : op = 7) : zk Tryz.prog zav [.agg [.int .i64 op, .int .i64 var, .int .i64 width, .int .i64 next, .int .i64 els, .int .u32 tgt, encL 5 encX e, za cs]] (· = .bool (zt op var width next els tgt cs.length)) := by
  refine fn_x zbb rfl ?_
  unfold zaX
  have hB := hBig
  by_cases q0 : var = 0
  case neg =>
    ((repeat first | simp (disch := try exact dis1) only [evD, Nat.reduceBEq, Nat.reduceAdd, Nat.reduceLeDiff, dT, dF, fldP, za, zd] | with_reducible intro _ | ((with_reducible apply And.intro); omega)); (repeat' with_reducible apply And.intro) <;> (repeat first | simp (disch := try exact dis1) only [evD, Nat.reduceBEq, Nat.reduceAdd, Nat.reduceLeDiff, dT, dF, fldP, za, zd] | with_reducible intro _ | ((with_reducible apply And.intro); omega)); all_goals (exact ⟨_, .bool _ _, congrArg AV.bool (by unfold zt; exact lb)⟩))
  by_cases q1 : width = 0
  case neg =>
    ((repeat first | simp (disch := try exact dis1) only [evD, Nat.reduceBEq, Nat.reduceAdd, Nat.reduceLeDiff, dT, dF, fldP, za, zd] | with_reducible intro _ | ((with_reducible apply And.intro); omega)); (repeat' with_reducible apply And.intro) <;> (repeat first | simp (disch := try exact dis1) only [evD, Nat.reduceBEq, Nat.reduceAdd, Nat.reduceLeDiff, dT, dF, fldP, za, zd] | with_reducible intro _ | ((with_reducible apply And.intro); omega)); all_goals (exact ⟨_, .bool _ _, congrArg AV.bool (by unfold zt; exact lb)⟩))
  by_cases q2 : tgt = 0
  case neg =>
    ((repeat first | simp (disch := try exact dis1) only [evD, Nat.reduceBEq, Nat.reduceAdd, Nat.reduceLeDiff, dT, dF, fldP, za, zd] | with_reducible intro _ | ((with_reducible apply And.intro); omega)); (repeat' with_reducible apply And.intro) <;> (repeat first | simp (disch := try exact dis1) only [evD, Nat.reduceBEq, Nat.reduceAdd, Nat.reduceLeDiff, dT, dF, fldP, za, zd] | with_reducible intro _ | ((with_reducible apply And.intro); omega)); all_goals (exact ⟨_, .bool _ _, congrArg AV.bool (by unfold zt; exact lb)⟩))
  by_cases q3 : cs.length = 0
  case neg =>
    ((repeat first | simp (disch := try exact dis1) only [evD, Nat.reduceBEq, Nat.reduceAdd, Nat.reduceLeDiff, dT, dF, fldP, za, zd] | with_reducible intro _ | ((with_reducible apply And.intro); omega)); (repeat' with_reducible apply And.intro) <;> (repeat first | simp (disch := try exact dis1) only [evD, Nat.reduceBEq, Nat.reduceAdd, Nat.reduceLeDiff, dT, dF, fldP, za, zd] | with_reducible intro _ | ((with_reducible apply And.intro); omega)); all_goals (exact ⟨_, .bool _ _, congrArg AV.bool (by unfold zt; exact lb)⟩))
  ((repeat first | simp (disch := try exact dis1) only [evD, Nat.reduceBEq, Nat.reduceAdd, Nat.reduceLeDiff, dT, dF, fldP, za, zd] | with_reducible intro _ | ((with_reducible apply And.intro); omega)); (repeat' with_reducible apply And.intro) <;> (repeat first | simp (disch := try exact dis1) only [evD, Nat.reduceBEq, Nat.reduceAdd, Nat.reduceLeDiff, dT, dF, fldP, za, zd] | with_reducible intro _ | ((with_reducible apply And.intro); omega)); all_goals (exact ⟨_, .bool _ _, congrArg AV.bool (by unfold zt; exact lb)⟩))
theorem zrC (op var width next els tgt : Int) (e : List Ex) (cs : List Int) (h : op = 8) : zk Tryz.prog zav [.agg [.int .i64 op, .int .i64 var, .int .i64 width, .int .i64 next, .int .i64 els, .int .u32 tgt, encL 5 encX e, za cs]] (· = .bool (zt op var width next els tgt cs.length)) := by
  refine fn_x zbb rfl ?_
  unfold zaX
  have hB := hBig
  (repeat first | simp (disch := try exact dis1) only [evD, Nat.reduceBEq, Nat.reduceAdd, Nat.reduceLeDiff, dT, dF, fldP, za, zd] | with_reducible intro _ | ((with_reducible apply And.intro); omega))
  by_cases g1 : 1 ≤ cs.length <;> (repeat first | simp (disch := try exact dis1) only [evD, Nat.reduceBEq, Nat.reduceAdd, Nat.reduceLeDiff, dT, dF, fldP, za, zd] | with_reducible intro _ | ((with_reducible apply And.intro); omega))
  case neg =>
    exact ⟨_, .bool _ _, congrArg AV.bool (by unfold zt; exact lb)⟩
  by_cases g2 : cs.length ≤ 64 <;> (repeat first | simp (disch := try exact dis1) only [evD, Nat.reduceBEq, Nat.reduceAdd, Nat.reduceLeDiff, dT, dF, fldP, za, zd] | with_reducible intro _ | ((with_reducible apply And.intro); omega))
  case neg =>
    exact ⟨_, .bool _ _, congrArg AV.bool (by unfold zt; exact lb)⟩
  by_cases q0 : var = 0 <;> (repeat first | simp (disch := try exact dis1) only [evD, Nat.reduceBEq, Nat.reduceAdd, Nat.reduceLeDiff, dT, dF, fldP, za, zd] | with_reducible intro _ | ((with_reducible apply And.intro); omega))
  case neg =>
    exact ⟨_, .bool _ _, congrArg AV.bool (by unfold zt; exact lb)⟩
  by_cases q1 : width = 0 <;> (repeat first | simp (disch := try exact dis1) only [evD, Nat.reduceBEq, Nat.reduceAdd, Nat.reduceLeDiff, dT, dF, fldP, za, zd] | with_reducible intro _ | ((with_reducible apply And.intro); omega))
  case neg =>
    exact ⟨_, .bool _ _, congrArg AV.bool (by unfold zt; exact lb)⟩
  by_cases q2 : tgt = 0 <;> (repeat first | simp (disch := try exact dis1) only [evD, Nat.reduceBEq, Nat.reduceAdd, Nat.reduceLeDiff, dT, dF, fldP, za, zd] | with_reducible intro _ | ((with_reducible apply And.intro); omega))
  case neg =>
    exact ⟨_, .bool _ _, congrArg AV.bool (by unfold zt; exact lb)⟩
  by_cases q3 : next = 0 <;> (repeat first | simp (disch := try exact dis1) only [evD, Nat.reduceBEq, Nat.reduceAdd, Nat.reduceLeDiff, dT, dF, fldP, za, zd] | with_reducible intro _ | ((with_reducible apply And.intro); omega))
  case neg =>
    exact ⟨_, .bool _ _, congrArg AV.bool (by unfold zt; exact lb)⟩
  by_cases q4 : els = 0 <;> (repeat first | simp (disch := try exact dis1) only [evD, Nat.reduceBEq, Nat.reduceAdd, Nat.reduceLeDiff, dT, dF, fldP, za, zd] | with_reducible intro _ | ((with_reducible apply And.intro); omega))
  case neg =>
    exact ⟨_, .bool _ _, congrArg AV.bool (by unfold zt; exact lb)⟩
  exact ⟨_, .bool _ _, congrArg AV.bool (by unfold zt; exact lb)⟩
theorem zrz (op var width next els tgt : Int) (e : List Ex) (cs : List Int) (h : op = 9) : zk Tryz.prog zav [.agg [.int .i64 op, .int .i64 var, .int .i64 width, .int .i64 next, .int .i64 els, .int .u32 tgt, encL 5 encX e, za cs]] (· = .bool (zt op var width next els tgt cs.length)) := by
  refine fn_x zbb rfl ?_
  unfold zaX
  have hB := hBig
  (repeat first | simp (disch := try exact dis1) only [evD, Nat.reduceBEq, Nat.reduceAdd, Nat.reduceLeDiff, dT, dF, fldP, za, zd] | with_reducible intro _ | ((with_reducible apply And.intro); omega))
  by_cases q0 : var = 0 <;> (repeat first | simp (disch := try exact dis1) only [evD, Nat.reduceBEq, Nat.reduceAdd, Nat.reduceLeDiff, dT, dF, fldP, za, zd] | with_reducible intro _ | ((with_reducible apply And.intro); omega))
  case neg =>
    exact ⟨_, .bool _ _, congrArg AV.bool (by unfold zt; exact lb)⟩
  by_cases q1 : width = 0 <;> (repeat first | simp (disch := try exact dis1) only [evD, Nat.reduceBEq, Nat.reduceAdd, Nat.reduceLeDiff, dT, dF, fldP, za, zd] | with_reducible intro _ | ((with_reducible apply And.intro); omega))
  case neg =>
    exact ⟨_, .bool _ _, congrArg AV.bool (by unfold zt; exact lb)⟩
  by_cases q2 : tgt = 0 <;> (repeat first | simp (disch := try exact dis1) only [evD, Nat.reduceBEq, Nat.reduceAdd, Nat.reduceLeDiff, dT, dF, fldP, za, zd] | with_reducible intro _ | ((with_reducible apply And.intro); omega))
  case neg =>
    exact ⟨_, .bool _ _, congrArg AV.bool (by unfold zt; exact lb)⟩
  by_cases q3 : next = 0 <;> (repeat first | simp (disch := try exact dis1) only [evD, Nat.reduceBEq, Nat.reduceAdd, Nat.reduceLeDiff, dT, dF, fldP, za, zd] | with_reducible intro _ | ((with_reducible apply And.intro); omega))
  case neg =>
    exact ⟨_, .bool _ _, congrArg AV.bool (by unfold zt; exact lb)⟩
  by_cases q4 : els = 0 <;> (repeat first | simp (disch := try exact dis1) only [evD, Nat.reduceBEq, Nat.reduceAdd, Nat.reduceLeDiff, dT, dF, fldP, za, zd] | with_reducible intro _ | ((with_reducible apply And.intro); omega))
  case neg =>
    exact ⟨_, .bool _ _, congrArg AV.bool (by unfold zt; exact lb)⟩
  exact ⟨_, .bool _ _, congrArg AV.bool (by unfold zt; exact lb)⟩
theorem zqI (op var width next els tgt : Int) (e : List Ex) (cs : List Int) (h : op = 10) : zk Tryz.prog zav [.agg [.int .i64 op, .int .i64 var, .int .i64 width, .int .i64 next, .int .i64 els, .int .u32 tgt, encL 5 encX e, za cs]] (· = .bool (zt op var width next els tgt cs.length)) := by
  refine fn_x zbb rfl ?_
  unfold zaX
  have hB := hBig
  (repeat first | simp (disch := try exact dis1) only [evD, Nat.reduceBEq, Nat.reduceAdd, Nat.reduceLeDiff, dT, dF, fldP, za, zd] | with_reducible intro _ | ((with_reducible apply And.intro); omega))
  by_cases q0 : var = 0 <;> (repeat first | simp (disch := try exact dis1) only [evD, Nat.reduceBEq, Nat.reduceAdd, Nat.reduceLeDiff, dT, dF, fldP, za, zd] | with_reducible intro _ | ((with_reducible apply And.intro); omega))
  case neg =>
    exact ⟨_, .bool _ _, congrArg AV.bool (by unfold zt; exact lb)⟩
  by_cases q1 : width = 0 <;> (repeat first | simp (disch := try exact dis1) only [evD, Nat.reduceBEq, Nat.reduceAdd, Nat.reduceLeDiff, dT, dF, fldP, za, zd] | with_reducible intro _ | ((with_reducible apply And.intro); omega))
  case neg =>
    exact ⟨_, .bool _ _, congrArg AV.bool (by unfold zt; exact lb)⟩
  by_cases q2 : tgt = 0 <;> (repeat first | simp (disch := try exact dis1) only [evD, Nat.reduceBEq, Nat.reduceAdd, Nat.reduceLeDiff, dT, dF, fldP, za, zd] | with_reducible intro _ | ((with_reducible apply And.intro); omega))
  case neg =>
    exact ⟨_, .bool _ _, congrArg AV.bool (by unfold zt; exact lb)⟩
  by_cases q3 : next = 0 <;> (repeat first | simp (disch := try exact dis1) only [evD, Nat.reduceBEq, Nat.reduceAdd, Nat.reduceLeDiff, dT, dF, fldP, za, zd] | with_reducible intro _ | ((with_reducible apply And.intro); omega))
  case neg =>
    exact ⟨_, .bool _ _, congrArg AV.bool (by unfold zt; exact lb)⟩
  by_cases q4 : els = 0 <;> (repeat first | simp (disch := try exact dis1) only [evD, Nat.reduceBEq, Nat.reduceAdd, Nat.reduceLeDiff, dT, dF, fldP, za, zd] | with_reducible intro _ | ((with_reducible apply And.intro); omega))
  case neg =>
    exact ⟨_, .bool _ _, congrArg AV.bool (by unfold zt; exact lb)⟩
  exact ⟨_, .bool _ _, congrArg AV.bool (by unfold zt; exact lb)⟩
theorem zqW (op var width next els tgt : Int) (e : List Ex) (cs : List Int) (h1 : 1 ≤ op) (h2 : op ≤ 10) : zk Tryz.prog zav [.agg [.int .i64 op, .int .i64 var, .int .i64 width, .int .i64 next, .int .i64 els, .int .u32 tgt, encL 5 encX e, za cs]] (· = .bool (zt op var width next els tgt cs.length)) := by
  by_cases h10 : op = 1
  · exact zsx op var width next els tgt e cs h10
  by_cases h20 : op = 2
  · exact zrU op var width next els tgt e cs h20
  by_cases h30 : op = 3
  · exact zsy op var width next els tgt e cs h30
  by_cases h40 : op = 4
  · exact zrO op var width next els tgt e cs h40
  by_cases h50 : op = 5
  · exact zrB op var width next els tgt e cs h50
  by_cases h60 : op = 6
  · exact zrx op var width next els tgt e cs h60
  by_cases h70 : op = 7
  · exact zrt op var width next els tgt e cs h70
  by_cases h80 : op = 8
  · exact zrC op var width next els tgt e cs h80
  by_cases h90 : op = 9
  · exact zrz op var width next els tgt e cs h90
  by_cases h100 : op = 10
  · exact zqI op var width next els tgt e cs h100
  omega
def zhy : List Ex → Int
  | [] => 0
  | x :: l => if ze1 x ≠ 0 then ze1 x else zhy l
theorem zm0 {l : List Ex} {i : Nat} (h : i < l.length) : zhy (l.drop i) = if ze1 l[i] ≠ 0 then ze1 l[i] else zhy (l.drop (i + 1)) := by
  rw [List.drop_eq_getElem_cons h, zhy]
def zqp (op var width next els tgt : Int) (e : List Ex) (cs : List Int) : Int :=
  if (op < 1 ∨ 10 < op) ∨ zR op ≠ e.length then 2 else if zhy e ≠ 0 then zhy e else if zt op var width next els tgt cs.length = true then 0 else 2
theorem zmi (op var width next els tgt : Int) (e : List Ex) (cs : List Int) : zk Tryz.prog zcf [.agg [.int .i64 op, .int .i64 var, .int .i64 width, .int .i64 next, .int .i64 els, .int .u32 tgt, encL 5 encX e, za cs]] (· = .int .i64 (zqp op var width next els tgt e cs)) := by
  refine fn_x zl5 rfl ?_
  unfold zhA zqp
  have hB := hBig
  by_cases h1 : 1 ≤ op
  case neg =>
    rw [if_pos (by omega)]
    (repeat first | simp (disch := try exact dis1) only [evD, Nat.reduceBEq, Nat.reduceAdd, Nat.reduceLeDiff, dT, dF, fldP, za, zu] | with_reducible intro _ | ((with_reducible apply And.intro); omega))
    exact ⟨_, .int _ _ _, rfl⟩
  by_cases h2 : op ≤ 10
  case neg =>
    rw [if_pos (by omega)]
    (repeat first | simp (disch := try exact dis1) only [evD, Nat.reduceBEq, Nat.reduceAdd, Nat.reduceLeDiff, dT, dF, fldP, za, zu] | with_reducible intro _ | ((with_reducible apply And.intro); omega))
    exact ⟨_, .int _ _ _, rfl⟩
  (repeat first | simp (disch := try exact dis1) only [evD, Nat.reduceBEq, Nat.reduceAdd, Nat.reduceLeDiff, dF, fldP, za] | with_reducible intro _ | ((with_reducible apply And.intro); omega))
  refine zag (zh (zpU op h1 h2) rfl) ?_
  generalize zR op = n
  by_cases h3 : n = e.length
  case neg =>
    rw [if_pos (by omega)]
    (repeat first | simp (disch := try exact dis1) only [evD, Nat.reduceBEq, Nat.reduceAdd, Nat.reduceLeDiff, dT, dF, fldP, za, zu] | with_reducible intro _ | ((with_reducible apply And.intro); omega))
    exact ⟨_, .int _ _ _, rfl⟩
  rw [if_neg (by omega)]
  (repeat first | simp (disch := try exact dis1) only [evD, Nat.reduceBEq, Nat.reduceAdd, Nat.reduceLeDiff, dT, dF, fldP, za] | with_reducible intro _ | ((with_reducible apply And.intro); omega))
  refine zm (fun i : Nat => ([(1, encP 8 [.int .i64 op, .int .i64 var, .int .i64 width, .int .i64 next, .int .i64 els, .int .u32 tgt, encL 5 encX e, za cs]), (3, .int .i64 i)], [])) 0 (fun i => i ≤ e.length ∧ zhy (e.drop i) = zhy e) (fun i => e.length - i) 0 ⟨Nat.zero_le _, rfl⟩ (Ent.keep rfl fin5) ?_
  rintro i ⟨hi, hgo⟩ wf
  unfold zfB
  by_cases hl : i < e.length
  · rw [zm0 hl] at hgo
    (repeat first | simp (disch := try exact dis1) only [evD, Nat.reduceBEq, Nat.reduceAdd, Nat.reduceLeDiff, fldP, dT, zo hl, za1, zar] | with_reducible intro _ | ((with_reducible apply And.intro); omega))
    refine ze (zh (zc1 e[i]) (flX rfl)) ?_
    by_cases hx : ze1 e[i] = 0
    · rw [if_neg (by omega)] at hgo
      (repeat first | simp (disch := try exact dis1) only [evD, Nat.reduceBEq, Nat.reduceAdd, Nat.reduceLeDiff, dF] | with_reducible intro _ | ((with_reducible apply And.intro); omega))
      exact ⟨i + 1, ⟨by omega, hgo⟩, by omega, Ent.keep rfl fin5⟩
    · rw [if_pos hx] at hgo
      rw [← hgo, if_pos hx]
      (repeat first | simp (disch := try exact dis1) only [evD, Nat.reduceBEq, Nat.reduceAdd, Nat.reduceLeDiff, dT, zu] | with_reducible intro _ | ((with_reducible apply And.intro); omega))
      exact ⟨_, .int _ _ _, rfl⟩
  rw [List.drop_of_length_le (by omega), zhy] at hgo
  rw [← hgo, if_neg (by omega)]
  (repeat first | simp (disch := try exact dis1) only [evD, Nat.reduceBEq, Nat.reduceAdd, Nat.reduceLeDiff, fldP, dF] | with_reducible intro _ | ((with_reducible apply And.intro); omega))
  unfold zfs
  (repeat first | simp (disch := try exact dis1) only [evD, Nat.reduceBEq, Nat.reduceAdd, Nat.reduceLeDiff, fldP, zfT, tab, List.getD_cons_zero, List.getD_cons_succ, za] | with_reducible intro _ | ((with_reducible apply And.intro); omega))
  refine ze (zh (zpq op var width next els tgt e cs h1 h2) rfl) ?_
  cases hu : zz op var width next els tgt cs.length with
  | false =>
    unfold zz at hu
    have hu2 := of_decide_eq_false hu
    rw [if_neg (by unfold zt; rw [dF (fun h => hu2 h.1)]; simp)]
    (repeat first | simp (disch := try exact dis1) only [evD, Nat.reduceBEq, Nat.reduceAdd, Nat.reduceLeDiff, dT, dF, fldP, za, zu] | with_reducible intro _ | ((with_reducible apply And.intro); omega))
    exact ⟨_, .int _ _ _, rfl⟩
  | true =>
    unfold zz at hu
    have hu2 := of_decide_eq_true hu
    (repeat first | simp (disch := try exact dis1) only [evD, Nat.reduceBEq, Nat.reduceAdd, Nat.reduceLeDiff, dT, dF, fldP, za, zu] | with_reducible intro _ | ((with_reducible apply And.intro); omega))
    refine ze (zh (zlm var) rfl) ?_
    unfold zpf
    by_cases hv : 0 ≤ var ∧ var < 65536
    case neg =>
      rw [if_neg (by unfold zt; rw [dF (fun h => hv h.2.1)]; simp)]
      (repeat first | simp (disch := try exact dis1) only [evD, Nat.reduceBEq, Nat.reduceAdd, Nat.reduceLeDiff, dT, dF, fldP, za, zu] | with_reducible intro _ | ((with_reducible apply And.intro); omega))
      exact ⟨_, .int _ _ _, rfl⟩
    (repeat first | simp (disch := try exact dis1) only [evD, Nat.reduceBEq, Nat.reduceAdd, Nat.reduceLeDiff, dT, dF, fldP, za, zu] | with_reducible intro _ | ((with_reducible apply And.intro); omega))
    by_cases o2 : op = 2
    · (repeat first | simp (disch := try exact dis1) only [evD, Nat.reduceBEq, Nat.reduceAdd, Nat.reduceLeDiff, dT, dF, fldP, za, zu] | with_reducible intro _ | ((with_reducible apply And.intro); omega))
      by_cases w1 : width = 1
      · rw [if_pos (by unfold zt; exact dT ⟨hu2, hv, by omega, by omega⟩)]
        (repeat first | simp (disch := try exact dis1) only [evD, Nat.reduceBEq, Nat.reduceAdd, Nat.reduceLeDiff, dT, dF, fldP, za, zu] | with_reducible intro _ | ((with_reducible apply And.intro); omega))
        exact ⟨_, .int _ _ _, rfl⟩
      (repeat first | simp (disch := try exact dis1) only [evD, Nat.reduceBEq, Nat.reduceAdd, Nat.reduceLeDiff, dT, dF, fldP, za, zu] | with_reducible intro _ | ((with_reducible apply And.intro); omega))
      by_cases w2 : width = 2
      · rw [if_pos (by unfold zt; exact dT ⟨hu2, hv, by omega, by omega⟩)]
        (repeat first | simp (disch := try exact dis1) only [evD, Nat.reduceBEq, Nat.reduceAdd, Nat.reduceLeDiff, dT, dF, fldP, za, zu] | with_reducible intro _ | ((with_reducible apply And.intro); omega))
        exact ⟨_, .int _ _ _, rfl⟩
      (repeat first | simp (disch := try exact dis1) only [evD, Nat.reduceBEq, Nat.reduceAdd, Nat.reduceLeDiff, dT, dF, fldP, za, zu] | with_reducible intro _ | ((with_reducible apply And.intro); omega))
      by_cases w4 : width = 4
      · rw [if_pos (by unfold zt; exact dT ⟨hu2, hv, by omega, by omega⟩)]
        (repeat first | simp (disch := try exact dis1) only [evD, Nat.reduceBEq, Nat.reduceAdd, Nat.reduceLeDiff, dT, dF, fldP, za, zu] | with_reducible intro _ | ((with_reducible apply And.intro); omega))
        exact ⟨_, .int _ _ _, rfl⟩
      rw [if_neg (by unfold zt; rw [dF (fun h => by have := h.2.2.1 o2; omega)]; simp)]
      (repeat first | simp (disch := try exact dis1) only [evD, Nat.reduceBEq, Nat.reduceAdd, Nat.reduceLeDiff, dT, dF, fldP, za, zu] | with_reducible intro _ | ((with_reducible apply And.intro); omega))
      exact ⟨_, .int _ _ _, rfl⟩
    (repeat first | simp (disch := try exact dis1) only [evD, Nat.reduceBEq, Nat.reduceAdd, Nat.reduceLeDiff, dT, dF, fldP, za, zu] | with_reducible intro _ | ((with_reducible apply And.intro); omega))
    by_cases o8 : op = 8
    · (repeat first | simp (disch := try exact dis1) only [evD, Nat.reduceBEq, Nat.reduceAdd, Nat.reduceLeDiff, dT, dF, fldP, za, zu] | with_reducible intro _ | ((with_reducible apply And.intro); omega))
      by_cases c1 : 1 ≤ cs.length
      case neg =>
        rw [if_neg (by unfold zt; rw [dF (fun h => by have := h.2.2.2 o8; omega)]; simp)]
        (repeat first | simp (disch := try exact dis1) only [evD, Nat.reduceBEq, Nat.reduceAdd, Nat.reduceLeDiff, dT, dF, fldP, za, zu] | with_reducible intro _ | ((with_reducible apply And.intro); omega))
        exact ⟨_, .int _ _ _, rfl⟩
      (repeat first | simp (disch := try exact dis1) only [evD, Nat.reduceBEq, Nat.reduceAdd, Nat.reduceLeDiff, dT, dF, fldP, za, zu] | with_reducible intro _ | ((with_reducible apply And.intro); omega))
      by_cases c2 : cs.length ≤ 64
      case neg =>
        rw [if_neg (by unfold zt; rw [dF (fun h => by have := h.2.2.2 o8; omega)]; simp)]
        (repeat first | simp (disch := try exact dis1) only [evD, Nat.reduceBEq, Nat.reduceAdd, Nat.reduceLeDiff, dT, dF, fldP, za, zu] | with_reducible intro _ | ((with_reducible apply And.intro); omega))
        exact ⟨_, .int _ _ _, rfl⟩
      rw [if_pos (by unfold zt; exact dT ⟨hu2, hv, by omega, by omega⟩)]
      (repeat first | simp (disch := try exact dis1) only [evD, Nat.reduceBEq, Nat.reduceAdd, Nat.reduceLeDiff, dT, dF, fldP, za, zu] | with_reducible intro _ | ((with_reducible apply And.intro); omega))
      exact ⟨_, .int _ _ _, rfl⟩
    rw [if_pos (by unfold zt; exact dT ⟨hu2, hv, by omega, by omega⟩)]
    (repeat first | simp (disch := try exact dis1) only [evD, Nat.reduceBEq, Nat.reduceAdd, Nat.reduceLeDiff, dT, dF, fldP, za, zu] | with_reducible intro _ | ((with_reducible apply And.intro); omega))
    exact ⟨_, .int _ _ _, rfl⟩
theorem zq5 {op : Int} : zR op < 0 ↔ (op < 1 ∨ 10 < op) := by
  unfold zR
  constructor
  · intro h
    repeat' split at h
    all_goals omega
  · intro h
    rw [if_neg (by omega), if_neg (by omega), if_neg (by omega)]
    omega
theorem zmD (op var width next els tgt : Int) (e : List Ex) (cs : List Int) : zk Tryz.prog zcY [.agg [.int .i64 op, .int .i64 var, .int .i64 width, .int .i64 next, .int .i64 els, .int .u32 tgt, encL 5 encX e, za cs]] (· = .int .i64 (zqp op var width next els tgt e cs)) := by
  refine fn_x zmY rfl ?_
  unfold ziv zqp
  have hB := hBig
  (repeat first | simp (disch := try exact dis1) only [evD, Nat.reduceBEq, Nat.reduceAdd, Nat.reduceLeDiff, dT, dF, fldP, za, zax] | with_reducible intro _ | ((with_reducible apply And.intro); omega))
  refine ze (zh (zli op) rfl) ?_
  have hneg := zq5 (op := op)
  generalize zR op = n at hneg ⊢
  by_cases h1 : n < 0
  · rw [if_pos (.inl (hneg.1 h1))]
    (repeat first | simp (disch := try exact dis1) only [evD, Nat.reduceBEq, Nat.reduceAdd, Nat.reduceLeDiff, dT, dF, fldP, za, zax] | with_reducible intro _ | ((with_reducible apply And.intro); omega))
    exact ⟨_, .int _ _ _, rfl⟩
  have hop : ¬ (op < 1 ∨ 10 < op) := fun h => h1 (hneg.2 h)
  (repeat first | simp (disch := try exact dis1) only [evD, Nat.reduceBEq, Nat.reduceAdd, Nat.reduceLeDiff, dT, dF, fldP, za, zax] | with_reducible intro _ | ((with_reducible apply And.intro); omega))
  by_cases h3 : n = e.length
  case neg =>
    rw [if_pos (.inr h3)]
    (repeat first | simp (disch := try exact dis1) only [evD, Nat.reduceBEq, Nat.reduceAdd, Nat.reduceLeDiff, dT, dF, fldP, za, zax] | with_reducible intro _ | ((with_reducible apply And.intro); omega))
    exact ⟨_, .int _ _ _, rfl⟩
  rw [if_neg (by omega)]
  (repeat first | simp (disch := try exact dis1) only [evD, Nat.reduceBEq, Nat.reduceAdd, Nat.reduceLeDiff, dT, dF, fldP, za, zax] | with_reducible intro _ | ((with_reducible apply And.intro); omega))
  refine zm (fun i : Nat => ([(1, encP 8 [.int .i64 op, .int .i64 var, .int .i64 width, .int .i64 next, .int .i64 els, .int .u32 tgt, encL 5 encX e, za cs]), (20, encL 5 encX e), (21, .int .i64 e.length), (22, .int .i64 i)], [])) 0 (fun i => i ≤ e.length ∧ zhy (e.drop i) = zhy e) (fun i => e.length - i) 0 ⟨Nat.zero_le _, rfl⟩ (Ent.keep rfl fin5) ?_
  rintro i ⟨hi, hgo⟩ wf
  unfold zgk
  by_cases hl : i < e.length
  · rw [zm0 hl] at hgo
    (repeat first | simp (disch := try exact dis1) only [evD, Nat.reduceBEq, Nat.reduceAdd, Nat.reduceLeDiff, fldP, dT, zo hl, za1, zar] | with_reducible intro _ | ((with_reducible apply And.intro); omega))
    refine ze (zh (zdA e[i]) (flX rfl)) ?_
    by_cases hx : ze1 e[i] = 0
    · rw [if_neg (by omega)] at hgo
      (repeat first | simp (disch := try exact dis1) only [evD, Nat.reduceBEq, Nat.reduceAdd, Nat.reduceLeDiff, dF] | with_reducible intro _ | ((with_reducible apply And.intro); omega))
      exact ⟨i + 1, ⟨by omega, hgo⟩, by omega, (Ent.tab [] [] rfl (by (try simp only [evWB, Nat.reduceBEq, Nat.reduceAdd, Nat.reduceSub, Nat.reduceLeDiff, Nat.reduceLT, implies_true]) <;> exact fin2) (by (try simp only [evWB, Nat.reduceBEq, Nat.reduceAdd, Nat.reduceSub, Nat.reduceLeDiff, Nat.reduceLT, implies_true]) <;> exact fin2))⟩
    · rw [if_pos hx] at hgo
      rw [← hgo, if_pos hx]
      (repeat first | simp (disch := try exact dis1) only [evD, Nat.reduceBEq, Nat.reduceAdd, Nat.reduceLeDiff, dT, zax] | with_reducible intro _ | ((with_reducible apply And.intro); omega))
      exact ⟨_, .int _ _ _, rfl⟩
  rw [List.drop_of_length_le (by omega), zhy] at hgo
  rw [← hgo, if_neg (by omega)]
  (repeat first | simp (disch := try exact dis1) only [evD, Nat.reduceBEq, Nat.reduceAdd, Nat.reduceLeDiff, fldP, dF] | with_reducible intro _ | ((with_reducible apply And.intro); omega))
  unfold zf8
  (repeat first | simp (disch := try exact dis1) only [evD, Nat.reduceBEq, Nat.reduceAdd, Nat.reduceLeDiff, fldP, zfT, tab, List.getD_cons_zero, List.getD_cons_succ, za] | with_reducible intro _ | ((with_reducible apply And.intro); omega))
  refine ze (zh (zqW op var width next els tgt e cs (by omega) (by omega)) rfl) ?_
  cases zt op var width next els tgt cs.length with
  | false =>
    (repeat first | simp (disch := try exact dis1) only [evD, Nat.reduceBEq, Nat.reduceAdd, Nat.reduceLeDiff, dT, dF, fldP, za, zax] | with_reducible intro _ | ((with_reducible apply And.intro); omega))
    exact ⟨_, .int _ _ _, rfl⟩
  | true =>
    (repeat first | simp (disch := try exact dis1) only [evD, Nat.reduceBEq, Nat.reduceAdd, Nat.reduceLeDiff, dT, dF, fldP, za, zax] | with_reducible intro _ | ((with_reducible apply And.intro); omega))
    exact ⟨_, .int _ _ _, rfl⟩
structure St where
  op : Int
  var : Int
  width : Int
  next : Int
  els : Int
  tgt : Int
  e : List Ex
  cases : List Int
def St.cells (s : St) : List AV := [.int .i64 s.op, .int .i64 s.var, .int .i64 s.width, .int .i64 s.next, .int .i64 s.els, .int .u32 s.tgt, encL 5 encX s.e, za s.cases]
structure Bl where
  addr : Int
  stmts : List St
def Bl.cells (b : Bl) : List AV := [.int .u32 b.addr, encL 8 St.cells b.stmts]
structure G where
  addr : Int
  blocks : List Bl
def G.cells (g : G) : List AV := [.int .u32 g.addr, encL 2 Bl.cells g.blocks]
theorem St.len (s : St) : s.cells.length = 8 := rfl
theorem St.flat (s : St) : zG s.cells = true := rfl
theorem St.eight (s : St) : [s.cells.getD 0 .undef, s.cells.getD 1 .undef, s.cells.getD 2 .undef, s.cells.getD 3 .undef, s.cells.getD 4 .undef, s.cells.getD 5 .undef, s.cells.getD 6 .undef, s.cells.getD 7 .undef] = s.cells := rfl
def zkg (s : St) : Bool := decide (6 ≤ s.op ∧ s.op ≤ 10)
def zgU (s : St) : List Int := if s.op = 6 then [s.next] else if s.op = 7 then [s.next, s.els] else if s.op = 8 then s.cases else []
def St.check (s : St) : Int := zqp s.op s.var s.width s.next s.els s.tgt s.e s.cases
theorem zmc (s : St) : zk Tryz.prog zcf [.agg s.cells] (· = .int .i64 s.check) := zmi _ _ _ _ _ _ _ _
theorem zm5 (s : St) : zk Tryz.prog zcY [.agg s.cells] (· = .int .i64 s.check) := zmD _ _ _ _ _ _ _ _
theorem zsr (s : St) : zk Tryz.prog ziU [.agg s.cells] (· = .bool (zkg s)) := by
  refine fn_x zrl rfl ?_
  unfold zm6
  have hB := hBig
  obtain ⟨op, var, width, next, els, tgt, e, cs⟩ := s
  unfold zkg
  by_cases h1 : 6 ≤ op
  · (repeat first | simp (disch := try exact dis1) only [evD, Nat.reduceBEq, Nat.reduceAdd, Nat.reduceLeDiff, dT, fldP, za, St.cells, zjU] | with_reducible intro _ | ((with_reducible apply And.intro); omega))
    exact ⟨_, .bool _ _, congrArg AV.bool (decide_eq_decide.2 (by omega))⟩
  · (repeat first | simp (disch := try exact dis1) only [evD, Nat.reduceBEq, Nat.reduceAdd, Nat.reduceLeDiff, dF, fldP, za, St.cells, zjU] | with_reducible intro _ | ((with_reducible apply And.intro); omega))
    exact ⟨_, .bool _ _, rfl⟩
theorem zhU (s : St) : zk Tryz.prog zbI [.agg s.cells] (· = .bool (zkg s)) := by
  refine fn_x zmh rfl ?_
  unfold zhI
  have hB := hBig
  obtain ⟨op, var, width, next, els, tgt, e, cs⟩ := s
  unfold zkg
  by_cases h1 : 6 ≤ op
  · (repeat first | simp (disch := try exact dis1) only [evD, Nat.reduceBEq, Nat.reduceAdd, Nat.reduceLeDiff, dT, fldP, za, St.cells, zeF] | with_reducible intro _ | ((with_reducible apply And.intro); omega))
    exact ⟨_, .bool _ _, congrArg AV.bool (decide_eq_decide.2 (by omega))⟩
  · (repeat first | simp (disch := try exact dis1) only [evD, Nat.reduceBEq, Nat.reduceAdd, Nat.reduceLeDiff, dF, fldP, za, St.cells, zeF] | with_reducible intro _ | ((with_reducible apply And.intro); omega))
    exact ⟨_, .bool _ _, rfl⟩
theorem znN (s : St) : zk Tryz.prog zfe [.agg s.cells] (· = za (zgU s)) := by
  refine fn_x znL rfl ?_
  unfold zjw
  have hB := hBig
  obtain ⟨op, var, width, next, els, tgt, e, cs⟩ := s
  unfold zgU
  simp only
  by_cases h6 : op = 6
  · rw [if_pos h6]
    (repeat first | simp (disch := try exact dis1) only [evD, Nat.reduceBEq, Nat.reduceAdd, Nat.reduceLeDiff, dT, dF, fldP, za, St.cells, zcS] | with_reducible intro _ | ((with_reducible apply And.intro); omega))
    exact ⟨_, zbj (l := [next]) trivial rfl (by simp only [List.length_singleton]; omega), rfl⟩
  rw [if_neg h6]
  by_cases h7 : op = 7
  · rw [if_pos h7]
    (repeat first | simp (disch := try exact dis1) only [evD, Nat.reduceBEq, Nat.reduceAdd, Nat.reduceLeDiff, dT, dF, fldP, za, St.cells, zcS] | with_reducible intro _ | ((with_reducible apply And.intro); omega))
    exact ⟨_, zbj (l := [next, els]) trivial rfl (by simp only [List.length_cons, List.length_nil]; omega), rfl⟩
  rw [if_neg h7]
  by_cases h8 : op = 8
  · rw [if_pos h8]
    (repeat first | simp (disch := try exact dis1) only [evD, Nat.reduceBEq, Nat.reduceAdd, Nat.reduceLeDiff, dT, dF, fldP, za, St.cells, zcS] | with_reducible intro _ | ((with_reducible apply And.intro); omega))
    exact ⟨_, zay rfl, rfl⟩
  rw [if_neg h8]
  (repeat first | simp (disch := try exact dis1) only [evD, Nat.reduceBEq, Nat.reduceAdd, Nat.reduceLeDiff, dT, dF, fldP, za, St.cells, zcS] | with_reducible intro _ | ((with_reducible apply And.intro); omega))
  exact ⟨_, zbj (l := []) trivial rfl (by simp only [List.length_nil]; omega), rfl⟩
end Go.Ab
namespace Go.Ab
open Go.RowKit Go.Proofs Go.Proofs.YtmlhipilbnjhiaaGreat
section
variable {HH : Type} {enc : TypeId × Value → HH} {w : World} {base : Nat} {spare : Nat → Bool} {held : Bool} {L : Nat → Prop} (hL : ∀ b, ¬ L b)
include hL
theorem zyd {fuel : Nat} {cs : List Value} {y : DataW HH × List MemPlace} (h : DataW.trod enc Tryz.prog w base spare held fuel 54 cs = some y) : ∃ s : St, ElOk w L cs s.cells := by
  have hcx : Tryz.prog.cellsOf 60 = 5 := by kernel_rfl
  obtain ⟨xs, n, rfl, rfl, hlen, hxs, hf⟩ := DataW.trod_struct Tryz.underlying54 h
  have hc : Tryz.prog.cellsOf 54 = 8 := by kernel_rfl
  have hc3 : Tryz.prog.cellsOf 3 = 1 := by kernel_rfl
  have hc22 : Tryz.prog.cellsOf 22 = 1 := by kernel_rfl
  have hc28 : Tryz.prog.cellsOf 28 = 1 := by kernel_rfl
  have hc36 : Tryz.prog.cellsOf 36 = 1 := by kernel_rfl
  rw [hc] at hlen
  have hget : ∀ i, i < 8 → xs[i]? = some (xs.getD i (.nil, [])) := fun i hi => by
    rw [List.getD_eq_getElem?_getD, List.getElem?_eq_getElem (by rw [hxs]; exact hi)]
    rfl
  match cs, hlen with
  | [c0, c1, c2, c3, c4, c5, c6, c7], _ =>
    have f0 : DataW.trod enc Tryz.prog w base spare held n 3 (([c0, c1, c2, c3, c4, c5, c6, c7].drop 0).take (Tryz.prog.cellsOf 3)) = some (xs.getD 0 (.nil, [])) := (hf 0 _ rfl).trans (hget 0 (by decide))
    rw [hc3] at f0
    replace f0 : DataW.trod enc Tryz.prog w base spare held n 3 [c0] = some (xs.getD 0 (.nil, [])) := f0
    have f1 : DataW.trod enc Tryz.prog w base spare held n 3 (([c0, c1, c2, c3, c4, c5, c6, c7].drop 1).take (Tryz.prog.cellsOf 3)) = some (xs.getD 1 (.nil, [])) := (hf 1 _ rfl).trans (hget 1 (by decide))
    rw [hc3] at f1
    replace f1 : DataW.trod enc Tryz.prog w base spare held n 3 [c1] = some (xs.getD 1 (.nil, [])) := f1
    have f2 : DataW.trod enc Tryz.prog w base spare held n 3 (([c0, c1, c2, c3, c4, c5, c6, c7].drop 2).take (Tryz.prog.cellsOf 3)) = some (xs.getD 2 (.nil, [])) := (hf 2 _ rfl).trans (hget 2 (by decide))
    rw [hc3] at f2
    replace f2 : DataW.trod enc Tryz.prog w base spare held n 3 [c2] = some (xs.getD 2 (.nil, [])) := f2
    have f3 : DataW.trod enc Tryz.prog w base spare held n 3 (([c0, c1, c2, c3, c4, c5, c6, c7].drop 3).take (Tryz.prog.cellsOf 3)) = some (xs.getD 3 (.nil, [])) := (hf 3 _ rfl).trans (hget 3 (by decide))
    rw [hc3] at f3
    replace f3 : DataW.trod enc Tryz.prog w base spare held n 3 [c3] = some (xs.getD 3 (.nil, [])) := f3
    have f4 : DataW.trod enc Tryz.prog w base spare held n 3 (([c0, c1, c2, c3, c4, c5, c6, c7].drop 4).take (Tryz.prog.cellsOf 3)) = some (xs.getD 4 (.nil, [])) := (hf 4 _ rfl).trans (hget 4 (by decide))
    rw [hc3] at f4
    replace f4 : DataW.trod enc Tryz.prog w base spare held n 3 [c4] = some (xs.getD 4 (.nil, [])) := f4
    have f5 : DataW.trod enc Tryz.prog w base spare held n 22 (([c0, c1, c2, c3, c4, c5, c6, c7].drop 5).take (Tryz.prog.cellsOf 22)) = some (xs.getD 5 (.nil, [])) := (hf 5 _ rfl).trans (hget 5 (by decide))
    rw [hc22] at f5
    replace f5 : DataW.trod enc Tryz.prog w base spare held n 22 [c5] = some (xs.getD 5 (.nil, [])) := f5
    have f6 : DataW.trod enc Tryz.prog w base spare held n 28 (([c0, c1, c2, c3, c4, c5, c6, c7].drop 6).take (Tryz.prog.cellsOf 28)) = some (xs.getD 6 (.nil, [])) := (hf 6 _ rfl).trans (hget 6 (by decide))
    rw [hc28] at f6
    replace f6 : DataW.trod enc Tryz.prog w base spare held n 28 [c6] = some (xs.getD 6 (.nil, [])) := f6
    have f7 : DataW.trod enc Tryz.prog w base spare held n 36 (([c0, c1, c2, c3, c4, c5, c6, c7].drop 7).take (Tryz.prog.cellsOf 36)) = some (xs.getD 7 (.nil, [])) := (hf 7 _ rfl).trans (hget 7 (by decide))
    rw [hc36] at f7
    replace f7 : DataW.trod enc Tryz.prog w base spare held n 36 [c7] = some (xs.getD 7 (.nil, [])) := f7
    obtain ⟨n0, h0, w0⟩ := zeU Tryz.underlying3 f0
    obtain ⟨n1, h1, w1⟩ := zeU Tryz.underlying3 f1
    obtain ⟨n2, h2, w2⟩ := zeU Tryz.underlying3 f2
    obtain ⟨n3, h3, w3⟩ := zeU Tryz.underlying3 f3
    obtain ⟨n4, h4, w4⟩ := zeU Tryz.underlying3 f4
    obtain ⟨n5, h5, w5⟩ := zeU Tryz.underlying22 f5
    obtain ⟨l6, v6, h6, o6, w6⟩ := zkN (L := L) (α := Ex) (cells := encX) hL Tryz.underlying28 hcx (fun fuel' hf' cs y h _ => zuN hL fuel' fuel' (Nat.le_refl _) cs y h) f6
    obtain ⟨l7, v7, h7, o7, w7⟩ := zzR Tryz.underlying36 Tryz.underlying3 hc3 hL f7
    cases h0; cases h1; cases h2; cases h3; cases h4; cases h5; cases h6; cases h7
    refine ⟨⟨n0, n1, n2, n3, n4, n5, l6, l7⟩, fun j hj => ?_⟩
    match j with
    | 0 => exact ⟨.int _ _ _ w0, rfl⟩
    | 1 => exact ⟨.int _ _ _ w1, rfl⟩
    | 2 => exact ⟨.int _ _ _ w2, rfl⟩
    | 3 => exact ⟨.int _ _ _ w3, rfl⟩
    | 4 => exact ⟨.int _ _ _ w4, rfl⟩
    | 5 => exact ⟨.int _ _ _ w5, rfl⟩
    | 6 => exact ⟨w6 _, o6⟩
    | 7 => exact ⟨w7 _, o7⟩
    | j + 8 => exact absurd hj (by simp)
theorem zxO {fuel : Nat} {cs : List Value} {y : DataW HH × List MemPlace} (h : DataW.trod enc Tryz.prog w base spare held fuel 57 cs = some y) : ∃ b : Bl, ElOk w L cs b.cells := by
  have hcs : Tryz.prog.cellsOf 54 = 8 := by kernel_rfl
  obtain ⟨xs, n, rfl, rfl, hlen, hxs, hf⟩ := DataW.trod_struct Tryz.underlying57 h
  have hc : Tryz.prog.cellsOf 57 = 2 := by kernel_rfl
  have hc22 : Tryz.prog.cellsOf 22 = 1 := by kernel_rfl
  have hc55 : Tryz.prog.cellsOf 55 = 1 := by kernel_rfl
  rw [hc] at hlen
  have hget : ∀ i, i < 2 → xs[i]? = some (xs.getD i (.nil, [])) := fun i hi => by
    rw [List.getD_eq_getElem?_getD, List.getElem?_eq_getElem (by rw [hxs]; exact hi)]
    rfl
  match cs, hlen with
  | [c0, c1], _ =>
    have f0 : DataW.trod enc Tryz.prog w base spare held n 22 (([c0, c1].drop 0).take (Tryz.prog.cellsOf 22)) = some (xs.getD 0 (.nil, [])) := (hf 0 _ rfl).trans (hget 0 (by decide))
    rw [hc22] at f0
    replace f0 : DataW.trod enc Tryz.prog w base spare held n 22 [c0] = some (xs.getD 0 (.nil, [])) := f0
    have f1 : DataW.trod enc Tryz.prog w base spare held n 55 (([c0, c1].drop 1).take (Tryz.prog.cellsOf 55)) = some (xs.getD 1 (.nil, [])) := (hf 1 _ rfl).trans (hget 1 (by decide))
    rw [hc55] at f1
    replace f1 : DataW.trod enc Tryz.prog w base spare held n 55 [c1] = some (xs.getD 1 (.nil, [])) := f1
    obtain ⟨n0, h0, w0⟩ := zeU Tryz.underlying22 f0
    obtain ⟨l1, v1, h1, o1, w1⟩ := zoJ (α := St) (cells := St.cells) (L := L) Tryz.underlying55 hcs hL (fun _ _ _ h _ => zyd hL h) f1
    cases h0; cases h1
    refine ⟨⟨n0, l1⟩, fun j hj => ?_⟩
    match j with
    | 0 => exact ⟨.int _ _ _ w0, rfl⟩
    | 1 => exact ⟨w1 _, o1⟩
    | j + 2 => exact absurd hj (by simp)
theorem zx9 {fuel : Nat} {cs : List Value} {y : DataW HH × List MemPlace} (h : DataW.trod enc Tryz.prog w base spare held fuel 25 cs = some y) : ∃ g : G, cs.length = 2 ∧ ElOk w L cs g.cells ∧ ∀ j, j < 2 → ∀ ι, VR w L ι (cs.getD j undef) (g.cells.getD j .undef) := by
  have hcb : Tryz.prog.cellsOf 57 = 2 := by kernel_rfl
  obtain ⟨xs, n, rfl, rfl, hlen, hxs, hf⟩ := DataW.trod_struct Tryz.underlying25 h
  have hc : Tryz.prog.cellsOf 25 = 2 := by kernel_rfl
  have hc22 : Tryz.prog.cellsOf 22 = 1 := by kernel_rfl
  have hc23 : Tryz.prog.cellsOf 23 = 1 := by kernel_rfl
  rw [hc] at hlen
  have hget : ∀ i, i < 2 → xs[i]? = some (xs.getD i (.nil, [])) := fun i hi => by
    rw [List.getD_eq_getElem?_getD, List.getElem?_eq_getElem (by rw [hxs]; exact hi)]
    rfl
  match cs, hlen with
  | [c0, c1], _ =>
    have f0 : DataW.trod enc Tryz.prog w base spare held n 22 (([c0, c1].drop 0).take (Tryz.prog.cellsOf 22)) = some (xs.getD 0 (.nil, [])) := (hf 0 _ rfl).trans (hget 0 (by decide))
    rw [hc22] at f0
    replace f0 : DataW.trod enc Tryz.prog w base spare held n 22 [c0] = some (xs.getD 0 (.nil, [])) := f0
    have f1 : DataW.trod enc Tryz.prog w base spare held n 23 (([c0, c1].drop 1).take (Tryz.prog.cellsOf 23)) = some (xs.getD 1 (.nil, [])) := (hf 1 _ rfl).trans (hget 1 (by decide))
    rw [hc23] at f1
    replace f1 : DataW.trod enc Tryz.prog w base spare held n 23 [c1] = some (xs.getD 1 (.nil, [])) := f1
    obtain ⟨n0, h0, w0⟩ := zeU Tryz.underlying22 f0
    obtain ⟨l1, v1, h1, o1, w1⟩ := zoJ (α := Bl) (cells := Bl.cells) (L := L) Tryz.underlying23 hcb hL (fun _ _ _ h _ => zxO hL h) f1
    cases h0; cases h1
    refine ⟨⟨n0, l1⟩, rfl, fun j hj => ?_, fun j hj ι => ?_⟩
    · match j with
      | 0 => exact ⟨.int _ _ _ w0, rfl⟩
      | 1 => exact ⟨w1 _, o1⟩
      | j + 2 => exact absurd hj (by simp)
    · match j with
      | 0 => exact .int _ _ _ w0
      | 1 => exact w1 _
      | j + 2 => omega
theorem open_graph {v : Value} {d : DataW HH} {ps : List MemPlace} (hv : Value.okWide Tryz.prog w .any base 25 v) {b2 : Nat} (h : DataW.Trod enc Tryz.prog w b2 spare held 25 v d ps) : ∃ g : G, True ∧ ∀ ι, VR w L ι v (.agg g.cells) := by
  obtain ⟨fuel, hf⟩ := h
  unfold Value.okWide at hv
  rw [Tryz.underlying25] at hv
  simp only at hv
  obtain ⟨cs, rfl, _, _⟩ := hv
  have hf' : DataW.trod enc Tryz.prog w b2 spare held fuel 25 cs.toList = some (d, ps) := hf
  obtain ⟨g, h1, h2, h3⟩ := zx9 hL hf'
  refine ⟨g, trivial, fun ι => .agg ι cs _ (by
    have : cs.size = 2 := by simpa using h1
    rw [this]; rfl) (fun i v hi => ?_) (fun i v a hi ha => ?_)⟩
  · have hi2 : i < cs.size := by
      rcases Nat.lt_or_ge i cs.size with h | h
      · exact h
      · rw [Array.getElem?_eq_none h] at hi; cases hi
    have := (h2 i (by simpa using hi2)).2
    rw [List.getD_eq_getElem?_getD, Array.getElem?_toList, hi] at this
    exact this
  · have hi2 : i < cs.size := by
      rcases Nat.lt_or_ge i cs.size with h | h
      · exact h
      · rw [Array.getElem?_eq_none h] at hi; cases hi
    have hi3 : i < 2 := by rw [← h1]; simpa using hi2
    have := h3 i hi3 ι
    rw [List.getD_eq_getElem?_getD, Array.getElem?_toList, hi, List.getD_eq_getElem?_getD, ha] at this
    exact this
end
end Go.Ab
namespace Go.Ab
open Go.RowKit Go.Proofs
def za9 : ACode := .seq (.region [ (oN 2 (.mknil 1))] [2]) (.seq (.seq (.region [ (oN 3 (.mov (.t 0))), (oN 4 (.isnil false false (.t 3)))] [3]) (.cond (.t 4) (.seq (.region [ (oN 2 (.mknil 1))] [0, 4]) (.ret)) (.skip))) (.seq (.region [ (oN 5 (.buildSl 1 0 [.int .i64 0] [])), (oN 6 (.mov (.t 0))), (oN 7 (.append 1 8 (.t 5) (.t 6))), (oN 2 (.mov (.t 7)))] [0, 4, 5, 6, 7]) (.ret)))
def zE : List ARet := [.tmp 2]
theorem zbP : zT Tryz.prog zB (qRo []) = some (za9.strip, zE, 8) := by kernel_rfl
def zd0 : ACode := .seq (.region [ (oN 2 (.rbox (.t 0))), (oN 3 (.rbox (.t 1))), (oN 4 (.mov (.c (.bool false))))] [0, 1, 4]) (.seq (.seq (.region [ (oN 5 (.load true 2 (.t 3))), (oN 6 (.call zkB [(.t 5)])), (oN 7 (.un .not (.t 6))), (oN 8 (.mov (.t 7))), (oG 9 8 false (.load true 5 (.t 2))), (oG 10 8 false (.call zg9 [(.t 9)])), (oG 11 8 false (.un .not (.t 10))), (oN 12 (.pick (.t 8) (.c (.bool true)) (.t 11)))] [5, 6, 7, 8, 9, 10, 11]) (.cond (.t 12) (.seq (.region [ (oN 13 (.call zb1 [])), (oN 4 (.mov (.t 13)))] [2, 3, 12, 13]) (.ret)) (.skip))) (.seq (.draw ( .step (oN 14 (.load true 5 (.t 2))) ( .step (oN 15 (.load true 2 (.t 3))) ( .step (oN 16 (.callq zbc [(.t 14), (.t 15)])) ( .step (oN 17 (.load true 5 (.t 2))) ( .step (oN 18 (.load true 2 (.t 3))) ( .step (oN 19 (.callq zhn [(.t 17), (.t 18)])) ( .step (oN 20 (.bin .eql (.t 16) (.t 19))) ( .step (oN 21 (.mov (.t 20))) ( .step (oG 22 21 true (.callq zb1 [])) ( .step (oN 23 (.pick (.t 21) (.t 22) (.c (.bool false)))) ( .step (oN 4 (.mov (.t 23))) ( .done)))))))))))) [2, 3, 12, 14, 15, 16, 17, 18, 19, 20, 21, 22, 23]) (.ret)))
def zbp : List ARet := [.tmp 4]
theorem zh1 : zT Tryz.prog zcq (qRo [2, 3]) = some (zd0.strip, zbp, 24) := by kernel_rfl
def zkO : ACode := .seq (.seq (.region [ (oN 56 (.mov (.t 6))), (oN 57 (.fldaddr 6 1 (.t 5))), (oN 58 (.load false 1 (.t 57))), (oN 59 (.len (.t 58))), (oN 60 (.bin .lss (.t 56) (.t 59)))] [56, 57, 58, 59]) (.cond (.t 60) (.skip) (.exit 4))) (.seq (.block 5 (.seq (.region [ (oN 63 (.fldaddr 6 1 (.t 5))), (oN 64 (.load false 1 (.t 63))), (oN 65 (.mov (.t 6))), (oN 66 (.idx 5 (.t 64) (.t 65))), (oN 67 (.load true 5 (.t 66))), (oN 68 (.call zd6 [(.t 67), (.c (.int .i64 70)), (.c (.int .i64 200))])), (oN 69 (.bin .lss (.t 68) (.c (.int .i64 0))))] [60, 63, 64, 65, 66, 67, 68]) (.cond (.t 69) (.seq (.region [ (oN 2 (.mov (.c (.bool false))))] [1, 3, 4, 5, 6, 69]) (.ret)) (.skip)))) (.region [ (oN 61 (.mov (.t 6))), (oN 62 (.bin .add (.t 61) (.c (.int .i64 1)))), (oN 6 (.mov (.t 62)))] [2, 61, 62, 69]))
def zj6 : ACode := .region [ (oN 35 (.mov (.t 4))), (oN 36 (.bin .add (.t 35) (.c (.int .i64 1)))), (oN 4 (.mov (.t 36)))] [5, 6, 35, 36]
def zkl : ACode := .seq (.seq (.region [ (oN 26 (.mov (.t 4))), (oN 27 (.fldaddr 1 1 (.t 1))), (oN 28 (.load false 1 (.t 27))), (oN 29 (.mov (.t 3))), (oN 30 (.idx 2 (.t 28) (.t 29))), (oN 31 (.fldaddr 1 1 (.t 30))), (oN 32 (.load false 1 (.t 31))), (oN 33 (.len (.t 32))), (oN 34 (.bin .lss (.t 26) (.t 33)))] [26, 27, 28, 29, 30, 31, 32, 33]) (.cond (.t 34) (.skip) (.exit 2))) (.seq (.block 3 (.seq (.region [ (oN 37 (.fldaddr 1 1 (.t 1))), (oN 38 (.load false 1 (.t 37))), (oN 39 (.mov (.t 3))), (oN 40 (.idx 2 (.t 38) (.t 39))), (oN 41 (.fldaddr 1 1 (.t 40))), (oN 42 (.load false 1 (.t 41))), (oN 43 (.mov (.t 4))), (oN 44 (.idx 8 (.t 42) (.t 43))), (oN 45 (.load true 8 (.t 44))), (oN 5 (.alloc [.int .i64 0, .int .i64 0, .int .i64 0, .int .i64 0, .int .i64 0, .int .u32 0, .nilsl, .nilsl])), ⟨none, .store 8 (.t 5) (.t 45), none⟩] [34, 37, 38, 39, 40, 41, 42, 43, 44, 45]) (.seq (.seq (.region [ (oN 46 (.fldaddr 7 1 (.t 5))), (oN 47 (.load false 1 (.t 46))), (oN 48 (.len (.t 47))), (oN 49 (.bin .gtr (.t 48) (.c (.int .i64 8)))), (oN 50 (.mov (.t 49))), (oG 51 50 false (.fldaddr 6 1 (.t 5))), (oG 52 50 false (.load false 1 (.t 51))), (oG 53 50 false (.len (.t 52))), (oG 54 50 false (.bin .gtr (.t 53) (.c (.int .i64 3)))), (oN 55 (.pick (.t 50) (.c (.bool true)) (.t 54)))] [46, 47, 48, 49, 50, 51, 52, 53, 54]) (.cond (.t 55) (.seq (.region [ (oN 2 (.mov (.c (.bool false))))] [1, 3, 4, 5, 55]) (.ret)) (.skip))) (.seq (.region [ (oN 6 (.mov (.c (.int .i64 0))))] [2, 55]) (.block 4 (.loop zkO)))))) (zj6))
def zj5 : ACode := .region [ (oN 16 (.mov (.t 3))), (oN 17 (.bin .add (.t 16) (.c (.int .i64 1)))), (oN 3 (.mov (.t 17)))] [4, 16, 17]
def zks : ACode := .seq (.seq (.region [ (oN 7 (.mov (.t 3))), (oN 8 (.fldaddr 1 1 (.t 1))), (oN 9 (.load false 1 (.t 8))), (oN 10 (.len (.t 9))), (oN 11 (.bin .lss (.t 7) (.t 10))), (oN 12 (.mov (.t 11))), (oG 13 12 true (.mov (.t 3))), (oG 14 12 true (.bin .lss (.t 13) (.c (.int .i64 14)))), (oN 15 (.pick (.t 12) (.t 14) (.c (.bool false))))] [7, 8, 9, 10, 11, 12, 13, 14]) (.cond (.t 15) (.skip) (.exit 0))) (.seq (.block 1 (.seq (.seq (.region [ (oN 18 (.fldaddr 1 1 (.t 1))), (oN 19 (.load false 1 (.t 18))), (oN 20 (.mov (.t 3))), (oN 21 (.idx 2 (.t 19) (.t 20))), (oN 22 (.fldaddr 1 1 (.t 21))), (oN 23 (.load false 1 (.t 22))), (oN 24 (.len (.t 23))), (oN 25 (.bin .gtr (.t 24) (.c (.int .i64 8))))] [15, 18, 19, 20, 21, 22, 23, 24]) (.cond (.t 25) (.seq (.region [ (oN 2 (.mov (.c (.bool false))))] [1, 3, 25]) (.ret)) (.skip))) (.seq (.region [ (oN 4 (.mov (.c (.int .i64 0))))] [2, 25]) (.block 2 (.loop zkl))))) (zj5))
def zhf : ACode := .seq (.region [ (oN 70 (.fldaddr 1 1 (.t 1))), (oN 71 (.load false 1 (.t 70))), (oN 72 (.len (.t 71))), (oN 73 (.bin .leq (.t 72) (.c (.int .i64 12)))), (oN 2 (.mov (.t 73)))] [1, 3, 70, 71, 72, 73]) (.ret)
def zor : ACode := .seq (.region [ (oN 1 (.rbox (.t 0))), (oN 2 (.mov (.c (.bool false))))] [0, 2]) (.seq (.seq (.region [ (oN 3 (.mov (.c (.int .i64 0))))] []) (.block 0 (.loop zks))) (zhf))
def zec : List ARet := [.tmp 2]
theorem zt2 : zT Tryz.prog zkB (qRo [1]) = some (zor.strip, zec, 74) := by kernel_rfl
def zha : ACode := .seq (.seq (.region [ (oN 6 (.mov (.t 5))), (oN 7 (.mov (.t 0))), (oN 8 (.len (.t 7))), (oN 9 (.bin .lss (.t 6) (.t 8)))] [6, 7, 8]) (.cond (.t 9) (.skip) (.exit 0))) (.seq (.block 1 (.seq (.region [ (oN 12 (.mov (.t 0))), (oN 13 (.mov (.t 5))), (oN 14 (.idx 1 (.t 12) (.t 13))), (oN 15 (.load false 1 (.t 14))), (oN 16 (.mov (.t 1))), (oN 17 (.bin .eql (.t 15) (.t 16)))] [9, 12, 13, 14, 15, 16]) (.cond (.t 17) (.seq (.region [ (oN 4 (.mov (.c (.bool true))))] [0, 1, 5, 17]) (.ret)) (.skip)))) (.region [ (oN 10 (.mov (.t 5))), (oN 11 (.bin .add (.t 10) (.c (.int .i64 1)))), (oN 5 (.mov (.t 11)))] [4, 10, 11, 17]))
def zg8 : ACode := .seq (.region [ (oN 4 (.mov (.c (.bool false))))] [0, 1, 5]) (.ret)
def zla : ACode := .seq (.region [ (oN 4 (.mov (.c (.bool false))))] [4]) (.seq (.seq (.region [ (oN 5 (.mov (.c (.int .i64 0))))] []) (.block 0 (.loop zha))) (zg8))
def zgH : List ARet := [.tmp 4]
theorem zn7 : zT Tryz.prog zck (qRo []) = some (zla.strip, zgH, 18) := by kernel_rfl
def zf5 : ACode := .seq (.region [ (oN 2 (.rbox (.t 0))), (oN 3 (.rbox (.t 1))), (oN 4 (.mov (.c (.int .i64 0))))] [0, 1, 4]) (.seq (.seq (.region [ (oN 8 (.load true 2 (.t 3))), (oN 9 (.call zbl [(.t 8)])), (oN 5 (.mov (.t 9)))] [8, 9]) (.seq (.region [ (oN 10 (.mov (.t 5))), (oN 11 (.bin .neq (.t 10) (.c (.int .i64 0))))] [10]) (.cond (.t 11) (.seq (.region [ (oN 12 (.mov (.t 5))), (oN 4 (.mov (.t 12)))] [2, 3, 5, 11, 12]) (.ret)) (.skip)))) (.seq (.region [ (oN 13 (.load true 5 (.t 2))), (oN 14 (.call zci [(.t 13)])), (oN 6 (.mov (.t 14)))] [4, 5, 11, 13, 14]) (.seq (.seq (.region [ (oN 15 (.mov (.t 6))), (oN 16 (.call zy [(.t 15), (.c (.fn (.func zbV) []))]))] [15]) (.cond (.t 16) (.seq (.region [ (oN 4 (.mov (.c (.int .i64 2))))] [2, 3, 6, 16]) (.ret)) (.skip))) (.seq (.seq (.region [ (oN 17 (.mov (.t 6))), (oN 18 (.load true 2 (.t 3))), (oN 19 (.call zb6 [(.t 17), (.t 18)])), (oN 20 (.un .not (.t 19)))] [3, 4, 16, 17, 18, 19]) (.cond (.t 20) (.seq (.region [ (oN 4 (.mov (.c (.int .i64 18))))] [2, 6, 20]) (.ret)) (.skip))) (.seq (.seq (.region [ (oN 21 (.load true 5 (.t 2))), (oN 22 (.call zbn [(.t 21), (.c (.bool false))])), (oN 23 (.un .not (.t 22)))] [4, 20, 21, 22]) (.cond (.t 23) (.seq (.region [ (oN 4 (.mov (.c (.int .i64 21))))] [2, 6, 23]) (.ret)) (.skip))) (.seq (.region [ (oN 24 (.load true 5 (.t 2))), (oN 25 (.call zb3 [(.t 24)])), (oN 7 (.alloc [.nilsl])), ⟨none, .store 1 (.t 7) (.t 25), none⟩] [2, 4, 23, 24, 25]) (.seq (.seq (.region [ (oN 26 (.mov (.t 6))), (oN 27 (.mkfn (.func zbN) [(.t 7)])), (oN 28 (.call zy [(.t 26), (.t 27)]))] [6, 26, 27]) (.cond (.t 28) (.seq (.region [ (oN 4 (.mov (.c (.int .i64 9))))] [7, 28]) (.ret)) (.skip))) (.seq (.region [ (oN 29 (.load false 1 (.t 7))), (oN 30 (.call zch [(.t 29)]))] [4, 28, 29, 30]) (.seq (.seq (.draw ( .alt (oN 31 (.load false 1 (.t 7))) ( .alt (oN 32 (.call zB [(.t 31)])) ( .alt (oN 33 (.call zS [(.t 32)])) ( .step (oN 34 (.len (.t 33))) ( .step (oN 35 (.load false 1 (.t 7))) ( .step (oN 36 (.len (.t 35))) ( .step (oN 37 (.bin .lss (.t 34) (.t 36))) ( .done))))) ( .alt (oN 35 (.load false 1 (.t 7))) ( .step (oN 36 (.len (.t 35))) ( .alt (oN 33 (.call zS [(.t 32)])) ( .step (oN 34 (.len (.t 33))) ( .step (oN 37 (.bin .lss (.t 34) (.t 36))) ( .done))) ( .stop))) ( .stop))) ( .alt (oN 35 (.load false 1 (.t 7))) ( .step (oN 36 (.len (.t 35))) ( .alt (oN 32 (.call zB [(.t 31)])) ( .alt (oN 33 (.call zS [(.t 32)])) ( .step (oN 34 (.len (.t 33))) ( .step (oN 37 (.bin .lss (.t 34) (.t 36))) ( .done))) ( .stop)) ( .stop))) ( .stop))) ( .alt (oN 35 (.load false 1 (.t 7))) ( .step (oN 36 (.len (.t 35))) ( .alt (oN 31 (.load false 1 (.t 7))) ( .alt (oN 32 (.call zB [(.t 31)])) ( .alt (oN 33 (.call zS [(.t 32)])) ( .step (oN 34 (.len (.t 33))) ( .step (oN 37 (.bin .lss (.t 34) (.t 36))) ( .done))) ( .stop)) ( .stop)) ( .stop))) ( .stop))) [7, 31, 32, 33, 34, 35, 36]) (.cond (.t 37) (.seq (.region [ (oN 4 (.mov (.c (.int .i64 8))))] [37]) (.ret)) (.skip))) (.seq (.region [ (oN 4 (.mov (.c (.int .i64 0))))] [37]) (.ret)))))))))))
def zan : List ARet := [.tmp 4]
theorem zj2 : zT Tryz.prog zbc (qRoL [2, 3] [(15, [0, 3, 4, 5, 6, 7, 8, 9, 10, 11, 12, 13, 14, 15, 16, 17, 18, 19, 20, 21, 22, 23, 24, 25, 26, 27, 28, 29, 30, 31, 32, 33, 34, 35, 36, 37, 38, 39, 40, 41, 42, 43, 44, 45, 46, 47, 48, 49, 50, 51, 52, 53, 54, 55, 56, 57, 58, 59, 60, 61, 62, 63, 64, 65, 66, 67, 68, 69, 70, 71, 72, 73, 74, 75, 76, 77, 78, 79, 80, 81, 82, 83, 84, 85, 86, 87, 88, 89, 90, 91, 92, 93, 94, 95, 96, 97, 98, 99, 100, 101, 102, 103, 104, 105, 106, 107, 108, 109, 110, 111, 112, 113, 114, 115, 116, 117, 118, 119, 120, 121, 122, 123, 124, 125, 126, 127, 128, 129, 130, 131, 132, 133, 134, 135, 136, 137, 138, 139, 140, 141, 142, 143, 144, 145, 146, 147, 148, 149])]) = some (zf5.strip, zan, 38) := by kernel_rfl
def zin : ACode := .seq (.seq (.region [ (oN 28 (.mov (.t 8))), (oN 29 (.mov (.t 7))), (oN 30 (.len (.t 29))), (oN 31 (.bin .lss (.t 28) (.t 30)))] [28, 29, 30]) (.cond (.t 31) (.skip) (.exit 0))) (.seq (.block 1 (.seq (.region [ (oN 34 (.mov (.t 6))), (oN 35 (.mov (.t 7))), (oN 36 (.mov (.t 8))), (oN 37 (.idx 1 (.t 35) (.t 36))), (oN 38 (.load false 1 (.t 37))), (oN 39 (.call zck [(.t 34), (.t 38)])), (oN 40 (.un .not (.t 39)))] [31, 34, 35, 36, 37, 38, 39]) (.cond (.t 40) (.seq (.region [ (oN 4 (.mov (.c (.int .i64 9))))] [6, 7, 8, 40]) (.ret)) (.skip)))) (.region [ (oN 32 (.mov (.t 8))), (oN 33 (.bin .add (.t 32) (.c (.int .i64 1)))), (oN 8 (.mov (.t 33)))] [4, 32, 33, 40]))
def zil : ACode := .seq (.seq (.region [ (oN 41 (.mov (.t 9))), (oN 42 (.mov (.t 6))), (oN 43 (.len (.t 42))), (oN 44 (.bin .lss (.t 41) (.t 43)))] [41, 42, 43]) (.cond (.t 44) (.skip) (.exit 2))) (.seq (.block 3 (.seq (.draw ( .step (oN 47 (.mov (.t 6))) ( .step (oN 48 (.mov (.t 9))) ( .step (oN 49 (.slice 1 (.t 47) none (some (.t 48)))) ( .step (oN 50 (.mov (.t 6))) ( .step (oN 51 (.mov (.t 9))) ( .step (oN 52 (.idx 1 (.t 50) (.t 51))) ( .step (oN 53 (.load false 1 (.t 52))) ( .step (oN 54 (.callq zck [(.t 49), (.t 53)])) ( .done))))))))) [44, 47, 48, 49, 50, 51, 52, 53]) (.cond (.t 54) (.seq (.region [ (oN 4 (.mov (.c (.int .i64 8))))] [6, 9, 54]) (.ret)) (.skip)))) (.region [ (oN 45 (.mov (.t 9))), (oN 46 (.bin .add (.t 45) (.c (.int .i64 1)))), (oN 9 (.mov (.t 46)))] [4, 45, 46, 54]))
def zic : ACode := .seq (.region [ (oN 4 (.mov (.c (.int .i64 0))))] [6, 9]) (.ret)
def ziw : ACode := .seq (.seq (.region [ (oN 9 (.mov (.c (.int .i64 0))))] [7, 8]) (.block 2 (.loop zil))) (zic)
def zlE : ACode := .seq (.region [ (oN 2 (.rbox (.t 0))), (oN 3 (.rbox (.t 1))), (oN 4 (.mov (.c (.int .i64 0))))] [0, 1, 4]) (.seq (.region [ (oN 10 (.load true 2 (.t 3))), (oN 11 (.call zcZ [(.t 10)])), (oN 5 (.mov (.t 11)))] [10, 11]) (.seq (.seq (.region [ (oN 12 (.mov (.t 5))), (oN 13 (.bin .neq (.t 12) (.c (.int .i64 0))))] [12]) (.cond (.t 13) (.seq (.region [ (oN 14 (.mov (.t 5))), (oN 4 (.mov (.t 14)))] [2, 3, 5, 13, 14]) (.ret)) (.skip))) (.seq (.seq (.region [ (oN 15 (.load true 5 (.t 2))), (oN 16 (.call zei [(.t 15)])), (oN 17 (.un .not (.t 16)))] [4, 5, 13, 15, 16]) (.cond (.t 17) (.seq (.region [ (oN 4 (.mov (.c (.int .i64 2))))] [2, 3, 17]) (.ret)) (.skip))) (.seq (.seq (.region [ (oN 18 (.load true 5 (.t 2))), (oN 19 (.load true 2 (.t 3))), (oN 20 (.call zgj [(.t 18), (.t 19)])), (oN 21 (.un .not (.t 20)))] [3, 4, 17, 18, 19, 20]) (.cond (.t 21) (.seq (.region [ (oN 4 (.mov (.c (.int .i64 18))))] [2, 21]) (.ret)) (.skip))) (.seq (.seq (.region [ (oN 22 (.load true 5 (.t 2))), (oN 23 (.call zfh [(.t 22), (.c (.bool false))]))] [4, 21, 22]) (.cond (.t 23) (.seq (.region [ (oN 4 (.mov (.c (.int .i64 21))))] [2, 23]) (.ret)) (.skip))) (.seq (.draw ( .step (oN 24 (.load true 5 (.t 2))) ( .step (oN 25 (.callq zeq [(.t 24)])) ( .step (oN 26 (.load true 5 (.t 2))) ( .step (oN 27 (.callq zdF [(.t 26)])) ( .step (oN 6 (.mov (.t 25))) ( .step (oN 7 (.mov (.t 27))) ( .done))))))) [2, 4, 23, 24, 25, 26, 27]) (.seq (.seq (.region [ (oN 8 (.mov (.c (.int .i64 0))))] []) (.block 0 (.loop zin))) (ziw))))))))
def zbK : List ARet := [.tmp 4]
theorem zqm : zT Tryz.prog zhn (qRo [2, 3]) = some (zlE.strip, zbK, 55) := by kernel_rfl
def zaE : ACode := .seq (.region [ (oN 4 (.mov (.c (.bool false))))] [4]) (.seq (.region [ (oN 5 (.mov (.t 0))), (oN 6 (.mov (.t 1))), (oN 7 (.call zU [(.t 5), (.t 6)])), (oN 8 (.bin .geq (.t 7) (.c (.int .i64 0)))), (oN 4 (.mov (.t 8)))] [0, 1, 5, 6, 7, 8]) (.ret))
def zaO : List ARet := [.tmp 4]
theorem zce : zT Tryz.prog zy (qRo []) = some (zaE.strip, zaO, 9) := by kernel_rfl
def zeM : ACode := .seq (.region [ (oN 1 (.rbox (.t 0))), (oN 2 (.mov (.c (.bool false))))] [0, 2]) (.seq (.region [ (oN 3 (.load true 5 (.t 1))), (oN 4 (.call zC [(.t 3)])), (oN 5 (.un .not (.t 4))), (oN 2 (.mov (.t 5)))] [1, 3, 4, 5]) (.ret))
def zeX : List ARet := [.tmp 2]
theorem zja : zT Tryz.prog zbV (qRo [1]) = some (zeM.strip, zeX, 6) := by kernel_rfl
def zI : ACode := .seq (.region [ (oN 1 (.rbox (.t 0))), (oN 2 (.mov (.c (.bool false))))] [0, 2]) (.seq (.region [ (oN 7 (.fldaddr 0 1 (.t 1))), (oN 8 (.load false 1 (.t 7))), (oN 9 (.bin .eql (.t 8) (.c (.int .i64 2)))), (oN 10 (.mov (.t 9))), (oG 11 10 false (.fldaddr 0 1 (.t 1))), (oG 12 10 false (.load false 1 (.t 11))), (oG 13 10 false (.bin .eql (.t 12) (.c (.int .i64 5)))), (oN 14 (.pick (.t 10) (.c (.bool true)) (.t 13))), (oN 3 (.mov (.t 14)))] [7, 8, 9, 10, 11, 12, 13, 14]) (.seq (.region [ (oN 15 (.fldaddr 0 1 (.t 1))), (oN 16 (.load false 1 (.t 15))), (oN 17 (.bin .eql (.t 16) (.c (.int .i64 9)))), (oN 18 (.mov (.t 17))), (oG 19 18 false (.fldaddr 0 1 (.t 1))), (oG 20 18 false (.load false 1 (.t 19))), (oG 21 18 false (.bin .eql (.t 20) (.c (.int .i64 10)))), (oN 22 (.pick (.t 18) (.c (.bool true)) (.t 21))), (oN 4 (.mov (.t 22)))] [15, 16, 17, 18, 19, 20, 21, 22]) (.seq (.region [ (oN 5 (.mov (.c (.int .i64 0)))), (oN 6 (.mov (.c (.int .i64 0))))] []) (.seq (.seq (.region [ (oN 23 (.fldaddr 0 1 (.t 1))), (oN 24 (.load false 1 (.t 23)))] [23]) (.block 0 (.seq (.region [ (oN 26 (.bin .eql (.t 24) (.c (.int .i64 1)))), (oN 25 (.mov (.t 26)))] [26]) (.cond (.t 25) (.region [ (oN 27 (.fldaddr 4 1 (.t 1))), (oN 28 (.load false 1 (.t 27))), (oN 29 (.len (.t 28))), (oN 6 (.mov (.t 29)))] [24, 25, 27, 28, 29]) (.seq (.region [ (oN 31 (.bin .eql (.t 24) (.c (.int .i64 3)))), (oN 30 (.mov (.t 31)))] [25, 31]) (.cond (.t 30) (.region [ (oN 5 (.mov (.c (.int .i64 1)))), (oN 6 (.mov (.c (.int .i64 2))))] [24, 30]) (.seq (.region [ (oN 33 (.bin .eql (.t 24) (.c (.int .i64 4)))), (oN 32 (.mov (.t 33)))] [30, 33]) (.cond (.t 32) (.region [ (oN 6 (.mov (.c (.int .i64 1))))] [24, 32]) (.seq (.region [ (oN 35 (.bin .eql (.t 24) (.c (.int .i64 5)))), (oN 34 (.mov (.t 35)))] [32, 35]) (.cond (.t 34) (.region [ (oN 5 (.mov (.c (.int .i64 1)))), (oN 6 (.mov (.c (.int .i64 1))))] [24, 34]) (.seq (.region [ (oN 37 (.bin .eql (.t 24) (.c (.int .i64 6)))), (oN 36 (.mov (.t 37)))] [24, 34, 37]) (.cond (.t 36) (.draw ( .step (oN 38 (.fldaddr 4 1 (.t 1))) ( .step (oN 39 (.load false 1 (.t 38))) ( .step (oN 40 (.len (.t 39))) ( .step (oN 41 (.xop .max [(.t 40), (.c (.int .i64 1))])) ( .step (oN 42 (.xop .min [(.t 41), (.c (.int .i64 64))])) ( .step (oN 5 (.mov (.c (.int .i64 1)))) ( .step (oN 6 (.mov (.t 42))) ( .done)))))))) [36, 38, 39, 40, 41, 42]) (.skip))))))))))))) (.seq (.seq (.region [ (oN 43 (.fldaddr 0 1 (.t 1))), (oN 44 (.load false 1 (.t 43))), (oN 45 (.bin .lss (.t 44) (.c (.int .i64 1)))), (oN 46 (.mov (.t 45))), (oG 47 46 false (.fldaddr 0 1 (.t 1))), (oG 48 46 false (.load false 1 (.t 47))), (oG 49 46 false (.bin .gtr (.t 48) (.c (.int .i64 12)))), (oN 50 (.pick (.t 46) (.c (.bool true)) (.t 49))), (oN 51 (.mov (.t 50))), (oG 52 51 false (.fldaddr 3 1 (.t 1))), (oG 53 51 false (.load false 1 (.t 52))), (oG 54 51 false (.len (.t 53))), (oG 55 51 false (.mov (.t 5))), (oG 56 51 false (.bin .neq (.t 54) (.t 55))), (oN 57 (.pick (.t 51) (.c (.bool true)) (.t 56))), (oN 58 (.mov (.t 57))), (oG 59 58 false (.fldaddr 4 1 (.t 1))), (oG 60 58 false (.load false 1 (.t 59))), (oG 61 58 false (.len (.t 60))), (oG 62 58 false (.mov (.t 6))), (oG 63 58 false (.bin .neq (.t 61) (.t 62))), (oN 64 (.pick (.t 58) (.c (.bool true)) (.t 63))), (oN 65 (.mov (.t 64))), (oG 66 65 false (.mov (.t 3))), (oG 67 65 false (.un .not (.t 66))), (oG 68 65 false (.mov (.t 67))), (oG 69 68 true (.fldaddr 1 1 (.t 1))), (oG 70 68 true (.load false 1 (.t 69))), (oG 71 68 true (.bin .neq (.t 70) (.c (.int .i64 0)))), (oG 72 65 false (.pick (.t 68) (.t 71) (.c (.bool false)))), (oN 73 (.pick (.t 65) (.c (.bool true)) (.t 72))), (oN 74 (.mov (.t 73))), (oG 75 74 false (.mov (.t 4))), (oG 76 74 false (.un .not (.t 75))), (oG 77 74 false (.mov (.t 76))), (oG 78 77 true (.fldaddr 2 1 (.t 1))), (oG 79 77 true (.load false 1 (.t 78))), (oG 80 77 true (.bin .neq (.t 79) (.c (.int .i64 0)))), (oG 81 74 false (.pick (.t 77) (.t 80) (.c (.bool false)))), (oN 82 (.pick (.t 74) (.c (.bool true)) (.t 81))), (oN 83 (.mov (.t 82))), (oG 84 83 false (.fldaddr 2 1 (.t 1))), (oG 85 83 false (.load false 1 (.t 84))), (oG 86 83 false (.bin .lss (.t 85) (.c (.int .i64 0)))), (oN 87 (.pick (.t 83) (.c (.bool true)) (.t 86)))] [3, 4, 6, 36, 43, 44, 45, 46, 47, 48, 49, 50, 51, 52, 53, 54, 55, 56, 57, 58, 59, 60, 61, 62, 63, 64, 65, 66, 67, 68, 69, 70, 71, 72, 73, 74, 75, 76, 77, 78, 79, 80, 81, 82, 83, 84, 85, 86]) (.cond (.t 87) (.seq (.region [ (oN 2 (.mov (.c (.bool false))))] [1, 5, 87]) (.ret)) (.skip))) (.seq (.region [ (oN 88 (.mov (.t 5))), (oN 89 (.bin .eql (.t 88) (.c (.int .i64 0)))), (oN 90 (.mov (.t 89))), (oG 91 90 false (.fldaddr 3 1 (.t 1))), (oG 92 90 false (.load false 1 (.t 91))), (oG 93 90 false (.idx 5 (.t 92) (.c (.int .i64 0)))), (oG 94 90 false (.load true 5 (.t 93))), (oG 95 90 false (.call zcR [(.t 94)])), (oG 96 90 false (.bin .eql (.t 95) (.c (.int .i64 0)))), (oN 97 (.pick (.t 90) (.c (.bool true)) (.t 96))), (oN 2 (.mov (.t 97)))] [1, 5, 87, 88, 89, 90, 91, 92, 93, 94, 95, 96, 97]) (.ret)))))))
def zc : List ARet := [.tmp 2]
theorem zL : zT Tryz.prog zC (qRo [1]) = some (zI.strip, zc, 98) := by kernel_rfl
def zdO : ACode := .seq (.region [ (oN 19 (.bin .lss (.t 18) (.t 17)))] []) (.seq (.cond (.t 19) (.skip) (.exit 0)) (.seq (.block 1 (.seq (.region [ (oN 20 (.idx 5 (.t 16) (.t 18))), (oN 21 (.load true 5 (.t 20))), (oN 8 (.alloc [.int .i64 0, .int .i64 0, .int .i64 0, .nilsl, .nilsl])), ⟨none, .store 5 (.t 8) (.t 21), none⟩] [19, 20, 21]) (.seq (.seq (.region [ (oN 22 (.fldaddr 0 1 (.t 8))), (oN 23 (.load false 1 (.t 22))), (oN 24 (.bin .neq (.t 23) (.c (.int .i64 2)))), (oN 25 (.mov (.t 24))), (oG 26 25 true (.fldaddr 0 1 (.t 8))), (oG 27 25 true (.load false 1 (.t 26))), (oG 28 25 true (.bin .neq (.t 27) (.c (.int .i64 5)))), (oN 29 (.pick (.t 25) (.t 28) (.c (.bool false))))] [22, 23, 24, 25, 26, 27, 28]) (.cond (.t 29) (.exit 1) (.skip))) (.seq (.seq (.region [ (oN 30 (.fldaddr 1 1 (.t 8))), (oN 31 (.load false 1 (.t 30))), (oN 32 (.bin .lss (.t 31) (.c (.int .i64 0)))), (oN 33 (.mov (.t 32))), (oG 34 33 false (.fldaddr 1 1 (.t 8))), (oG 35 33 false (.load false 1 (.t 34))), (oG 36 33 false (.mov (.t 5))), (oG 37 33 false (.len (.t 36))), (oG 38 33 false (.bin .geq (.t 35) (.t 37))), (oN 39 (.pick (.t 33) (.c (.bool true)) (.t 38))), (oN 40 (.mov (.t 39))), (oG 41 40 false (.mov (.t 5))), (oG 42 40 false (.fldaddr 1 1 (.t 8))), (oG 43 40 false (.load false 1 (.t 42))), (oG 44 40 false (.idx 1 (.t 41) (.t 43))), (oG 45 40 false (.load false 1 (.t 44))), (oG 46 40 false (.un .not (.t 45))), (oN 47 (.pick (.t 40) (.c (.bool true)) (.t 46)))] [29, 30, 31, 32, 33, 34, 35, 36, 37, 38, 39, 40, 41, 42, 43, 44, 45, 46]) (.cond (.t 47) (.seq (.region [ (oN 4 (.mov (.c (.bool false))))] [3, 5, 6, 8, 16, 17, 18, 47]) (.ret)) (.skip))) (.seq (.seq (.region [ (oN 48 (.fldaddr 0 1 (.t 8))), (oN 49 (.load false 1 (.t 48))), (oN 50 (.bin .eql (.t 49) (.c (.int .i64 5)))), (oN 51 (.mov (.t 50))), (oG 52 51 true (.fldaddr 1 1 (.t 3))), (oG 53 51 true (.load false 1 (.t 52))), (oG 54 51 true (.fldaddr 1 1 (.t 8))), (oG 55 51 true (.load false 1 (.t 54))), (oG 56 51 true (.idx 2 (.t 53) (.t 55))), (oG 57 51 true (.fldaddr 1 1 (.t 56))), (oG 58 51 true (.load false 1 (.t 57))), (oG 59 51 true (.len (.t 58))), (oG 60 51 true (.bin .gtr (.t 59) (.c (.int .i64 1)))), (oN 61 (.pick (.t 51) (.t 60) (.c (.bool false))))] [4, 47, 48, 49, 50, 51, 52, 53, 54, 55, 56, 57, 58, 59, 60]) (.cond (.t 61) (.seq (.region [ (oN 4 (.mov (.c (.bool false))))] [3, 5, 6, 8, 16, 17, 18, 61]) (.ret)) (.skip))) (.region [ (oN 62 (.mov (.t 6))), (oN 63 (.fldaddr 1 1 (.t 8))), (oN 64 (.load false 1 (.t 63))), (oN 65 (.idx 1 (.t 62) (.t 64))), (oN 66 (.load false 1 (.t 65))), (oN 67 (.bin .add (.t 66) (.c (.int .i64 1)))), (oN 68 (.idx 1 (.t 62) (.t 64))), ⟨none, .store 1 (.t 68) (.t 67), none⟩] [4, 8, 61, 62, 63, 64, 65, 66, 67, 68])))))) (.region [ (oN 69 (.bin .add (.t 18) (.c (.int .i64 1)))), (oN 18 (.mov (.t 69)))] [69])))
def zd1 : ACode := .seq (.region [ (oN 73 (.bin .lss (.t 72) (.t 71)))] []) (.seq (.cond (.t 73) (.skip) (.exit 2)) (.seq (.block 3 (.seq (.region [ (oN 74 (.mov (.t 72))), (oN 75 (.idx 1 (.t 70) (.t 72))), (oN 76 (.load false 1 (.t 75))), (oN 9 (.mov (.t 74))), (oN 10 (.mov (.t 76)))] [73, 74, 75, 76]) (.seq (.region [ (oN 77 (.mov (.t 10))), (oN 78 (.mov (.t 77))), (oG 79 78 true (.mov (.t 6))), (oG 80 78 true (.mov (.t 9))), (oG 81 78 true (.idx 1 (.t 79) (.t 80))), (oG 82 78 true (.load false 1 (.t 81))), (oG 83 78 true (.bin .neq (.t 82) (.c (.int .i64 1)))), (oN 84 (.pick (.t 78) (.t 83) (.c (.bool false))))] [9, 10, 77, 78, 79, 80, 81, 82, 83]) (.cond (.t 84) (.seq (.region [ (oN 4 (.mov (.c (.bool false))))] [6, 70, 71, 72, 84]) (.ret)) (.skip))))) (.region [ (oN 85 (.bin .add (.t 72) (.c (.int .i64 1)))), (oN 72 (.mov (.t 85)))] [4, 84, 85])))
def zdV : ACode := .seq (.region [ (oN 4 (.mov (.c (.bool true))))] [6, 70, 71, 72]) (.ret)
def zdQ : ACode := .seq (.seq (.region [ (oN 70 (.mov (.t 5))), (oN 71 (.len (.t 70))), (oN 72 (.mov (.c (.int .i64 0))))] [3, 5, 16, 17, 18]) (.block 2 (.loop zd1))) (zdV)
def zfF : ACode := .seq (.region [ (oN 3 (.rbox (.t 1))), (oN 4 (.mov (.c (.bool false))))] [1, 4]) (.seq (.region [ (oN 11 (.load true 2 (.t 3))), (oN 12 (.call zbv [(.t 11)])), (oN 5 (.mov (.t 12)))] [11, 12]) (.seq (.region [ (oN 13 (.mov (.t 5))), (oN 14 (.len (.t 13))), (oN 15 (.mksl 1 8 [.int .i64 0] (.t 14) (.t 14))), (oN 6 (.mov (.t 15)))] [13, 14, 15]) (.seq (.seq (.region [ (oN 16 (.mov (.t 0))), (oN 17 (.len (.t 16))), (oN 18 (.mov (.c (.int .i64 0))))] [0]) (.block 0 (.loop zdO))) (zdQ))))
def zQ : List ARet := [.tmp 4]
theorem zjP : zT Tryz.prog zb6 (qRo [3]) = some (zfF.strip, zQ, 86) := by kernel_rfl
def zeK : ACode := .seq (.region [ (oN 2 (.rbox (.t 0))), (oN 3 (.box (.t 1))), (oN 4 (.mov (.c (.bool false))))] [0, 1, 4]) (.seq (.seq (.region [ (oN 5 (.fldaddr 0 1 (.t 2))), (oN 6 (.load false 1 (.t 5))), (oN 7 (.bin .eql (.t 6) (.c (.int .i64 7)))), (oN 8 (.mov (.t 7))), (oG 9 8 false (.fldaddr 0 1 (.t 2))), (oG 10 8 false (.load false 1 (.t 9))), (oG 11 8 false (.bin .eql (.t 10) (.c (.int .i64 8)))), (oN 12 (.pick (.t 8) (.c (.bool true)) (.t 11))), (oN 13 (.mov (.t 12))), (oG 14 13 true (.load false 1 (.t 3))), (oG 15 13 true (.un .not (.t 14))), (oN 16 (.pick (.t 13) (.t 15) (.c (.bool false))))] [5, 6, 7, 8, 9, 10, 11, 12, 13, 14, 15]) (.cond (.t 16) (.seq (.region [ (oN 4 (.mov (.c (.bool false))))] [2, 3, 16]) (.ret)) (.skip))) (.seq (.region [ (oN 17 (.load false 1 (.t 3))), (oN 18 (.mov (.t 17))), (oG 19 18 false (.fldaddr 0 1 (.t 2))), (oG 20 18 false (.load false 1 (.t 19))), (oG 21 18 false (.bin .eql (.t 20) (.c (.int .i64 4)))), (oN 22 (.pick (.t 18) (.c (.bool true)) (.t 21))), (oN 23 (.mov (.t 22))), (oG 24 23 false (.fldaddr 0 1 (.t 2))), (oG 25 23 false (.load false 1 (.t 24))), (oG 26 23 false (.bin .eql (.t 25) (.c (.int .i64 5)))), (oN 27 (.pick (.t 23) (.c (.bool true)) (.t 26))), ⟨none, .store 1 (.t 3) (.t 27), none⟩] [4, 16, 17, 18, 19, 20, 21, 22, 23, 24, 25, 26, 27]) (.seq (.region [ (oN 28 (.fldaddr 4 1 (.t 2))), (oN 29 (.load false 1 (.t 28))), (oN 30 (.mkfn (.func zaW) [(.t 3)])), (oN 31 (.call zy [(.t 29), (.t 30)])), (oN 32 (.un .not (.t 31))), (oN 4 (.mov (.t 32)))] [2, 3, 28, 29, 30, 31, 32]) (.ret))))
def zA : List ARet := [.tmp 4]
theorem zjd : zT Tryz.prog zbn (qRo [2]) = some (zeK.strip, zA, 33) := by kernel_rfl
def zeT : ACode := .seq (.region [ (oN 2 (.rbox (.t 0))), (oN 3 (.mov (.c (.bool false))))] [0, 3]) (.seq (.region [ (oN 4 (.fldaddr 0 1 (.t 2))), (oN 5 (.load false 1 (.t 4))), (oN 6 (.bin .eql (.t 5) (.c (.int .i64 9)))), (oN 7 (.mov (.t 6))), (oG 8 7 true (.load false 1 (.t 1))), (oG 9 7 true (.fldaddr 2 1 (.t 2))), (oG 10 7 true (.load false 1 (.t 9))), (oG 11 7 true (.call zaS [(.t 8), (.t 10)])), (oG 12 7 true (.un .not (.t 11))), (oN 13 (.pick (.t 7) (.t 12) (.c (.bool false)))), (oN 3 (.mov (.t 13)))] [1, 2, 4, 5, 6, 7, 8, 9, 10, 11, 12, 13]) (.ret))
def zcI : List ARet := [.tmp 3]
theorem zi8 : zT Tryz.prog zbN (qRo [2]) = some (zeT.strip, zcI, 14) := by kernel_rfl
def zcB : ACode := .seq (.region [ (oN 4 (.mov (.c (.bool false))))] [4]) (.seq (.region [ (oN 5 (.mov (.t 0))), (oN 6 (.mov (.t 1))), (oN 7 (.call zbo [(.t 5), (.t 6)])), (oN 8 (.bin .geq (.t 7) (.c (.int .i64 0)))), (oN 4 (.mov (.t 8)))] [0, 1, 5, 6, 7, 8]) (.ret))
def zcE : List ARet := [.tmp 4]
theorem zfU : zT Tryz.prog zaS (qRo []) = some (zcB.strip, zcE, 9) := by kernel_rfl
def zb7 : ACode := .seq (.seq (.region [ (oN 29 (.mov (.t 5))), (oN 30 (.mov (.t 4))), (oN 31 (.len (.t 30))), (oN 32 (.bin .lss (.t 29) (.t 31)))] [29, 30, 31]) (.cond (.t 32) (.skip) (.exit 2))) (.seq (.block 3 (.seq (.draw ( .step (oN 35 (.mov (.t 4))) ( .step (oN 36 (.mov (.t 5))) ( .step (oN 37 (.idx 1 (.t 35) (.t 36))) ( .step (oN 38 (.load false 1 (.t 37))) ( .step (oN 39 (.mov (.t 4))) ( .step (oN 40 (.mov (.t 5))) ( .step (oN 41 (.bin .sub (.t 40) (.c (.int .i64 1)))) ( .step (oN 42 (.idx 1 (.t 39) (.t 41))) ( .step (oN 43 (.load false 1 (.t 42))) ( .step (oN 44 (.bin .neq (.t 38) (.t 43))) ( .done))))))))))) [32, 35, 36, 37, 38, 39, 40, 41, 42, 43]) (.cond (.t 44) (.seq (.region [ (oN 45 (.mov (.t 0))), (oN 46 (.mov (.t 3))), (oN 47 (.mov (.t 4))), (oN 48 (.mov (.t 5))), (oN 49 (.idx 1 (.t 47) (.t 48))), (oN 50 (.load false 1 (.t 49))), (oN 51 (.idx 1 (.t 45) (.t 46))), ⟨none, .store 1 (.t 51) (.t 50), none⟩] [44, 45, 46, 47, 48, 49, 50, 51]) (.region [ (oN 52 (.mov (.t 3))), (oN 53 (.bin .add (.t 52) (.c (.int .i64 1)))), (oN 3 (.mov (.t 53)))] [52, 53])) (.skip)))) (.region [ (oN 33 (.mov (.t 5))), (oN 34 (.bin .add (.t 33) (.c (.int .i64 1)))), (oN 5 (.mov (.t 34)))] [33, 34, 44]))
def zca : ACode := .seq (.region [ (oN 54 (.mov (.t 0))), (oN 55 (.mov (.t 3))), (oN 56 (.slice 1 (.t 54) (some (.t 55)) none)), ⟨none, .clear 1 [.int .i64 0] (.t 56), none⟩] [4, 5, 54, 55, 56]) (.seq (.region [ (oN 57 (.mov (.t 0))), (oN 58 (.mov (.t 3))), (oN 59 (.slice 1 (.t 57) none (some (.t 58)))), (oN 2 (.mov (.t 59)))] [0, 3, 57, 58, 59]) (.ret))
def zb9 : ACode := .region [ (oN 14 (.mov (.t 3))), (oN 15 (.bin .add (.t 14) (.c (.int .i64 1)))), (oN 3 (.mov (.t 15)))] [2, 14, 15, 25]
def zb5 : ACode := .seq (.seq (.region [ (oN 10 (.mov (.t 3))), (oN 11 (.mov (.t 0))), (oN 12 (.len (.t 11))), (oN 13 (.bin .lss (.t 10) (.t 12)))] [10, 11, 12]) (.cond (.t 13) (.skip) (.exit 0))) (.seq (.block 1 (.seq (.draw ( .step (oN 16 (.mov (.t 0))) ( .step (oN 17 (.mov (.t 3))) ( .step (oN 18 (.idx 1 (.t 16) (.t 17))) ( .step (oN 19 (.load false 1 (.t 18))) ( .step (oN 20 (.mov (.t 0))) ( .step (oN 21 (.mov (.t 3))) ( .step (oN 22 (.bin .sub (.t 21) (.c (.int .i64 1)))) ( .step (oN 23 (.idx 1 (.t 20) (.t 22))) ( .step (oN 24 (.load false 1 (.t 23))) ( .step (oN 25 (.bin .eql (.t 19) (.t 24))) ( .done))))))))))) [13, 16, 17, 18, 19, 20, 21, 22, 23, 24]) (.cond (.t 25) (.seq (.region [ (oN 26 (.mov (.t 0))), (oN 27 (.mov (.t 3))), (oN 28 (.slice 1 (.t 26) (some (.t 27)) none)), (oN 4 (.mov (.t 28)))] [25, 26, 27, 28]) (.seq (.seq (.region [ (oN 5 (.mov (.c (.int .i64 1))))] []) (.block 2 (.loop zb7))) (zca))) (.skip)))) (zb9))
def zb4 : ACode := .seq (.region [ (oN 60 (.mov (.t 0))), (oN 2 (.mov (.t 60)))] [0, 3, 60]) (.ret)
def zcX : ACode := .seq (.region [ (oN 2 (.mknil 1))] [2]) (.seq (.seq (.region [ (oN 6 (.mov (.t 0))), (oN 7 (.len (.t 6))), (oN 8 (.bin .lss (.t 7) (.c (.int .i64 2))))] [6, 7]) (.cond (.t 8) (.seq (.region [ (oN 9 (.mov (.t 0))), (oN 2 (.mov (.t 9)))] [0, 8, 9]) (.ret)) (.skip))) (.seq (.seq (.region [ (oN 3 (.mov (.c (.int .i64 1))))] [2, 8]) (.block 0 (.loop zb5))) (zb4)))
def zaR : List ARet := [.tmp 2]
theorem zgp : zT Tryz.prog zS (qRo []) = some (zcX.strip, zaR, 61) := by kernel_rfl
def zgw : ACode := .seq (.seq (.region [ (oN 11 (.mov (.t 4))), (oN 12 (.fldaddr 4 1 (.t 1))), (oN 13 (.load false 1 (.t 12))), (oN 14 (.len (.t 13))), (oN 15 (.bin .lss (.t 11) (.t 14)))] [11, 12, 13, 14]) (.cond (.t 15) (.skip) (.exit 0))) (.seq (.block 1 (.region [ (oN 18 (.mov (.t 3))), (oN 19 (.fldaddr 4 1 (.t 1))), (oN 20 (.load false 1 (.t 19))), (oN 21 (.mov (.t 4))), (oN 22 (.idx 5 (.t 20) (.t 21))), (oN 23 (.load true 5 (.t 22))), (oN 24 (.call zdF [(.t 23)])), (oN 25 (.append 1 8 (.t 18) (.t 24))), (oN 3 (.mov (.t 25)))] [15, 18, 19, 20, 21, 22, 23, 24, 25])) (.region [ (oN 16 (.mov (.t 4))), (oN 17 (.bin .add (.t 16) (.c (.int .i64 1)))), (oN 4 (.mov (.t 17)))] [16, 17]))
def zgz : ACode := .seq (.region [ (oN 26 (.mov (.t 3))), (oN 2 (.mov (.t 26)))] [1, 3, 4, 26]) (.ret)
def zjz : ACode := .seq (.region [ (oN 1 (.rbox (.t 0))), (oN 2 (.mknil 1))] [0, 2]) (.seq (.seq (.region [ (oN 5 (.fldaddr 0 1 (.t 1))), (oN 6 (.load false 1 (.t 5))), (oN 7 (.bin .eql (.t 6) (.c (.int .i64 9))))] [5, 6]) (.cond (.t 7) (.seq (.region [ (oN 8 (.fldaddr 2 1 (.t 1))), (oN 9 (.load false 1 (.t 8))), (oN 10 (.buildSl 1 1 [.int .i64 0] [(0, (.t 9))])), (oN 2 (.mov (.t 10)))] [1, 7, 8, 9, 10]) (.ret)) (.skip))) (.seq (.region [ (oN 3 (.mknil 1))] [2, 7]) (.seq (.seq (.region [ (oN 4 (.mov (.c (.int .i64 0))))] []) (.block 0 (.loop zgw))) (zgz))))
def zgo : List ARet := [.tmp 2]
theorem znU : zT Tryz.prog zdF (qRo [1]) = some (zjz.strip, zgo, 27) := by kernel_rfl
def zhT : ACode := .seq (.seq (.region [ (oN 4 (.mov (.t 3))), (oN 5 (.fldaddr 4 1 (.t 1))), (oN 6 (.load false 1 (.t 5))), (oN 7 (.len (.t 6))), (oN 8 (.bin .lss (.t 4) (.t 7)))] [4, 5, 6, 7]) (.cond (.t 8) (.skip) (.exit 0))) (.seq (.block 1 (.seq (.region [ (oN 11 (.fldaddr 4 1 (.t 1))), (oN 12 (.load false 1 (.t 11))), (oN 13 (.mov (.t 3))), (oN 14 (.idx 5 (.t 12) (.t 13))), (oN 15 (.load true 5 (.t 14))), (oN 16 (.call zei [(.t 15)])), (oN 17 (.un .not (.t 16)))] [8, 11, 12, 13, 14, 15, 16]) (.cond (.t 17) (.seq (.region [ (oN 2 (.mov (.c (.bool false))))] [1, 3, 17]) (.ret)) (.skip)))) (.region [ (oN 9 (.mov (.t 3))), (oN 10 (.bin .add (.t 9) (.c (.int .i64 1)))), (oN 3 (.mov (.t 10)))] [2, 9, 10, 17]))
def zhH : ACode := .seq (.region [ (oN 18 (.load true 5 (.t 1))), (oN 19 (.call zP [(.t 18)])), (oN 2 (.mov (.t 19)))] [1, 3, 18, 19]) (.ret)
def zkw : ACode := .seq (.region [ (oN 1 (.rbox (.t 0))), (oN 2 (.mov (.c (.bool false))))] [0, 2]) (.seq (.seq (.region [ (oN 3 (.mov (.c (.int .i64 0))))] []) (.block 0 (.loop zhT))) (zhH))
def zhs : List ARet := [.tmp 2]
theorem zoC : zT Tryz.prog zei (qRo [1]) = some (zkw.strip, zhs, 20) := by kernel_rfl
def zhC : ACode := .seq (.seq (.region [ (oN 12 (.mov (.t 7))), (oN 13 (.mov (.t 5))), (oN 14 (.len (.t 13))), (oN 15 (.bin .lss (.t 12) (.t 14)))] [12, 13, 14]) (.cond (.t 15) (.skip) (.exit 0))) (.seq (.block 1 (.seq (.draw ( .step (oN 18 (.mov (.t 6))) ( .step (oN 19 (.mov (.t 5))) ( .step (oN 20 (.mov (.t 7))) ( .step (oN 21 (.idx 1 (.t 19) (.t 20))) ( .step (oN 22 (.load false 1 (.t 21))) ( .step (oN 23 (.callq zck [(.t 18), (.t 22)])) ( .step (oN 24 (.un .not (.t 23))) ( .step (oN 25 (.mov (.t 24))) ( .step (oG 26 25 false (.mov (.t 5))) ( .step (oG 27 25 false (.mov (.t 7))) ( .step (oG 28 25 false (.slice 1 (.t 26) none (some (.t 27)))) ( .step (oG 29 25 false (.mov (.t 5))) ( .step (oG 30 25 false (.mov (.t 7))) ( .step (oG 31 25 false (.idx 1 (.t 29) (.t 30))) ( .step (oG 32 25 false (.load false 1 (.t 31))) ( .step (oG 33 25 false (.callq zck [(.t 28), (.t 32)])) ( .step (oN 34 (.pick (.t 25) (.c (.bool true)) (.t 33))) ( .done)))))))))))))))))) [15, 18, 19, 20, 21, 22, 23, 24, 25, 26, 27, 28, 29, 30, 31, 32, 33]) (.cond (.t 34) (.seq (.region [ (oN 4 (.mov (.c (.bool false))))] [2, 3, 5, 6, 7, 34]) (.ret)) (.skip)))) (.region [ (oN 16 (.mov (.t 7))), (oN 17 (.bin .add (.t 16) (.c (.int .i64 1)))), (oN 7 (.mov (.t 17)))] [4, 16, 17, 34]))
def zhR : ACode := .seq (.region [ (oN 35 (.mov (.t 5))), (oN 36 (.len (.t 35))), (oN 37 (.mov (.t 6))), (oN 38 (.len (.t 37))), (oN 39 (.bin .eql (.t 36) (.t 38))), (oN 40 (.mov (.t 39))), (oG 41 40 true (.load true 5 (.t 2))), (oG 42 40 true (.load true 2 (.t 3))), (oG 43 40 true (.call zeu [(.t 41), (.t 42)])), (oN 44 (.pick (.t 40) (.t 43) (.c (.bool false)))), (oN 4 (.mov (.t 44)))] [2, 3, 5, 6, 7, 35, 36, 37, 38, 39, 40, 41, 42, 43, 44]) (.ret)
def zkQ : ACode := .seq (.region [ (oN 2 (.rbox (.t 0))), (oN 3 (.rbox (.t 1))), (oN 4 (.mov (.c (.bool false))))] [0, 1, 4]) (.seq (.draw ( .step (oN 8 (.load true 5 (.t 2))) ( .step (oN 9 (.callq zek [(.t 8)])) ( .step (oN 10 (.load true 2 (.t 3))) ( .step (oN 11 (.callq zg7 [(.t 10)])) ( .step (oN 5 (.mov (.t 9))) ( .step (oN 6 (.mov (.t 11))) ( .done))))))) [8, 9, 10, 11]) (.seq (.seq (.region [ (oN 7 (.mov (.c (.int .i64 0))))] []) (.block 0 (.loop zhC))) (zhR)))
def zdE : List ARet := [.tmp 4]
theorem zoU : zT Tryz.prog zgj (qRo [2, 3]) = some (zkQ.strip, zdE, 45) := by kernel_rfl
def zfJ : ACode := .seq (.seq (.region [ (oN 18 (.mov (.t 5))), (oN 19 (.fldaddr 4 1 (.t 2))), (oN 20 (.load false 1 (.t 19))), (oN 21 (.len (.t 20))), (oN 22 (.bin .lss (.t 18) (.t 21)))] [18, 19, 20, 21]) (.cond (.t 22) (.skip) (.exit 0))) (.seq (.block 1 (.seq (.draw ( .step (oN 25 (.fldaddr 4 1 (.t 2))) ( .step (oN 26 (.load false 1 (.t 25))) ( .step (oN 27 (.mov (.t 5))) ( .step (oN 28 (.idx 5 (.t 26) (.t 27))) ( .step (oN 29 (.load true 5 (.t 28))) ( .step (oN 30 (.mov (.t 1))) ( .step (oN 31 (.mov (.t 30))) ( .step (oG 32 31 false (.fldaddr 0 1 (.t 2))) ( .step (oG 33 31 false (.load false 1 (.t 32))) ( .step (oG 34 31 false (.bin .eql (.t 33) (.c (.int .i64 4)))) ( .step (oN 35 (.pick (.t 31) (.c (.bool true)) (.t 34))) ( .step (oN 36 (.mov (.t 35))) ( .step (oG 37 36 false (.fldaddr 0 1 (.t 2))) ( .step (oG 38 36 false (.load false 1 (.t 37))) ( .step (oG 39 36 false (.bin .eql (.t 38) (.c (.int .i64 5)))) ( .step (oN 40 (.pick (.t 36) (.c (.bool true)) (.t 39))) ( .step (oN 41 (.callq zfh [(.t 29), (.t 40)])) ( .done)))))))))))))))))) [22, 25, 26, 27, 28, 29, 30, 31, 32, 33, 34, 35, 36, 37, 38, 39, 40]) (.cond (.t 41) (.seq (.region [ (oN 4 (.mov (.c (.bool true))))] [1, 2, 5, 41]) (.ret)) (.skip)))) (.region [ (oN 23 (.mov (.t 5))), (oN 24 (.bin .add (.t 23) (.c (.int .i64 1)))), (oN 5 (.mov (.t 24)))] [4, 23, 24, 41]))
def zfo : ACode := .seq (.region [ (oN 4 (.mov (.c (.bool false))))] [1, 2, 5]) (.ret)
def zlp : ACode := .seq (.region [ (oN 2 (.rbox (.t 0))), (oN 4 (.mov (.c (.bool false))))] [0, 4]) (.seq (.seq (.region [ (oN 6 (.fldaddr 0 1 (.t 2))), (oN 7 (.load false 1 (.t 6))), (oN 8 (.bin .eql (.t 7) (.c (.int .i64 7)))), (oN 9 (.mov (.t 8))), (oG 10 9 false (.fldaddr 0 1 (.t 2))), (oG 11 9 false (.load false 1 (.t 10))), (oG 12 9 false (.bin .eql (.t 11) (.c (.int .i64 8)))), (oN 13 (.pick (.t 9) (.c (.bool true)) (.t 12))), (oN 14 (.mov (.t 13))), (oG 15 14 true (.mov (.t 1))), (oG 16 14 true (.un .not (.t 15))), (oN 17 (.pick (.t 14) (.t 16) (.c (.bool false))))] [6, 7, 8, 9, 10, 11, 12, 13, 14, 15, 16]) (.cond (.t 17) (.seq (.region [ (oN 4 (.mov (.c (.bool true))))] [1, 2, 17]) (.ret)) (.skip))) (.seq (.seq (.region [ (oN 5 (.mov (.c (.int .i64 0))))] [4, 17]) (.block 0 (.loop zfJ))) (zfo)))
def zbw : List ARet := [.tmp 4]
theorem zqV : zT Tryz.prog zfh (qRo [2]) = some (zlp.strip, zbw, 42) := by kernel_rfl
def zaI : ACode := .seq (.region [ (oN 9 (.bin .lss (.t 8) (.t 7)))] []) (.seq (.cond (.t 9) (.skip) (.exit 0)) (.seq (.block 1 (.seq (.region [ (oN 10 (.mov (.t 8))), (oN 5 (.mov (.t 10)))] [9, 10]) (.seq (.region [ (oN 11 (.mov (.t 1))), (oN 12 (.mov (.t 0))), (oN 13 (.mov (.t 5))), (oN 14 (.idx 5 (.t 12) (.t 13))), (oN 15 (.load true 5 (.t 14))), (oN 16 (.callv (.t 11) [(.t 15)]))] [11, 12, 13, 14, 15]) (.cond (.t 16) (.seq (.region [ (oN 17 (.mov (.t 5))), (oN 4 (.mov (.t 17)))] [0, 1, 5, 7, 8, 16, 17]) (.ret)) (.skip))))) (.region [ (oN 18 (.bin .add (.t 8) (.c (.int .i64 1)))), (oN 8 (.mov (.t 18)))] [4, 5, 16, 18])))
def zaH : ACode := .seq (.region [ (oN 4 (.mov (.c (.int .i64 (-1)))))] [0, 1, 7, 8]) (.ret)
def za3 : ACode := .seq (.region [ (oN 4 (.mov (.c (.int .i64 0))))] [4]) (.seq (.seq (.region [ (oN 6 (.mov (.t 0))), (oN 7 (.len (.t 6))), (oN 8 (.mov (.c (.int .i64 0))))] [6]) (.block 0 (.loop zaI))) (zaH))
def zah : List ARet := [.tmp 4]
theorem zcG : zT Tryz.prog zU (qRo []) = some (za3.strip, zah, 19) := by kernel_rfl
def zdY : ACode := .seq (.region [ (oN 2 (.rbox (.t 0))), (oN 3 (.mov (.c (.bool false))))] [0, 3]) (.seq (.region [ (oN 4 (.load true 5 (.t 2))), (oN 5 (.load false 1 (.t 1))), (oN 6 (.call zbn [(.t 4), (.t 5)])), (oN 7 (.un .not (.t 6))), (oN 3 (.mov (.t 7)))] [1, 2, 4, 5, 6, 7]) (.ret))
def zdX : List ARet := [.tmp 3]
theorem zhW : zT Tryz.prog zaW (qRo [2]) = some (zdY.strip, zdX, 8) := by kernel_rfl
def zcD : ACode := .seq (.region [ (oN 9 (.bin .lss (.t 8) (.t 7)))] []) (.seq (.cond (.t 9) (.skip) (.exit 0)) (.seq (.block 1 (.seq (.region [ (oN 10 (.mov (.t 8))), (oN 5 (.mov (.t 10)))] [9, 10]) (.seq (.region [ (oN 11 (.mov (.t 1))), (oN 12 (.mov (.t 0))), (oN 13 (.mov (.t 5))), (oN 14 (.idx 1 (.t 12) (.t 13))), (oN 15 (.load false 1 (.t 14))), (oN 16 (.bin .eql (.t 11) (.t 15)))] [11, 12, 13, 14, 15]) (.cond (.t 16) (.seq (.region [ (oN 17 (.mov (.t 5))), (oN 4 (.mov (.t 17)))] [0, 1, 5, 7, 8, 16, 17]) (.ret)) (.skip))))) (.region [ (oN 18 (.bin .add (.t 8) (.c (.int .i64 1)))), (oN 8 (.mov (.t 18)))] [4, 5, 16, 18])))
def zcC : ACode := .seq (.region [ (oN 4 (.mov (.c (.int .i64 (-1)))))] [0, 1, 7, 8]) (.ret)
def zdC : ACode := .seq (.region [ (oN 4 (.mov (.c (.int .i64 0))))] [4]) (.seq (.seq (.region [ (oN 6 (.mov (.t 0))), (oN 7 (.len (.t 6))), (oN 8 (.mov (.c (.int .i64 0))))] [6]) (.block 0 (.loop zcD))) (zcC))
def zbO : List ARet := [.tmp 4]
theorem zhd : zT Tryz.prog zbo (qRo []) = some (zdC.strip, zbO, 19) := by kernel_rfl
def zZ : ACode := .seq (.region [ (oN 1 (.rbox (.t 0))), (oN 2 (.mov (.c (.bool false))))] [0, 2]) (.seq (.region [ (oN 3 (.mov (.c (.int .i64 0)))), (oN 4 (.mov (.c (.int .i64 0)))), (oN 5 (.mov (.c (.int .i64 0))))] []) (.seq (.seq (.region [ (oN 6 (.fldaddr 0 1 (.t 1))), (oN 7 (.load false 1 (.t 6)))] [6]) (.block 0 (.seq (.region [ (oN 9 (.bin .eql (.t 7) (.c (.int .i64 1)))), (oN 8 (.mov (.t 9)))] [9]) (.cond (.t 8) (.region [ (oN 10 (.fldaddr 4 1 (.t 1))), (oN 11 (.load false 1 (.t 10))), (oN 12 (.len (.t 11))), (oN 5 (.mov (.t 12)))] [7, 8, 10, 11, 12]) (.seq (.region [ (oN 14 (.bin .eql (.t 7) (.c (.int .i64 3)))), (oN 13 (.mov (.t 14)))] [8, 14]) (.cond (.t 13) (.region [ (oN 3 (.mov (.c (.int .i64 1)))), (oN 4 (.mov (.c (.int .i64 2)))), (oN 5 (.mov (.c (.int .i64 2))))] [7, 13]) (.seq (.region [ (oN 16 (.bin .eql (.t 7) (.c (.int .i64 4)))), (oN 15 (.mov (.t 16)))] [13, 16]) (.cond (.t 15) (.region [ (oN 4 (.mov (.c (.int .i64 1)))), (oN 5 (.mov (.c (.int .i64 1))))] [7, 15]) (.seq (.region [ (oN 18 (.bin .eql (.t 7) (.c (.int .i64 5)))), (oN 17 (.mov (.t 18)))] [15, 18]) (.cond (.t 17) (.region [ (oN 3 (.mov (.c (.int .i64 1)))), (oN 4 (.mov (.c (.int .i64 1)))), (oN 5 (.mov (.c (.int .i64 1))))] [7, 17]) (.seq (.region [ (oN 20 (.bin .eql (.t 7) (.c (.int .i64 6)))), (oN 19 (.mov (.t 20)))] [17, 20]) (.cond (.t 19) (.region [ (oN 3 (.mov (.c (.int .i64 1)))), (oN 4 (.mov (.c (.int .i64 1)))), (oN 5 (.mov (.c (.int .i64 64))))] [7, 19]) (.seq (.seq (.region [ (oN 22 (.bin .eql (.t 7) (.c (.int .i64 2)))), (oN 21 (.mov (.t 22)))] [19, 22]) (.cond (.t 21) (.skip) (.seq (.region [ (oN 23 (.bin .eql (.t 7) (.c (.int .i64 7)))), (oN 21 (.mov (.t 23)))] [23]) (.cond (.t 21) (.skip) (.seq (.region [ (oN 24 (.bin .eql (.t 7) (.c (.int .i64 8)))), (oN 21 (.mov (.t 24)))] [24]) (.cond (.t 21) (.skip) (.seq (.region [ (oN 25 (.bin .eql (.t 7) (.c (.int .i64 9)))), (oN 21 (.mov (.t 25)))] [25]) (.cond (.t 21) (.skip) (.seq (.region [ (oN 26 (.bin .eql (.t 7) (.c (.int .i64 10)))), (oN 21 (.mov (.t 26)))] [26]) (.cond (.t 21) (.skip) (.seq (.region [ (oN 27 (.bin .eql (.t 7) (.c (.int .i64 11)))), (oN 21 (.mov (.t 27)))] [27]) (.cond (.t 21) (.skip) (.region [ (oN 28 (.bin .eql (.t 7) (.c (.int .i64 12)))), (oN 21 (.mov (.t 28)))] [7, 28]))))))))))))) (.cond (.t 21) (.skip) (.seq (.region [ (oN 2 (.mov (.c (.bool false))))] [1, 3, 4, 5, 7, 21]) (.ret)))))))))))))))) (.seq (.seq (.region [ (oN 29 (.fldaddr 3 1 (.t 1))), (oN 30 (.load false 1 (.t 29))), (oN 31 (.len (.t 30))), (oN 32 (.mov (.t 3))), (oN 33 (.bin .neq (.t 31) (.t 32))), (oN 34 (.mov (.t 33))), (oG 35 34 false (.fldaddr 4 1 (.t 1))), (oG 36 34 false (.load false 1 (.t 35))), (oG 37 34 false (.len (.t 36))), (oG 38 34 false (.mov (.t 4))), (oG 39 34 false (.bin .lss (.t 37) (.t 38))), (oN 40 (.pick (.t 34) (.c (.bool true)) (.t 39))), (oN 41 (.mov (.t 40))), (oG 42 41 false (.fldaddr 4 1 (.t 1))), (oG 43 41 false (.load false 1 (.t 42))), (oG 44 41 false (.len (.t 43))), (oG 45 41 false (.mov (.t 5))), (oG 46 41 false (.bin .gtr (.t 44) (.t 45))), (oN 47 (.pick (.t 41) (.c (.bool true)) (.t 46))), (oN 48 (.mov (.t 47))), (oG 49 48 false (.fldaddr 2 1 (.t 1))), (oG 50 48 false (.load false 1 (.t 49))), (oG 51 48 false (.bin .lss (.t 50) (.c (.int .i64 0)))), (oN 52 (.pick (.t 48) (.c (.bool true)) (.t 51)))] [2, 4, 5, 7, 21, 29, 30, 31, 32, 33, 34, 35, 36, 37, 38, 39, 40, 41, 42, 43, 44, 45, 46, 47, 48, 49, 50, 51]) (.cond (.t 52) (.seq (.region [ (oN 2 (.mov (.c (.bool false))))] [1, 3, 52]) (.ret)) (.skip))) (.seq (.seq (.region [ (oN 53 (.mov (.t 3))), (oN 54 (.bin .eql (.t 53) (.c (.int .i64 1)))), (oN 55 (.mov (.t 54))), (oG 56 55 true (.fldaddr 3 1 (.t 1))), (oG 57 55 true (.load false 1 (.t 56))), (oG 58 55 true (.idx 5 (.t 57) (.c (.int .i64 0)))), (oG 59 55 true (.load true 5 (.t 58))), (oG 60 55 true (.call zcn [(.t 59)])), (oG 61 55 true (.bin .neq (.t 60) (.c (.int .i64 0)))), (oN 62 (.pick (.t 55) (.t 61) (.c (.bool false))))] [2, 3, 52, 53, 54, 55, 56, 57, 58, 59, 60, 61]) (.cond (.t 62) (.seq (.region [ (oN 2 (.mov (.c (.bool false))))] [1, 62]) (.ret)) (.skip))) (.seq (.region [ (oN 63 (.fldaddr 1 1 (.t 1))), (oN 64 (.load false 1 (.t 63))), (oN 65 (.bin .eql (.t 64) (.c (.int .i64 0)))), (oN 66 (.mov (.t 65))), (oG 67 66 false (.fldaddr 0 1 (.t 1))), (oG 68 66 false (.load false 1 (.t 67))), (oG 69 66 false (.bin .eql (.t 68) (.c (.int .i64 2)))), (oN 70 (.pick (.t 66) (.c (.bool true)) (.t 69))), (oN 71 (.mov (.t 70))), (oG 72 71 false (.fldaddr 0 1 (.t 1))), (oG 73 71 false (.load false 1 (.t 72))), (oG 74 71 false (.bin .eql (.t 73) (.c (.int .i64 5)))), (oN 75 (.pick (.t 71) (.c (.bool true)) (.t 74))), (oN 76 (.mov (.t 75))), (oG 77 76 true (.fldaddr 2 1 (.t 1))), (oG 78 76 true (.load false 1 (.t 77))), (oG 79 76 true (.bin .eql (.t 78) (.c (.int .i64 0)))), (oG 80 76 true (.mov (.t 79))), (oG 81 80 false (.fldaddr 0 1 (.t 1))), (oG 82 80 false (.load false 1 (.t 81))), (oG 83 80 false (.bin .eql (.t 82) (.c (.int .i64 9)))), (oG 84 76 true (.pick (.t 80) (.c (.bool true)) (.t 83))), (oG 85 76 true (.mov (.t 84))), (oG 86 85 false (.fldaddr 0 1 (.t 1))), (oG 87 85 false (.load false 1 (.t 86))), (oG 88 85 false (.bin .eql (.t 87) (.c (.int .i64 10)))), (oG 89 76 true (.pick (.t 85) (.c (.bool true)) (.t 88))), (oN 90 (.pick (.t 76) (.t 89) (.c (.bool false)))), (oN 2 (.mov (.t 90)))] [1, 62, 63, 64, 65, 66, 67, 68, 69, 70, 71, 72, 73, 74, 75, 76, 77, 78, 79, 80, 81, 82, 83, 84, 85, 86, 87, 88, 89, 90]) (.ret))))))
def zb : List ARet := [.tmp 2]
theorem zab : zT Tryz.prog zP (qRo [1]) = some (zZ.strip, zb, 91) := by kernel_rfl
def zeE : ACode := .seq (.seq (.region [ (oN 33 (.mov (.t 5))), (oN 34 (.fldaddr 4 1 (.t 2))), (oN 35 (.load false 1 (.t 34))), (oN 36 (.len (.t 35))), (oN 37 (.bin .lss (.t 33) (.t 36)))] [33, 34, 35, 36]) (.cond (.t 37) (.skip) (.exit 0))) (.seq (.block 1 (.seq (.draw ( .step (oN 40 (.fldaddr 4 1 (.t 2))) ( .step (oN 41 (.load false 1 (.t 40))) ( .step (oN 42 (.mov (.t 5))) ( .step (oN 43 (.idx 5 (.t 41) (.t 42))) ( .step (oN 44 (.load true 5 (.t 43))) ( .step (oN 45 (.load true 2 (.t 3))) ( .step (oN 46 (.callq zeu [(.t 44), (.t 45)])) ( .step (oN 47 (.un .not (.t 46))) ( .done))))))))) [37, 40, 41, 42, 43, 44, 45, 46]) (.cond (.t 47) (.seq (.region [ (oN 4 (.mov (.c (.bool false))))] [2, 3, 5, 47]) (.ret)) (.skip)))) (.region [ (oN 38 (.mov (.t 5))), (oN 39 (.bin .add (.t 38) (.c (.int .i64 1)))), (oN 5 (.mov (.t 39)))] [4, 38, 39, 47]))
def zeG : ACode := .seq (.region [ (oN 4 (.mov (.c (.bool true))))] [2, 3, 5]) (.ret)
def zkj : ACode := .seq (.region [ (oN 2 (.rbox (.t 0))), (oN 3 (.rbox (.t 1))), (oN 4 (.mov (.c (.bool false))))] [0, 1, 4]) (.seq (.seq (.region [ (oN 6 (.fldaddr 0 1 (.t 2))), (oN 7 (.load false 1 (.t 6))), (oN 8 (.bin .eql (.t 7) (.c (.int .i64 5)))), (oN 9 (.mov (.t 8))), (oG 10 9 true (.fldaddr 1 1 (.t 2))), (oG 11 9 true (.load false 1 (.t 10))), (oG 12 9 true (.bin .lss (.t 11) (.c (.int .i64 0)))), (oG 13 9 true (.mov (.t 12))), (oG 14 13 false (.fldaddr 1 1 (.t 2))), (oG 15 13 false (.load false 1 (.t 14))), (oG 16 13 false (.fldaddr 1 1 (.t 3))), (oG 17 13 false (.load false 1 (.t 16))), (oG 18 13 false (.len (.t 17))), (oG 19 13 false (.bin .geq (.t 15) (.t 18))), (oG 20 9 true (.pick (.t 13) (.c (.bool true)) (.t 19))), (oG 21 9 true (.mov (.t 20))), (oG 22 21 false (.fldaddr 1 1 (.t 3))), (oG 23 21 false (.load false 1 (.t 22))), (oG 24 21 false (.fldaddr 1 1 (.t 2))), (oG 25 21 false (.load false 1 (.t 24))), (oG 26 21 false (.idx 2 (.t 23) (.t 25))), (oG 27 21 false (.fldaddr 1 1 (.t 26))), (oG 28 21 false (.load false 1 (.t 27))), (oG 29 21 false (.len (.t 28))), (oG 30 21 false (.bin .neq (.t 29) (.c (.int .i64 1)))), (oG 31 9 true (.pick (.t 21) (.c (.bool true)) (.t 30))), (oN 32 (.pick (.t 9) (.t 31) (.c (.bool false))))] [6, 7, 8, 9, 10, 11, 12, 13, 14, 15, 16, 17, 18, 19, 20, 21, 22, 23, 24, 25, 26, 27, 28, 29, 30, 31]) (.cond (.t 32) (.seq (.region [ (oN 4 (.mov (.c (.bool false))))] [2, 3, 32]) (.ret)) (.skip))) (.seq (.seq (.region [ (oN 5 (.mov (.c (.int .i64 0))))] [4, 32]) (.block 0 (.loop zeE))) (zeG)))
def zbT : List ARet := [.tmp 4]
theorem zo8 : zT Tryz.prog zeu (qRo [2, 3]) = some (zkj.strip, zbT, 48) := by kernel_rfl
def zgf : List St → Bool
  | [] => true
  | x :: l => (zkg x == l.isEmpty) && zgf l
def inN (n : Int) (t : Int) : Bool := decide (0 ≤ t ∧ t < n)
def zbm (l : List St) : List Int := match l.getLast? with
  | none => []
  | some s => zgU s
def zdm (l : List St) (n : Int) : Bool := !l.isEmpty && (zgf l && (zbm l).all (inN n))
theorem zre {l : List St} {i : Nat} (h : i < l.length) : zgf (l.drop i) = ((zkg l[i] == decide ((i : Int) = (l.length : Int) - 1)) && zgf (l.drop (i + 1))) := by
  rw [List.drop_eq_getElem_cons h, zgf]
  congr 2
  by_cases hi : i + 1 < l.length
  · rw [List.drop_eq_getElem_cons hi, decide_eq_false (by omega)]
    rfl
  · rw [List.drop_of_length_le (by omega), decide_eq_true (by omega)]
    rfl
theorem zx7 {l : List Int} {i : Nat} {p : Int → Bool} (h : i < l.length) : (l.drop i).all p = (p l[i] && (l.drop (i + 1)).all p) := by
  rw [List.drop_eq_getElem_cons h, List.all_cons]
theorem ziK {l : List St} (h : l.length - 1 < l.length) : zbm l = zgU l[l.length - 1] := by
  unfold zbm
  rw [List.getLast?_eq_getElem?, List.getElem?_eq_getElem h]
theorem zno (b : Bl) (n : Int) : zk Tryz.prog zee [.agg b.cells, .int .i64 n] (· = .bool (zdm b.stmts n)) := by
  refine fn_x zmH rfl ?_
  unfold ziy
  have hB := hBig
  obtain ⟨ad, l⟩ := b
  simp only [Bl.cells, zdm]
  by_cases h0 : l.length = 0
  · obtain rfl : l = [] := List.eq_nil_of_length_eq_zero h0
    (repeat first | simp (disch := try exact dis1) only [evD, Nat.reduceBEq, Nat.reduceAdd, Nat.reduceLeDiff, fldP, dT, List.length_nil, zbk] | with_reducible intro _ | ((with_reducible apply And.intro); omega))
    exact ⟨_, .bool _ _, rfl⟩
  have he : l.isEmpty = false := by cases l with | nil => simp at h0 | cons a l => rfl
  rw [he]
  (repeat first | simp (disch := try exact dis1) only [evD, Nat.reduceBEq, Nat.reduceAdd, Nat.reduceLeDiff, fldP, dF] | with_reducible intro _ | ((with_reducible apply And.intro); omega))
  refine zm (fun i : Nat => ([(1, .int .i64 n), (2, encP 2 [.int .u32 ad, encL 8 St.cells l]), (5, .int .i64 i)], [])) 0 (fun i => i ≤ l.length ∧ zgf (l.drop i) = zgf l) (fun i => l.length - i) 0 ⟨Nat.zero_le _, rfl⟩ (Ent.keep rfl fin5) ?_
  rintro i ⟨hi, hgo⟩ wf
  unfold zf3
  by_cases hl : i < l.length
  · rw [zre hl] at hgo
    (repeat first | simp (disch := try exact dis1) only [evD, Nat.reduceBEq, Nat.reduceAdd, Nat.reduceLeDiff, fldP, dT, zo hl, St.len, St.eight] | with_reducible intro _ | ((with_reducible apply And.intro); omega))
    refine zag (zh (zsr l[i]) rfl) ?_
    generalize zkg l[i] = q at hgo
    by_cases hx : (i : Int) = (l.length : Int) - 1
    · rw [decide_eq_true hx] at hgo
      cases q with
      | true =>
        (repeat first | simp (disch := try exact dis1) only [evD, Nat.reduceBEq, Nat.reduceAdd, Nat.reduceLeDiff, fldP, dT] | with_reducible intro _ | ((with_reducible apply And.intro); omega))
        exact ⟨i + 1, ⟨by omega, by simpa using hgo⟩, by omega, Ent.keep rfl fin5⟩
      | false =>
        replace hgo : zgf l = false := by rw [← hgo]; rfl
        rw [hgo]
        (repeat first | simp (disch := try exact dis1) only [evD, Nat.reduceBEq, Nat.reduceAdd, Nat.reduceLeDiff, fldP, dT, zbk] | with_reducible intro _ | ((with_reducible apply And.intro); omega))
        exact ⟨_, .bool _ _, rfl⟩
    · rw [decide_eq_false hx] at hgo
      cases q with
      | false =>
        (repeat first | simp (disch := try exact dis1) only [evD, Nat.reduceBEq, Nat.reduceAdd, Nat.reduceLeDiff, fldP, dF] | with_reducible intro _ | ((with_reducible apply And.intro); omega))
        exact ⟨i + 1, ⟨by omega, by simpa using hgo⟩, by omega, Ent.keep rfl fin5⟩
      | true =>
        replace hgo : zgf l = false := by rw [← hgo]; rfl
        rw [hgo]
        (repeat first | simp (disch := try exact dis1) only [evD, Nat.reduceBEq, Nat.reduceAdd, Nat.reduceLeDiff, fldP, dF, zbk] | with_reducible intro _ | ((with_reducible apply And.intro); omega))
        exact ⟨_, .bool _ _, rfl⟩
  rw [List.drop_of_length_le (by omega), zgf] at hgo
  rw [← hgo]
  have hlast : l.length - 1 < l.length := by omega
  have hidx : (((l.length : Nat) : Int) - 1).toNat = l.length - 1 := by omega
  rw [ziK hlast]
  (repeat first | simp (disch := try exact dis1) only [evD, Nat.reduceBEq, Nat.reduceAdd, Nat.reduceLeDiff, fldP, dF] | with_reducible intro _ | ((with_reducible apply And.intro); omega))
  unfold zf6
  (repeat first | simp (disch := try exact dis1) only [evD, Nat.reduceBEq, Nat.reduceAdd, Nat.reduceLeDiff, fldP, dT, hidx, zo hlast, St.len, St.eight] | with_reducible intro _ | ((with_reducible apply And.intro); omega))
  refine ze (zh (znN l[l.length - 1]) rfl) ?_
  generalize zgU l[l.length - 1] = t
  generalize hR : t.all (inN n) = R
  (repeat first | simp (disch := try exact dis1) only [evD, Nat.reduceBEq, Nat.reduceAdd, Nat.reduceLeDiff] | with_reducible intro _ | ((with_reducible apply And.intro); omega))
  refine zm (fun i : Nat => ([(1, .int .i64 n), (6, za t), (7, .int .i64 i)], [])) 0 (fun i => i ≤ t.length ∧ (t.drop i).all (inN n) = R) (fun i => t.length - i) 0 ⟨Nat.zero_le _, hR⟩ (Ent.keep rfl fin5) ?_
  rintro i ⟨hi, hgo⟩ wf
  unfold zf1
  by_cases hl : i < t.length
  · rw [zx7 hl] at hgo
    unfold inN at hgo
    by_cases q0 : 0 ≤ t[i]
    · by_cases q1 : t[i] < n
      · rw [decide_eq_true ⟨q0, q1⟩, Bool.true_and] at hgo
        (repeat first | simp (disch := try exact dis1) only [evD, Nat.reduceBEq, Nat.reduceAdd, Nat.reduceLeDiff, fldP, dT, dF, za, zo hl] | with_reducible intro _ | ((with_reducible apply And.intro); omega))
        exact ⟨i + 1, ⟨by omega, hgo⟩, by omega, Ent.keep rfl fin5⟩
      · rw [decide_eq_false (fun h => q1 h.2), Bool.false_and] at hgo
        subst hgo
        (repeat first | simp (disch := try exact dis1) only [evD, Nat.reduceBEq, Nat.reduceAdd, Nat.reduceLeDiff, fldP, dT, dF, za, zo hl, zbk] | with_reducible intro _ | ((with_reducible apply And.intro); omega))
        exact ⟨_, .bool _ _, rfl⟩
    · rw [decide_eq_false (fun h => q0 h.1), Bool.false_and] at hgo
      subst hgo
      (repeat first | simp (disch := try exact dis1) only [evD, Nat.reduceBEq, Nat.reduceAdd, Nat.reduceLeDiff, fldP, dT, dF, za, zo hl, zbk] | with_reducible intro _ | ((with_reducible apply And.intro); omega))
      exact ⟨_, .bool _ _, rfl⟩
  · rw [List.drop_of_length_le (by omega)] at hgo
    replace hgo : R = true := by rw [← hgo]; rfl
    subst hgo
    (repeat first | simp (disch := try exact dis1) only [evD, Nat.reduceBEq, Nat.reduceAdd, Nat.reduceLeDiff, fldP, dF, za] | with_reducible intro _ | ((with_reducible apply And.intro); omega))
    unfold zf2
    (repeat first | simp (disch := try exact dis1) only [evD, Nat.reduceBEq, Nat.reduceAdd, Nat.reduceLeDiff, zbk] | with_reducible intro _ | ((with_reducible apply And.intro); omega))
    exact ⟨_, .bool _ _, rfl⟩
def zf7 : List St → Int
  | [] => 0
  | s :: l => if s.check ≠ 0 then s.check else zf7 l
def zh6 : List Bl → Int
  | [] => 0
  | b :: l => if zf7 b.stmts ≠ 0 then zf7 b.stmts else zh6 l
def zie (g : G) : Int := if (!g.blocks.isEmpty && g.blocks.all fun b => zdm b.stmts g.blocks.length) = true then zh6 g.blocks else 18
theorem znw {l : List St} {i : Nat} (h : i < l.length) : zf7 (l.drop i) = if l[i].check ≠ 0 then l[i].check else zf7 (l.drop (i + 1)) := by
  rw [List.drop_eq_getElem_cons h, zf7]
theorem znA {l : List Bl} {i : Nat} (h : i < l.length) : zh6 (l.drop i) = if zf7 l[i].stmts ≠ 0 then zf7 l[i].stmts else zh6 (l.drop (i + 1)) := by
  rw [List.drop_eq_getElem_cons h, zh6]
structure fewB (g : G) : Prop where
  blocks : g.blocks.length ≤ 12
  stmts : ∀ b ∈ g.blocks, b.stmts.length ≤ 8
theorem zk2 (g : G) (hf : fewB g) : zk Tryz.prog zcZ [.agg g.cells] (· = .int .i64 (zie g)) := by
  refine fn_x zk0 rfl ?_
  unfold zgK
  have hB := hBig
  obtain ⟨hb, hs⟩ := hf
  obtain ⟨ad, l⟩ := g
  simp only at hb hs
  simp only [G.cells, zie]
  (repeat first | simp (disch := try exact dis1) only [evD, Nat.reduceBEq, Nat.reduceAdd, Nat.reduceLeDiff, fldP, dF] | with_reducible intro _ | ((with_reducible apply And.intro); omega))
  refine zm (fun s : Nat × Nat => ([(1, encP 2 [.int .u32 ad, encL 2 Bl.cells l]), (3, .int .i64 s.2), (4, .int .i64 s.1)], [])) 0 (fun s => s.1 ≤ l.length ∧ s.2 ≤ 8 * s.1) (fun s => l.length - s.1) (0, 0) ⟨Nat.zero_le _, Nat.le_refl _⟩ (Ent.keep rfl fin5) ?_
  rintro ⟨i, n⟩ ⟨hi, hn⟩ wf
  simp only at hi hn
  unfold zeQ
  by_cases hl : i < l.length
  · have hg : (l.map Bl.cells).getD i [] = [.int .u32 l[i].addr, encL 8 St.cells l[i].stmts] := zo hl
    have hsl := hs l[i] (List.getElem_mem hl)
    (repeat first | simp (disch := try exact dis1) only [evD, Nat.reduceBEq, Nat.reduceAdd, Nat.reduceLeDiff, fldP, dT, hg] | with_reducible intro _ | ((with_reducible apply And.intro); omega))
    exact ⟨(i + 1, n + l[i].stmts.length), ⟨by simp only; omega, by simp only; omega⟩, by simp only; omega, Ent.keep rfl fin5⟩
  (repeat first | simp (disch := try exact dis1) only [evD, Nat.reduceBEq, Nat.reduceAdd, Nat.reduceLeDiff, fldP, dF] | with_reducible intro _ | ((with_reducible apply And.intro); omega))
  unfold zeW
  by_cases h0 : l.length = 0
  · obtain rfl : l = [] := List.eq_nil_of_length_eq_zero h0
    (repeat first | simp (disch := try exact dis1) only [evD, Nat.reduceBEq, Nat.reduceAdd, Nat.reduceLeDiff, fldP, dT, dF, List.length_nil, zbF] | with_reducible intro _ | ((with_reducible apply And.intro); omega))
    exact ⟨_, .int _ _ _, rfl⟩
  have he : l.isEmpty = false := by cases l with | nil => simp at h0 | cons a l => rfl
  rw [he]
  (repeat first | simp (disch := try exact dis1) only [evD, Nat.reduceBEq, Nat.reduceAdd, Nat.reduceLeDiff, fldP, dF] | with_reducible intro _ | ((with_reducible apply And.intro); omega))
  refine zm (fun i : Nat => ([(1, encP 2 [.int .u32 ad, encL 2 Bl.cells l]), (5, .int .i64 i)], [])) 0 (fun i => i ≤ l.length ∧ ((l.drop i).all fun b => zdm b.stmts l.length) = (l.all fun b => zdm b.stmts l.length)) (fun i => l.length - i) 0 ⟨Nat.zero_le _, rfl⟩ (Ent.keep rfl fin5) ?_
  rintro i ⟨hi, hgo⟩ wf
  unfold zeR
  by_cases hl : i < l.length
  · have hg : (l.map Bl.cells).getD i [] = [.int .u32 l[i].addr, encL 8 St.cells l[i].stmts] := zo hl
    rw [List.drop_eq_getElem_cons hl, List.all_cons] at hgo
    (repeat first | simp (disch := try exact dis1) only [evD, Nat.reduceBEq, Nat.reduceAdd, Nat.reduceLeDiff, fldP, dT, hg] | with_reducible intro _ | ((with_reducible apply And.intro); omega))
    refine zag (zh (zno l[i] l.length) rfl) ?_
    cases hc : zdm l[i].stmts l.length with
    | true =>
      rw [hc, Bool.true_and] at hgo
      (repeat first | simp (disch := try exact dis1) only [evD, Nat.reduceBEq, Nat.reduceAdd, Nat.reduceLeDiff] | with_reducible intro _ | ((with_reducible apply And.intro); omega))
      exact ⟨i + 1, ⟨by omega, hgo⟩, by omega, Ent.keep rfl fin5⟩
    | false =>
      rw [hc, Bool.false_and] at hgo
      rw [← hgo]
      (repeat first | simp (disch := try exact dis1) only [evD, Nat.reduceBEq, Nat.reduceAdd, Nat.reduceLeDiff, zbF] | with_reducible intro _ | ((with_reducible apply And.intro); omega))
      exact ⟨_, .int _ _ _, rfl⟩
  rw [List.drop_of_length_le (by omega)] at hgo
  replace hgo : (l.all fun b => zdm b.stmts l.length) = true := by rw [← hgo]; rfl
  rw [hgo]
  (repeat first | simp (disch := try exact dis1) only [evD, Nat.reduceBEq, Nat.reduceAdd, Nat.reduceLeDiff, fldP, dF] | with_reducible intro _ | ((with_reducible apply And.intro); omega))
  unfold ze0
  (repeat first | simp (disch := try exact dis1) only [evD, Nat.reduceBEq, Nat.reduceAdd, Nat.reduceLeDiff] | with_reducible intro _ | ((with_reducible apply And.intro); omega))
  refine zm (fun i : Nat => ([(1, encP 2 [.int .u32 ad, encL 2 Bl.cells l]), (6, .int .i64 i)], [])) 0 (fun i => i ≤ l.length ∧ zh6 (l.drop i) = zh6 l) (fun i => l.length - i) 0 ⟨Nat.zero_le _, rfl⟩ (Ent.keep rfl fin5) ?_
  rintro i ⟨hi, hgo⟩ wf
  unfold zeY
  by_cases hl : i < l.length
  · have hg : (l.map Bl.cells).getD i [] = [.int .u32 l[i].addr, encL 8 St.cells l[i].stmts] := zo hl
    rw [znA hl] at hgo
    (repeat first | simp (disch := try exact dis1) only [evD, Nat.reduceBEq, Nat.reduceAdd, Nat.reduceLeDiff, fldP, dT, hg] | with_reducible intro _ | ((with_reducible apply And.intro); omega))
    generalize l[i].stmts = m at hg hgo
    generalize l[i].addr = ad' at hg
    refine zm (fun j : Nat => ([(1, encP 2 [.int .u32 ad, encL 2 Bl.cells l]), (6, .int .i64 i), (7, .int .i64 j)], [])) 0 (fun j => j ≤ m.length ∧ zf7 (m.drop j) = zf7 m) (fun j => m.length - j) 0 ⟨Nat.zero_le _, rfl⟩ (Ent.keep rfl fin5) ?_
    rintro j ⟨hj, hgo2⟩ wf2
    unfold zeP
    by_cases hm : j < m.length
    · rw [znw hm] at hgo2
      (repeat first | simp (disch := try exact dis1) only [evD, Nat.reduceBEq, Nat.reduceAdd, Nat.reduceLeDiff, fldP, dT, hg, zo hm, St.len, St.eight] | with_reducible intro _ | ((with_reducible apply And.intro); omega))
      refine ze (zh (zmc m[j]) rfl) ?_
      by_cases hx : m[j].check = 0
      · rw [if_neg (by omega)] at hgo2
        (repeat first | simp (disch := try exact dis1) only [evD, Nat.reduceBEq, Nat.reduceAdd, Nat.reduceLeDiff, dF] | with_reducible intro _ | ((with_reducible apply And.intro); omega))
        exact ⟨j + 1, ⟨by omega, hgo2⟩, by omega, Ent.keep rfl fin5⟩
      · rw [if_pos hx] at hgo2
        rw [← hgo2, if_pos hx] at hgo
        rw [← hgo]
        (repeat first | simp (disch := try exact dis1) only [evD, Nat.reduceBEq, Nat.reduceAdd, Nat.reduceLeDiff, dT, zbF] | with_reducible intro _ | ((with_reducible apply And.intro); omega))
        exact ⟨_, .int _ _ _, rfl⟩
    · rw [List.drop_of_length_le (by omega), zf7] at hgo2
      rw [← hgo2, if_neg (by omega)] at hgo
      (repeat first | simp (disch := try exact dis1) only [evD, Nat.reduceBEq, Nat.reduceAdd, Nat.reduceLeDiff, fldP, dF, hg] | with_reducible intro _ | ((with_reducible apply And.intro); omega))
      unfold zeN
      (repeat first | simp (disch := try exact dis1) only [evD, Nat.reduceBEq, Nat.reduceAdd, Nat.reduceLeDiff] | with_reducible intro _ | ((with_reducible apply And.intro); omega))
      exact ⟨i + 1, ⟨by omega, hgo⟩, by omega, Ent.keep rfl fin5⟩
  rw [List.drop_of_length_le (by omega), zh6] at hgo
  rw [← hgo]
  (repeat first | simp (disch := try exact dis1) only [evD, Nat.reduceBEq, Nat.reduceAdd, Nat.reduceLeDiff, fldP, dF] | with_reducible intro _ | ((with_reducible apply And.intro); omega))
  unfold zeV
  (repeat first | simp (disch := try exact dis1) only [evD, Nat.reduceBEq, Nat.reduceAdd, Nat.reduceLeDiff, zbF] | with_reducible intro _ | ((with_reducible apply And.intro); omega))
  exact ⟨_, .int _ _ _, rfl⟩
structure PredT (fv : AV) (l : List St) (p : St → Bool) : Prop where
  ex : ∃ f caps, fv = .fn (.func f) caps ∧ zdT Tryz.prog f = true ∧ zG caps = true ∧ ∀ s ∈ l, zk Tryz.prog f ([.agg s.cells] ++ caps) (· = .bool (p s))
theorem zrM {fv : AV} {l : List St} {p : St → Bool} (hp : PredT fv l p) {s : St} (hs : s ∈ l) {H : AH} {nx : Nat} {k : AV → AH → Nat → Prop} (hk : k (.bool (p s)) H nx) : zkR Tryz.prog fv [.agg s.cells] H nx k := by
  obtain ⟨f, caps, rfl, hg, hf, hx⟩ := hp.ex
  rw [zgC]
  refine ⟨hg, ze (zh (hx s hs) ?_) hk⟩
  simp only [List.cons_append, List.nil_append, List.all_cons, Bool.and_eq_true]
  exact ⟨rfl, zcj hf⟩
theorem zsT {fv : AV} {l : List St} {p : St → Bool} (hp : PredT fv l p) {H H2 : AH} {σ : Nat → Nat → Option (Nat × Nat × Nat)} {D : Nat → Nat → Prop} {t : Bool} : Vw H H2 σ D t fv fv := by
  obtain ⟨f, caps, rfl, hg, hf, hx⟩ := hp.ex
  refine .fn _ _ _ _ rfl fun i a b h1 h2 => ?_
  rw [h1] at h2
  cases h2
  exact zcy (zbg hf h1)
theorem zi4 (l : List St) (fv : AV) (p : St → Bool) (hp : PredT fv l p) : zk Tryz.prog zW [encL 8 St.cells l, fv] (· = .int .i64 (idxI (l.findIdx? p))) := by
  refine fn_x zcJ rfl ?_
  unfold za6
  have hB := hBig
  (repeat first | simp (disch := try exact dis1) only [evD, Nat.reduceBEq, Nat.reduceAdd, Nat.reduceLeDiff] | with_reducible intro _ | ((with_reducible apply And.intro); omega))
  refine zm (fun i : Nat => ([(0, encL 8 St.cells l), (1, fv), (7, .int .i64 l.length), (8, .int .i64 i)], [])) 0 (fun i => i ≤ l.length ∧ ∀ j (h : j < l.length), j < i → p l[j] = false) (fun i => l.length - i) 0 ⟨Nat.zero_le _, fun j _ h => by omega⟩ (Ent.keep rfl fin5) ?_
  intro i ⟨hi, hno⟩ wf
  unfold zaM
  (repeat first | simp (disch := try exact dis1) only [evD, Nat.reduceBEq, Nat.reduceAdd, Nat.reduceLeDiff] | with_reducible intro _ | ((with_reducible apply And.intro); omega))
  (refine zp (fun h => ?_) (fun h => ?_)) <;> (try simp only [dcd] at h)
  · have hi' : i < l.length := by omega
    (repeat first | simp (disch := try exact dis1) only [evD, Nat.reduceBEq, Nat.reduceAdd, Nat.reduceLeDiff, zo hi', St.len, St.eight] | with_reducible intro _ | ((with_reducible apply And.intro); omega))
    refine zrM hp (List.getElem_mem hi') ?_
    (repeat first | simp (disch := try exact dis1) only [evD, Nat.reduceBEq, Nat.reduceAdd, Nat.reduceLeDiff] | with_reducible intro _ | ((with_reducible apply And.intro); omega))
    (refine zp (fun h2 => ?_) (fun h2 => ?_)) <;> (try simp only [dcd] at h2)
    · (repeat first | simp (disch := try exact dis1) only [evD, Nat.reduceBEq, Nat.reduceAdd, Nat.reduceLeDiff, zai] | with_reducible intro _ | ((with_reducible apply And.intro); omega))
      have e : l.findIdx? p = some i := by
        rw [List.findIdx?_eq_some_iff_getElem]
        exact ⟨hi', h2, fun j hj => by rw [hno j (by omega) hj]; simp⟩
      rw [e]
      exact ⟨_, .int _ _ _, rfl⟩
    · (repeat first | simp (disch := try exact dis1) only [evD, Nat.reduceBEq, Nat.reduceAdd, Nat.reduceLeDiff] | with_reducible intro _ | ((with_reducible apply And.intro); omega))
      refine ⟨i + 1, ⟨by omega, fun j hj hji => ?_⟩, by omega, Ent.keep rfl fin5⟩
      by_cases hje : j = i
      · subst hje; simpa using h2
      · exact hno j hj (by omega)
  · unfold zaQ
    (repeat first | simp (disch := try exact dis1) only [evD, Nat.reduceBEq, Nat.reduceAdd, Nat.reduceLeDiff, zai] | with_reducible intro _ | ((with_reducible apply And.intro); omega))
    have e : l.findIdx? p = none := by
      rw [List.findIdx?_eq_none_iff]
      intro x hx
      obtain ⟨j, hj, rfl⟩ := List.mem_iff_getElem.1 hx
      exact hno j hj (by omega)
    rw [e]
    exact ⟨_, .int _ _ _, rfl⟩
theorem zyQ {l : List St} {p : St → Bool} : decide (idxI (l.findIdx? p) ≥ 0) = l.any p := by
  cases h : l.findIdx? p with
  | none =>
    have := List.findIdx?_eq_none_iff.1 h
    rw [decide_eq_false (by simp [idxI])]
    symm
    rw [List.any_eq_false]
    intro x hx
    rw [this x hx]; simp
  | some i =>
    obtain ⟨h1, h2, _⟩ := List.findIdx?_eq_some_iff_getElem.1 h
    rw [decide_eq_true (by simp [idxI])]
    exact (zoV h1 h2).symm
theorem zhg (l : List St) (fv : AV) (p : St → Bool) (hp : PredT fv l p) : zk Tryz.prog zO [encL 8 St.cells l, fv] (· = .bool (l.any p)) := by
  refine fn_x zcb rfl ?_
  unfold zaK
  (repeat first | simp (disch := try exact dis1) only [evD, Nat.reduceBEq, Nat.reduceAdd, Nat.reduceLeDiff] | with_reducible intro _ | ((with_reducible apply And.intro); omega))
  refine ze (z6 (D := noR) (zi4 l fv p hp) (.cons (zay rfl) (.cons (zsT hp) .nil)) (.inl rfl)) ?_
  (repeat first | simp (disch := try exact dis1) only [evD, Nat.reduceBEq, Nat.reduceAdd, Nat.reduceLeDiff, zaN] | with_reducible intro _ | ((with_reducible apply And.intro); omega))
  refine ⟨_, .bool _ _, ?_⟩
  rw [← zyQ]
structure PredI (fv : AV) (l : List Int) (p : Int → Bool) : Prop where
  ex : ∃ f caps, fv = .fn (.func f) caps ∧ zdT Tryz.prog f = true ∧ zG caps = true ∧ ∀ s ∈ l, zk Tryz.prog f ([.int .i64 s] ++ caps) (· = .bool (p s))
theorem zra {fv : AV} {l : List Int} {p : Int → Bool} (hp : PredI fv l p) {s : Int} (hs : s ∈ l) {H : AH} {nx : Nat} {k : AV → AH → Nat → Prop} (hk : k (.bool (p s)) H nx) : zkR Tryz.prog fv [.int .i64 s] H nx k := by
  obtain ⟨f, caps, rfl, hg, hf, hx⟩ := hp.ex
  rw [zgC]
  refine ⟨hg, ze (zh (hx s hs) ?_) hk⟩
  simp only [List.cons_append, List.nil_append, List.all_cons, Bool.and_eq_true]
  exact ⟨rfl, zcj hf⟩
theorem zth {fv : AV} {l : List Int} {p : Int → Bool} (hp : PredI fv l p) {H H2 : AH} {σ : Nat → Nat → Option (Nat × Nat × Nat)} {D : Nat → Nat → Prop} {t : Bool} : Vw H H2 σ D t fv fv := by
  obtain ⟨f, caps, rfl, hg, hf, hx⟩ := hp.ex
  refine .fn _ _ _ _ rfl fun i a b h1 h2 => ?_
  rw [h1] at h2
  cases h2
  exact zcy (zbg hf h1)
theorem zjn (l : List Int) (fv : AV) (p : Int → Bool) (hp : PredI fv l p) : zk Tryz.prog zX [za l, fv] (· = .int .i64 (idxI (l.findIdx? p))) := by
  refine fn_x zcl rfl ?_
  unfold zbi
  have hB := hBig
  (repeat first | simp (disch := try exact dis1) only [evD, Nat.reduceBEq, Nat.reduceAdd, Nat.reduceLeDiff, za] | with_reducible intro _ | ((with_reducible apply And.intro); omega))
  refine zm (fun i : Nat => ([(0, za l), (1, fv), (7, .int .i64 l.length), (8, .int .i64 i)], [])) 0 (fun i => i ≤ l.length ∧ ∀ j (h : j < l.length), j < i → p l[j] = false) (fun i => l.length - i) 0 ⟨Nat.zero_le _, fun j _ h => by omega⟩ (Ent.keep rfl fin5) ?_
  intro i ⟨hi, hno⟩ wf
  unfold zaY
  (repeat first | simp (disch := try exact dis1) only [evD, Nat.reduceBEq, Nat.reduceAdd, Nat.reduceLeDiff] | with_reducible intro _ | ((with_reducible apply And.intro); omega))
  (refine zp (fun h => ?_) (fun h => ?_)) <;> (try simp only [dcd] at h)
  · have hi' : i < l.length := by omega
    (repeat first | simp (disch := try exact dis1) only [evD, Nat.reduceBEq, Nat.reduceAdd, Nat.reduceLeDiff, za, zo hi'] | with_reducible intro _ | ((with_reducible apply And.intro); omega))
    refine zra hp (List.getElem_mem hi') ?_
    (repeat first | simp (disch := try exact dis1) only [evD, Nat.reduceBEq, Nat.reduceAdd, Nat.reduceLeDiff] | with_reducible intro _ | ((with_reducible apply And.intro); omega))
    (refine zp (fun h2 => ?_) (fun h2 => ?_)) <;> (try simp only [dcd] at h2)
    · (repeat first | simp (disch := try exact dis1) only [evD, Nat.reduceBEq, Nat.reduceAdd, Nat.reduceLeDiff, zae] | with_reducible intro _ | ((with_reducible apply And.intro); omega))
      have e : l.findIdx? p = some i := by
        rw [List.findIdx?_eq_some_iff_getElem]
        exact ⟨hi', h2, fun j hj => by rw [hno j (by omega) hj]; simp⟩
      rw [e]
      exact ⟨_, .int _ _ _, rfl⟩
    · (repeat first | simp (disch := try exact dis1) only [evD, Nat.reduceBEq, Nat.reduceAdd, Nat.reduceLeDiff] | with_reducible intro _ | ((with_reducible apply And.intro); omega))
      refine ⟨i + 1, ⟨by omega, fun j hj hji => ?_⟩, by omega, Ent.keep rfl fin5⟩
      by_cases hje : j = i
      · subst hje; simpa using h2
      · exact hno j hj (by omega)
  · unfold zaU
    (repeat first | simp (disch := try exact dis1) only [evD, Nat.reduceBEq, Nat.reduceAdd, Nat.reduceLeDiff, zae] | with_reducible intro _ | ((with_reducible apply And.intro); omega))
    have e : l.findIdx? p = none := by
      rw [List.findIdx?_eq_none_iff]
      intro x hx
      obtain ⟨j, hj, rfl⟩ := List.mem_iff_getElem.1 hx
      exact hno j hj (by omega)
    rw [e]
    exact ⟨_, .int _ _ _, rfl⟩
theorem zyj {l : List Int} {p : Int → Bool} : decide (idxI (l.findIdx? p) ≥ 0) = l.any p := by
  cases h : l.findIdx? p with
  | none =>
    have := List.findIdx?_eq_none_iff.1 h
    rw [decide_eq_false (by simp [idxI])]
    symm
    rw [List.any_eq_false]
    intro x hx
    rw [this x hx]; simp
  | some i =>
    obtain ⟨h1, h2, _⟩ := List.findIdx?_eq_some_iff_getElem.1 h
    rw [decide_eq_true (by simp [idxI])]
    exact (zoV h1 h2).symm
theorem zhe (l : List Int) (fv : AV) (p : Int → Bool) (hp : PredI fv l p) : zk Tryz.prog zao [za l, fv] (· = .bool (l.any p)) := by
  refine fn_x zes rfl ?_
  unfold zbJ
  (repeat first | simp (disch := try exact dis1) only [evD, Nat.reduceBEq, Nat.reduceAdd, Nat.reduceLeDiff] | with_reducible intro _ | ((with_reducible apply And.intro); omega))
  refine ze (z6 (D := noR) (zjn l fv p hp) (.cons (zay rfl) (.cons (zth hp) .nil)) (.inl rfl)) ?_
  (repeat first | simp (disch := try exact dis1) only [evD, Nat.reduceBEq, Nat.reduceAdd, Nat.reduceLeDiff, zbL] | with_reducible intro _ | ((with_reducible apply And.intro); omega))
  refine ⟨_, .bool _ _, ?_⟩
  rw [← zyj]
theorem zuM (l : List Int) (hl : l.length ≤ 100000000) : zaf Tryz.prog zB [za l] [] 0 (fun v H nx => v = .own 0 0 0 0 l.length ∧ H = [(0, .row 1 (l.map cI) 0)] ∧ nx = 1) := by
  refine ze4 (fn_x zbP rfl ?_)
  unfold za9 za
  have hB := hBig
  have hel : ∀ H, zdg 1 (encL 1 (fun n => [.int .i64 n]) l) H = some (l.map cI) := fun H => zi1
  (repeat first | simp (disch := try exact dis1) only [evD, Nat.reduceBEq, Nat.reduceAdd, Nat.reduceLeDiff, zpx] | with_reducible intro _ | ((with_reducible apply And.intro); omega))
  cases h0 : (l.length == 0) with
  | true =>
    have e : l = [] := List.eq_nil_of_length_eq_zero (by simpa using h0)
    subst e
    (repeat first | simp (disch := try exact dis1) only [evD, Nat.reduceBEq, Nat.reduceAdd, Nat.reduceLeDiff] | with_reducible intro _ | ((with_reducible apply And.intro); omega))
    rename_i b
    cases b
    · (repeat first | simp (disch := try exact dis1) only [evD, Nat.reduceBEq, Nat.reduceAdd, Nat.reduceLeDiff, hel, zE] | with_reducible intro _ | ((with_reducible apply And.intro); omega))
      exact ⟨.own 0 0 0 0 0, [(0, .row 1 [] 0)], 1, (Ent.tab [(0, 1, 1)] [] rfl (by (try simp only [evWB, Nat.reduceBEq, Nat.reduceAdd, Nat.reduceSub, Nat.reduceLeDiff, Nat.reduceLT, implies_true]) <;> exact fin2) (by (try simp only [evWB, Nat.reduceBEq, Nat.reduceAdd, Nat.reduceSub, Nat.reduceLeDiff, Nat.reduceLT, implies_true]) <;> exact fin2)), rfl, rfl, rfl⟩
    · (repeat first | simp (disch := try exact dis1) only [evD, Nat.reduceBEq, Nat.reduceAdd, Nat.reduceLeDiff, zE] | with_reducible intro _ | ((with_reducible apply And.intro); omega))
      exact ⟨.own 0 0 0 0 0, [(0, .row 1 [] 0)], 1, (Ent.tab [(0, 1, 0)] [] rfl (by (try simp only [evWB, Nat.reduceBEq, Nat.reduceAdd, Nat.reduceSub, Nat.reduceLeDiff, Nat.reduceLT, implies_true]) <;> exact fin2) (by (try simp only [evWB, Nat.reduceBEq, Nat.reduceAdd, Nat.reduceSub, Nat.reduceLeDiff, Nat.reduceLT, implies_true]) <;> exact fin2)), rfl, rfl, rfl⟩
  | false =>
    (repeat first | simp (disch := try exact dis1) only [evD, Nat.reduceBEq, Nat.reduceAdd, Nat.reduceLeDiff, hel, zE] | with_reducible intro _ | ((with_reducible apply And.intro); omega))
    exact ⟨.own 0 0 0 0 l.length, [(0, .row 1 (l.map cI) 0)], 1, (Ent.tab [(0, 1, 1)] [] rfl (by (try simp only [evWB, Nat.reduceBEq, Nat.reduceAdd, Nat.reduceSub, Nat.reduceLeDiff, Nat.reduceLT, implies_true]) <;> exact fin2) (by (try simp only [evWB, Nat.reduceBEq, Nat.reduceAdd, Nat.reduceSub, Nat.reduceLeDiff, Nat.reduceLT, implies_true]) <;> exact fin2)), rfl, rfl, rfl⟩
theorem renI {ρ : Nat → Nat} {l : List Int} {g : Nat} : AObj.ren ρ (.row 1 (l.map cI) g) = .row 1 (l.map cI) g := by
  simp only [AObj.ren]
  rw [zsD (zg2 fun _ => rfl)]
theorem zme (b : Bl) (hc : ∀ s ∈ b.stmts, s.cases.length ≤ 100000000) : zk Tryz.prog zdr [.agg b.cells] (· = za (zbm b.stmts)) := by
  refine fn_x zl8 rfl ?_
  unfold zhD
  have hB := hBig
  obtain ⟨ad, l⟩ := b
  simp only at hc
  simp only [Bl.cells]
  by_cases h0 : l.length = 0
  · obtain rfl : l = [] := List.eq_nil_of_length_eq_zero h0
    (repeat first | simp (disch := try exact dis1) only [evD, Nat.reduceBEq, Nat.reduceAdd, Nat.reduceLeDiff, fldP, dT, List.length_nil, zbt] | with_reducible intro _ | ((with_reducible apply And.intro); omega))
    exact ⟨_, zbj (l := []) trivial rfl (by simp only [List.length_nil]; omega), rfl⟩
  have hlast : l.length - 1 < l.length := by omega
  have hidx : (((l.length : Nat) : Int) - 1).toNat = l.length - 1 := by omega
  have hcs := hc _ (List.getElem_mem hlast)
  have hg := zo (f := St.cells) (d := []) hlast
  rw [ziK hlast]
  generalize l[l.length - 1] = s at hg hcs
  obtain ⟨op, var, width, next, els, tgt, e, cs⟩ := s
  simp only [St.cells] at hg hcs
  unfold zgU
  simp only
  (repeat first | simp (disch := try exact dis1) only [evD, Nat.reduceBEq, Nat.reduceAdd, Nat.reduceLeDiff, fldP, dT, dF, hidx, hg] | with_reducible intro _ | ((with_reducible apply And.intro); omega))
  by_cases h6 : op = 6
  · rw [if_pos h6]
    (repeat first | simp (disch := try exact dis1) only [evD, Nat.reduceBEq, Nat.reduceAdd, Nat.reduceLeDiff, dT, dF, fldP, za, St.cells, zbt] | with_reducible intro _ | ((with_reducible apply And.intro); omega))
    exact ⟨_, zbj (l := [next]) trivial rfl (by simp only [List.length_singleton]; omega), rfl⟩
  rw [if_neg h6]
  by_cases h7 : op = 7
  · rw [if_pos h7]
    (repeat first | simp (disch := try exact dis1) only [evD, Nat.reduceBEq, Nat.reduceAdd, Nat.reduceLeDiff, dT, dF, fldP, za, St.cells, zbt] | with_reducible intro _ | ((with_reducible apply And.intro); omega))
    exact ⟨_, zbj (l := [next, els]) trivial rfl (by simp only [List.length_cons, List.length_nil]; omega), rfl⟩
  rw [if_neg h7]
  by_cases h8 : op = 8
  · rw [if_pos h8]
    (repeat first | simp (disch := try exact dis1) only [evD, Nat.reduceBEq, Nat.reduceAdd, Nat.reduceLeDiff, dT, dF, fldP, St.cells] | with_reducible intro _ | ((with_reducible apply And.intro); omega))
    refine zcz [] 0 _ (zuM cs hcs) rfl rfl (by (try simp only [evWB, Nat.reduceBEq, Nat.reduceAdd, Nat.reduceSub, Nat.reduceLeDiff, Nat.reduceLT, implies_true]) <;> exact fin1) (by (try simp only [evWB, Nat.reduceBEq, Nat.reduceAdd, Nat.reduceSub, Nat.reduceLeDiff, Nat.reduceLT, implies_true]) <;> exact fin1) ?_
    rintro _ _ _ ⟨rfl, rfl, rfl⟩
    (repeat first | simp (disch := try exact dis1) only [evD, Nat.reduceBEq, Nat.reduceAdd, Nat.reduceLeDiff, renI, zbt] | with_reducible intro _ | ((with_reducible apply And.intro); omega))
    exact ⟨_, zbj (l := cs) trivial rfl (by omega), rfl⟩
  rw [if_neg h8]
  (repeat first | simp (disch := try exact dis1) only [evD, Nat.reduceBEq, Nat.reduceAdd, Nat.reduceLeDiff, dT, dF, fldP, za, St.cells, zbt] | with_reducible intro _ | ((with_reducible apply And.intro); omega))
  exact ⟨_, zbj (l := []) trivial rfl (by simp only [List.length_nil]; omega), rfl⟩
end Go.Ab
