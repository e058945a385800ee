/-
  Part 17 of the proof: how the calls of this program run, over values instead of memory, and what each function computes.
-/
import Derived.Test.YtmlhipilbnjhiaaGreatKp
set_option linter.unusedVariables false
set_option linter.unusedSimpArgs false
set_option linter.unnecessarySimpa false
set_option linter.unusedSectionVars false

namespace Go.Ab
open Go.RowKit Go.Proofs

theorem flXX {r : List AV} (h : r.all AV.flat = true) {e e2 : Ex} : (AV.agg (encX e) :: AV.agg (encX e2) :: r).all AV.flat = true := by
  have h1 := flX (e := e) h
  have h2 := flX (e := e2) h
  simp only [List.all_cons, Bool.and_eq_true] at h1 h2 ⊢
  exact ⟨h1.1, h2⟩
theorem flNN {r : List AV} (h : r.all AV.flat = true) {e e2 : Nd} : (AV.agg (encN e) :: AV.agg (encN e2) :: r).all AV.flat = true := by
  have h1 := flN (e := e) h
  have h2 := flN (e := e2) h
  simp only [List.all_cons, Bool.and_eq_true] at h1 h2 ⊢
  exact ⟨h1.1, h2⟩

set_option maxRecDepth 20000 in
theorem R19_Same_ok : ∀ (k : Nat) (e : Ex), sizeX e ≤ k → PureFn Tryz.prog f_R19_Same [.agg (encX e), .agg (encX e)] (· = .bool true) := by
  intro k
  induction k with
  | zero => intro e h; obtain ⟨_, _, _, _, l⟩ := e; rw [sizeX] at h; omega
  | succ k ih =>
  intro e hk
  obtain ⟨op, nn, v, w, l⟩ := e
  refine fn_x cf_R19_Same rfl ?_
  unfold ac_R19_Same
  have hB : big = 9223372036854775807 := rfl
  rw [sizeX] at hk
  rw [encX_eq]
  (repeat (first | (simp (disch := first | exact dis1 | fail) only [evA, Nat.reduceBEq, Nat.reduceAdd, Nat.reduceLeDiff, boxR, rboxR, allocR, fldR, binI, unR, pickR, mknilR, mkslR, buildSlR, buildR, extR, convI, eqB, evU, wrap64, fldP, dF]) | (with_reducible intro _) | ((with_reducible apply And.intro); omega)))
  refine loopX_intro (fun i : Nat => ([(2, encP 5 [.int .i64 op, .int .u32 nn, .int .i64 v, .int .i64 w, encL 5 encX l]), (3, encP 5 [.int .i64 op, .int .u32 nn, .int .i64 v, .int .i64 w, encL 5 encX l]), (5, .int .i64 i)], [])) 0 (fun i => i ≤ l.length) (fun i => l.length - i) 0 (Nat.zero_le _) (Ent.keep rfl (by (try simp [subK, Kn.get, beq_eq]) <;> (repeat' with_reducible apply And.intro) <;> first | rfl | omega | (simp; done))) ?_
  intro i hi wf
  unfold ac_R19_Same_l0
  by_cases hl : i < l.length
  · have hm := sizeX_mem (List.getElem_mem hl)
    (repeat (first | (simp (disch := first | exact dis1 | fail) only [evA, Nat.reduceBEq, Nat.reduceAdd, Nat.reduceLeDiff, boxR, rboxR, allocR, fldR, binI, unR, pickR, mknilR, mkslR, buildSlR, buildR, extR, convI, eqB, evU, wrap64, fldP, dT, getD_map hl, encX_len, encX_five]) | (with_reducible intro _) | ((with_reducible apply And.intro); omega)))
    refine callqX_fix (call_flat (ih l[i] (by omega)) (flXX rfl)) ?_
    (repeat (first | (simp (disch := first | exact dis1 | fail) only [evA, Nat.reduceBEq, Nat.reduceAdd, Nat.reduceLeDiff, boxR, rboxR, allocR, fldR, binI, unR, pickR, mknilR, mkslR, buildSlR, buildR, extR, convI, eqB, evU, wrap64]) | (with_reducible intro _) | ((with_reducible apply And.intro); omega)))
    exact ⟨i + 1, by omega, by omega, Ent.keep rfl (by (try simp [subK, Kn.get, beq_eq]) <;> (repeat' with_reducible apply And.intro) <;> first | rfl | omega | (simp; done))⟩
  · (repeat (first | (simp (disch := first | exact dis1 | fail) only [evA, Nat.reduceBEq, Nat.reduceAdd, Nat.reduceLeDiff, boxR, rboxR, allocR, fldR, binI, unR, pickR, mknilR, mkslR, buildSlR, buildR, extR, convI, eqB, evU, wrap64, fldP, dF]) | (with_reducible intro _) | ((with_reducible apply And.intro); omega)))
    unfold ac_R19_Same_k1
    (repeat (first | (simp (disch := first | exact dis1 | fail) only [evA, Nat.reduceBEq, Nat.reduceAdd, Nat.reduceLeDiff, boxR, rboxR, allocR, fldR, binI, unR, pickR, mknilR, mkslR, buildSlR, buildR, extR, convI, eqB, evU, wrap64, rs_R19_Same]) | (with_reducible intro _) | ((with_reducible apply And.intro); omega)))
    exact ⟨_, .bool _ _, rfl⟩

set_option maxRecDepth 20000 in
theorem R36_Same_ok : ∀ (k : Nat) (e : Nd), sizeN e ≤ k → PureFn Tryz.prog f_R36_Same [.agg (encN e), .agg (encN e)] (· = .bool true) := by
  intro k
  induction k with
  | zero => intro e h; obtain ⟨_, _, l⟩ := e; rw [sizeN] at h; omega
  | succ k ih =>
  intro e hk
  obtain ⟨⟨kd, bl, lb⟩, c, l⟩ := e
  refine fn_x cf_R36_Same rfl ?_
  unfold ac_R36_Same
  have hB : big = 9223372036854775807 := rfl
  rw [sizeN] at hk
  have hE := encN_eq ⟨kd, bl, lb⟩ c l
  simp only at hE
  rw [hE]
  (repeat (first | (simp (disch := first | exact dis1 | fail) only [evA, Nat.reduceBEq, Nat.reduceAdd, Nat.reduceLeDiff, boxR, rboxR, allocR, fldR, binI, unR, pickR, mknilR, mkslR, buildSlR, buildR, extR, convI, eqB, evU, wrap64, fldP, dF]) | (with_reducible intro _) | ((with_reducible apply And.intro); omega)))
  refine loopX_intro (fun i : Nat => ([(2, encP 5 [.int .i64 kd, .int .i64 bl, .int .i64 lb, encL 5 encX c, encL 5 encN l]), (3, encP 5 [.int .i64 kd, .int .i64 bl, .int .i64 lb, encL 5 encX c, encL 5 encN l]), (5, .int .i64 i)], [])) 0 (fun i => i ≤ c.length) (fun i => c.length - i) 0 (Nat.zero_le _) (Ent.keep rfl (by (try simp [subK, Kn.get, beq_eq]) <;> (repeat' with_reducible apply And.intro) <;> first | rfl | omega | (simp; done))) ?_
  intro i hi wf
  unfold ac_R36_Same_l0
  by_cases hl : i < c.length
  · (repeat (first | (simp (disch := first | exact dis1 | fail) only [evA, Nat.reduceBEq, Nat.reduceAdd, Nat.reduceLeDiff, boxR, rboxR, allocR, fldR, binI, unR, pickR, mknilR, mkslR, buildSlR, buildR, extR, convI, eqB, evU, wrap64, fldP, dT, getD_map hl, encX_len, encX_five]) | (with_reducible intro _) | ((with_reducible apply And.intro); omega)))
    refine callqX_fix (call_flat (R19_Same_ok (sizeX c[i]) c[i] (Nat.le_refl _)) (flXX rfl)) ?_
    (repeat (first | (simp (disch := first | exact dis1 | fail) only [evA, Nat.reduceBEq, Nat.reduceAdd, Nat.reduceLeDiff, boxR, rboxR, allocR, fldR, binI, unR, pickR, mknilR, mkslR, buildSlR, buildR, extR, convI, eqB, evU, wrap64]) | (with_reducible intro _) | ((with_reducible apply And.intro); omega)))
    exact ⟨i + 1, by omega, by omega, Ent.keep rfl (by (try simp [subK, Kn.get, beq_eq]) <;> (repeat' with_reducible apply And.intro) <;> first | rfl | omega | (simp; done))⟩
  · (repeat (first | (simp (disch := first | exact dis1 | fail) only [evA, Nat.reduceBEq, Nat.reduceAdd, Nat.reduceLeDiff, boxR, rboxR, allocR, fldR, binI, unR, pickR, mknilR, mkslR, buildSlR, buildR, extR, convI, eqB, evU, wrap64, fldP, dF]) | (with_reducible intro _) | ((with_reducible apply And.intro); omega)))
    unfold ac_R36_Same_k3
    (repeat (first | (simp (disch := first | exact dis1 | fail) only [evA, Nat.reduceBEq, Nat.reduceAdd, Nat.reduceLeDiff, boxR, rboxR, allocR, fldR, binI, unR, pickR, mknilR, mkslR, buildSlR, buildR, extR, convI, eqB, evU, wrap64]) | (with_reducible intro _) | ((with_reducible apply And.intro); omega)))
    refine loopX_intro (fun i : Nat => ([(2, encP 5 [.int .i64 kd, .int .i64 bl, .int .i64 lb, encL 5 encX c, encL 5 encN l]), (3, encP 5 [.int .i64 kd, .int .i64 bl, .int .i64 lb, encL 5 encX c, encL 5 encN l]), (6, .int .i64 i)], [])) 0 (fun i => i ≤ l.length) (fun i => l.length - i) 0 (Nat.zero_le _) (Ent.keep rfl (by (try simp [subK, Kn.get, beq_eq]) <;> (repeat' with_reducible apply And.intro) <;> first | rfl | omega | (simp; done))) ?_
    intro i hi wf
    unfold ac_R36_Same_l1
    by_cases hl : i < l.length
    · have hm := sizeN_mem (List.getElem_mem hl)
      (repeat (first | (simp (disch := first | exact dis1 | fail) only [evA, Nat.reduceBEq, Nat.reduceAdd, Nat.reduceLeDiff, boxR, rboxR, allocR, fldR, binI, unR, pickR, mknilR, mkslR, buildSlR, buildR, extR, convI, eqB, evU, wrap64, fldP, dT, getD_map hl, encN_len, encN_five]) | (with_reducible intro _) | ((with_reducible apply And.intro); omega)))
      refine callqX_fix (call_flat (ih l[i] (by omega)) (flNN rfl)) ?_
      (repeat (first | (simp (disch := first | exact dis1 | fail) only [evA, Nat.reduceBEq, Nat.reduceAdd, Nat.reduceLeDiff, boxR, rboxR, allocR, fldR, binI, unR, pickR, mknilR, mkslR, buildSlR, buildR, extR, convI, eqB, evU, wrap64]) | (with_reducible intro _) | ((with_reducible apply And.intro); omega)))
      exact ⟨i + 1, by omega, by omega, Ent.keep rfl (by (try simp [subK, Kn.get, beq_eq]) <;> (repeat' with_reducible apply And.intro) <;> first | rfl | omega | (simp; done))⟩
    · (repeat (first | (simp (disch := first | exact dis1 | fail) only [evA, Nat.reduceBEq, Nat.reduceAdd, Nat.reduceLeDiff, boxR, rboxR, allocR, fldR, binI, unR, pickR, mknilR, mkslR, buildSlR, buildR, extR, convI, eqB, evU, wrap64, fldP, dF]) | (with_reducible intro _) | ((with_reducible apply And.intro); omega)))
      unfold ac_R36_Same_k2
      (repeat (first | (simp (disch := first | exact dis1 | fail) only [evA, Nat.reduceBEq, Nat.reduceAdd, Nat.reduceLeDiff, boxR, rboxR, allocR, fldR, binI, unR, pickR, mknilR, mkslR, buildSlR, buildR, extR, convI, eqB, evU, wrap64, rs_R36_Same]) | (with_reducible intro _) | ((with_reducible apply And.intro); omega)))
      exact ⟨_, .bool _ _, rfl⟩

theorem leavesNs_step {l : List Nd} {i : Nat} (h : i < l.length) : leavesNs (l.drop i) = (leavesN l[i] && leavesNs (l.drop (i + 1))) := by
  rw [List.drop_eq_getElem_cons h, leavesNs]

theorem L36_leaves_ok : ∀ (k : Nat) (e : Nd), sizeN e ≤ k → PureFn Tryz.prog f_L36_leaves [.agg (encN e)] (· = .bool (leavesN e)) := by
  intro k
  induction k with
  | zero => intro e h; obtain ⟨_, _, l⟩ := e; rw [sizeN] at h; omega
  | succ k ih =>
  intro e hk
  obtain ⟨⟨kd, bl, lb⟩, c, l⟩ := e
  refine fn_x cf_L36_leaves rfl ?_
  unfold ac_L36_leaves
  have hB : big = 9223372036854775807 := rfl
  rw [sizeN] at hk
  have hE := encN_eq ⟨kd, bl, lb⟩ c l
  simp only at hE
  rw [hE]
  have hlv : leavesN (.mk ⟨kd, bl, lb⟩ c l) = (bif decide (kd = 8) && !l.isEmpty then false else leavesNs l) := by rw [leavesN]
  have body : leavesN (.mk ⟨kd, bl, lb⟩ c l) = leavesNs l → loopX Tryz.prog 0 ac_L36_leaves_l0 (blockQ 0 (seqQ Tryz.prog 0 ac_L36_leaves_k1 (retK rs_L36_leaves fun v H' x => ∃ a, Frz H' v a ∧ a = .bool (leavesN (.mk ⟨kd, bl, lb⟩ c l))))) [(1, encP 5 [.int .i64 kd, .int .i64 bl, .int .i64 lb, encL 5 encX c, encL 5 encN l]), (3, .int .i64 0)] [] 0 := by
    intro hR
    rw [hR]
    generalize hR2 : leavesNs l = R
    refine loopX_intro (fun i : Nat => ([(1, encP 5 [.int .i64 kd, .int .i64 bl, .int .i64 lb, encL 5 encX c, encL 5 encN l]), (3, .int .i64 i)], [])) 0 (fun i => i ≤ l.length ∧ leavesNs (l.drop i) = R) (fun i => l.length - i) 0 ⟨Nat.zero_le _, hR2⟩ (Ent.keep rfl (by (try simp [subK, Kn.get, beq_eq]) <;> (repeat' with_reducible apply And.intro) <;> first | rfl | omega | (simp; done))) ?_
    rintro i ⟨hi, hgo⟩ wf
    unfold ac_L36_leaves_l0
    by_cases hl : i < l.length
    · have hm := sizeN_mem (List.getElem_mem hl)
      rw [leavesNs_step hl] at hgo
      (repeat (first | (simp (disch := first | exact dis1 | fail) only [evA, Nat.reduceBEq, Nat.reduceAdd, Nat.reduceLeDiff, boxR, rboxR, allocR, fldR, binI, unR, pickR, mknilR, mkslR, buildSlR, buildR, extR, convI, eqB, evU, wrap64, fldP, dT, getD_map hl, encN_len, encN_five]) | (with_reducible intro _) | ((with_reducible apply And.intro); omega)))
      refine callX_fix (call_flat (ih l[i] (by omega)) (flN rfl)) ?_
      cases hlf : leavesN l[i] with
      | true =>
        rw [hlf, Bool.true_and] at hgo
        (repeat (first | (simp (disch := first | exact dis1 | fail) only [evA, Nat.reduceBEq, Nat.reduceAdd, Nat.reduceLeDiff, boxR, rboxR, allocR, fldR, binI, unR, pickR, mknilR, mkslR, buildSlR, buildR, extR, convI, eqB, evU, wrap64]) | (with_reducible intro _) | ((with_reducible apply And.intro); omega)))
        exact ⟨i + 1, ⟨by omega, hgo⟩, by omega, Ent.keep rfl (by (try simp [subK, Kn.get, beq_eq]) <;> (repeat' with_reducible apply And.intro) <;> first | rfl | omega | (simp; done))⟩
      | false =>
        rw [hlf, Bool.false_and] at hgo
        subst hgo
        (repeat (first | (simp (disch := first | exact dis1 | fail) only [evA, Nat.reduceBEq, Nat.reduceAdd, Nat.reduceLeDiff, boxR, rboxR, allocR, fldR, binI, unR, pickR, mknilR, mkslR, buildSlR, buildR, extR, convI, eqB, evU, wrap64, rs_L36_leaves]) | (with_reducible intro _) | ((with_reducible apply And.intro); omega)))
        exact ⟨_, .bool _ _, rfl⟩
    · rw [List.drop_of_length_le (by omega), leavesNs] at hgo
      subst hgo
      (repeat (first | (simp (disch := first | exact dis1 | fail) only [evA, Nat.reduceBEq, Nat.reduceAdd, Nat.reduceLeDiff, boxR, rboxR, allocR, fldR, binI, unR, pickR, mknilR, mkslR, buildSlR, buildR, extR, convI, eqB, evU, wrap64, fldP, dF]) | (with_reducible intro _) | ((with_reducible apply And.intro); omega)))
      unfold ac_L36_leaves_k1
      (repeat (first | (simp (disch := first | exact dis1 | fail) only [evA, Nat.reduceBEq, Nat.reduceAdd, Nat.reduceLeDiff, boxR, rboxR, allocR, fldR, binI, unR, pickR, mknilR, mkslR, buildSlR, buildR, extR, convI, eqB, evU, wrap64, rs_L36_leaves]) | (with_reducible intro _) | ((with_reducible apply And.intro); omega)))
      exact ⟨_, .bool _ _, rfl⟩
  by_cases h8 : kd = 8
  · rw [decide_eq_true h8, Bool.true_and] at hlv
    by_cases h0 : 0 < l.length
    · have : l.isEmpty = false := by cases l with | nil => simp at h0 | cons a l => rfl
      rw [this] at hlv
      rw [hlv]
      (repeat (first | (simp (disch := first | exact dis1 | fail) only [evA, Nat.reduceBEq, Nat.reduceAdd, Nat.reduceLeDiff, boxR, rboxR, allocR, fldR, binI, unR, pickR, mknilR, mkslR, buildSlR, buildR, extR, convI, eqB, evU, wrap64, fldP, dT, rs_L36_leaves]) | (with_reducible intro _) | ((with_reducible apply And.intro); omega)))
      exact ⟨_, .bool _ _, rfl⟩
    · obtain rfl : l = [] := List.eq_nil_of_length_eq_zero (by omega)
      (repeat (first | (simp (disch := first | exact dis1 | fail) only [evA, Nat.reduceBEq, Nat.reduceAdd, Nat.reduceLeDiff, boxR, rboxR, allocR, fldR, binI, unR, pickR, mknilR, mkslR, buildSlR, buildR, extR, convI, eqB, evU, wrap64, fldP, dT, dF, List.length_nil]) | (with_reducible intro _) | ((with_reducible apply And.intro); omega)))
      exact body hlv
  · rw [decide_eq_false h8, Bool.false_and] at hlv
    (repeat (first | (simp (disch := first | exact dis1 | fail) only [evA, Nat.reduceBEq, Nat.reduceAdd, Nat.reduceLeDiff, boxR, rboxR, allocR, fldR, binI, unR, pickR, mknilR, mkslR, buildSlR, buildR, extR, convI, eqB, evU, wrap64, fldP, dF]) | (with_reducible intro _) | ((with_reducible apply And.intro); omega)))
    exact body hlv

theorem L36_StructureSimplifies_ok (e : Nd) : PureFn Tryz.prog f_L36_StructureSimplifies [.agg (encN e)] (· = .bool true) := by
  refine fn_x cf_L36_StructureSimplifies rfl ?_
  unfold ac_L36_StructureSimplifies
  have hB : big = 9223372036854775807 := rfl
  (repeat (first | (simp (disch := first | exact dis1 | fail) only [evA, Nat.reduceBEq, Nat.reduceAdd, Nat.reduceLeDiff, boxR, rboxR, allocR, fldR, binI, unR, pickR, mknilR, mkslR, buildSlR, buildR, extR, convI, eqB, evU, wrap64, encN_len, encN_flat, encN_five]) | (with_reducible intro _) | ((with_reducible apply And.intro); omega)))
  refine callX_fix (call_flat (L36_small_ok e) (flN rfl)) ?_
  cases hsm : smallN e with
  | false =>
    (repeat (first | (simp (disch := first | exact dis1 | fail) only [evA, Nat.reduceBEq, Nat.reduceAdd, Nat.reduceLeDiff, boxR, rboxR, allocR, fldR, binI, unR, pickR, mknilR, mkslR, buildSlR, buildR, extR, convI, eqB, evU, wrap64]) | (with_reducible intro _) | ((with_reducible apply And.intro); omega)))
    refine callX_fix (call_flat L36_exampleHolds_ok rfl) ?_
    (repeat (first | (simp (disch := first | exact dis1 | fail) only [evA, Nat.reduceBEq, Nat.reduceAdd, Nat.reduceLeDiff, boxR, rboxR, allocR, fldR, binI, unR, pickR, mknilR, mkslR, buildSlR, buildR, extR, convI, eqB, evU, wrap64, rs_L36_StructureSimplifies]) | (with_reducible intro _) | ((with_reducible apply And.intro); omega)))
    exact ⟨_, .bool _ _, rfl⟩
  | true =>
    have hs := smallN_size hsm
    have hs2 := sizeN_simpN e
    (repeat (first | (simp (disch := first | exact dis1 | fail) only [evA, Nat.reduceBEq, Nat.reduceAdd, Nat.reduceLeDiff, boxR, rboxR, allocR, fldR, binI, unR, pickR, mknilR, mkslR, buildSlR, buildR, extR, convI, eqB, evU, wrap64, encN_len, encN_flat, encN_five]) | (with_reducible intro _) | ((with_reducible apply And.intro); omega)))
    refine callX_fix (call_flat (structure_Simplify_ok 1000 e hs (by omega) (smallN_cond hsm)) (flN rfl)) ?_
    (repeat (first | (simp (disch := first | exact dis1 | fail) only [evA, Nat.reduceBEq, Nat.reduceAdd, Nat.reduceLeDiff, boxR, rboxR, allocR, fldR, binI, unR, pickR, mknilR, mkslR, buildSlR, buildR, extR, convI, eqB, evU, wrap64, encN_len, encN_flat, encN_five]) | (with_reducible intro _) | ((with_reducible apply And.intro); omega)))
    refine callX_fix (call_flat (L36_leaves_ok 1000 e hs) (flN rfl)) ?_
    cases hlf : leavesN e with
    | false =>
      (repeat (first | (simp (disch := first | exact dis1 | fail) only [evA, Nat.reduceBEq, Nat.reduceAdd, Nat.reduceLeDiff, boxR, rboxR, allocR, fldR, binI, unR, pickR, mknilR, mkslR, buildSlR, buildR, extR, convI, eqB, evU, wrap64, encN_len, encN_flat, encN_five]) | (with_reducible intro _) | ((with_reducible apply And.intro); omega)))
      refine callqX_fix (call_flat (R36_Simplify_ok 1000 e hs (by omega)) (flN rfl)) ?_
      (repeat (first | (simp (disch := first | exact dis1 | fail) only [evA, Nat.reduceBEq, Nat.reduceAdd, Nat.reduceLeDiff, boxR, rboxR, allocR, fldR, binI, unR, pickR, mknilR, mkslR, buildSlR, buildR, extR, convI, eqB, evU, wrap64, encN_len, encN_flat, encN_five]) | (with_reducible intro _) | ((with_reducible apply And.intro); omega)))
      refine callqX_fix (call_flat (R36_Same_ok 1000 (simpN e) (by omega)) (flNN rfl)) ?_
      (repeat (first | (simp (disch := first | exact dis1 | fail) only [evA, Nat.reduceBEq, Nat.reduceAdd, Nat.reduceLeDiff, boxR, rboxR, allocR, fldR, binI, unR, pickR, mknilR, mkslR, buildSlR, buildR, extR, convI, eqB, evU, wrap64]) | (with_reducible intro _) | ((with_reducible apply And.intro); omega)))
      refine callqX_fix (call_flat L36_exampleHolds_ok rfl) ?_
      (repeat (first | (simp (disch := first | exact dis1 | fail) only [evA, Nat.reduceBEq, Nat.reduceAdd, Nat.reduceLeDiff, boxR, rboxR, allocR, fldR, binI, unR, pickR, mknilR, mkslR, buildSlR, buildR, extR, convI, eqB, evU, wrap64, rs_L36_StructureSimplifies]) | (with_reducible intro _) | ((with_reducible apply And.intro); omega)))
      exact ⟨_, .bool _ _, rfl⟩
    | true =>
      have hg := coll_simpN gotoP_quiet e hlf
      have hlb := coll_simpN labP_quiet e hlf
      have hbk := coll_simpN blkP_quiet e hlf
      have h1 := structure_Gotos_ok (simpN e) (by omega)
      have h2 := structure_Labels_ok (simpN e) (by omega)
      have h3 := structure_Blocks_ok (simpN e) (by omega)
      rw [hg] at h1
      rw [hlb] at h2
      rw [hbk] at h3
      (repeat (first | (simp (disch := first | exact dis1 | fail) only [evA, Nat.reduceBEq, Nat.reduceAdd, Nat.reduceLeDiff, boxR, rboxR, allocR, fldR, binI, unR, pickR, mknilR, mkslR, buildSlR, buildR, extR, convI, eqB, evU, wrap64, encN_len, encN_flat, encN_five]) | (with_reducible intro _) | ((with_reducible apply And.intro); omega)))
      refine callqX_fix (call_flat (R36_Simplify_ok 1000 e hs (by omega)) (flN rfl)) ?_
      (repeat (first | (simp (disch := first | exact dis1 | fail) only [evA, Nat.reduceBEq, Nat.reduceAdd, Nat.reduceLeDiff, boxR, rboxR, allocR, fldR, binI, unR, pickR, mknilR, mkslR, buildSlR, buildR, extR, convI, eqB, evU, wrap64, encN_len, encN_flat, encN_five]) | (with_reducible intro _) | ((with_reducible apply And.intro); omega)))
      refine callqX_fix (call_flat (R36_Same_ok 1000 (simpN e) (by omega)) (flNN rfl)) ?_
      (repeat (first | (simp (disch := first | exact dis1 | fail) only [evA, Nat.reduceBEq, Nat.reduceAdd, Nat.reduceLeDiff, boxR, rboxR, allocR, fldR, binI, unR, pickR, mknilR, mkslR, buildSlR, buildR, extR, convI, eqB, evU, wrap64, encN_len, encN_flat, encN_five]) | (with_reducible intro _) | ((with_reducible apply And.intro); omega)))
      refine callqX_fix (call_flat h1 (flN rfl)) ?_
      (repeat (first | (simp (disch := first | exact dis1 | fail) only [evA, Nat.reduceBEq, Nat.reduceAdd, Nat.reduceLeDiff, boxR, rboxR, allocR, fldR, binI, unR, pickR, mknilR, mkslR, buildSlR, buildR, extR, convI, eqB, evU, wrap64, encN_len, encN_flat, encN_five]) | (with_reducible intro _) | ((with_reducible apply And.intro); omega)))
      refine callqX_fix (call_flat (R36_Gotos_ok 1000 e hs (by omega)) (flN rfl)) ?_
      (repeat (first | (simp (disch := first | exact dis1 | fail) only [evA, Nat.reduceBEq, Nat.reduceAdd, Nat.reduceLeDiff, boxR, rboxR, allocR, fldR, binI, unR, pickR, mknilR, mkslR, buildSlR, buildR, extR, convI, eqB, evU, wrap64, encN_len, encN_flat, encN_five, dT]) | (with_reducible intro _) | ((with_reducible apply And.intro); omega)))
      refine callqX_fix (call_flat h2 (flN rfl)) ?_
      (repeat (first | (simp (disch := first | exact dis1 | fail) only [evA, Nat.reduceBEq, Nat.reduceAdd, Nat.reduceLeDiff, boxR, rboxR, allocR, fldR, binI, unR, pickR, mknilR, mkslR, buildSlR, buildR, extR, convI, eqB, evU, wrap64, encN_len, encN_flat, encN_five]) | (with_reducible intro _) | ((with_reducible apply And.intro); omega)))
      refine callqX_fix (call_flat (R36_Labels_ok 1000 e hs (by omega)) (flN rfl)) ?_
      (repeat (first | (simp (disch := first | exact dis1 | fail) only [evA, Nat.reduceBEq, Nat.reduceAdd, Nat.reduceLeDiff, boxR, rboxR, allocR, fldR, binI, unR, pickR, mknilR, mkslR, buildSlR, buildR, extR, convI, eqB, evU, wrap64]) | (with_reducible intro _) | ((with_reducible apply And.intro); omega)))
      refine callqX_fix (call_flat (R24_Ints_ok (coll labP e) (coll labP e)) rfl) ?_
      rw [decide_eq_true rfl]
      (repeat (first | (simp (disch := first | exact dis1 | fail) only [evA, Nat.reduceBEq, Nat.reduceAdd, Nat.reduceLeDiff, boxR, rboxR, allocR, fldR, binI, unR, pickR, mknilR, mkslR, buildSlR, buildR, extR, convI, eqB, evU, wrap64, encN_len, encN_flat, encN_five]) | (with_reducible intro _) | ((with_reducible apply And.intro); omega)))
      refine callqX_fix (call_flat h3 (flN rfl)) ?_
      (repeat (first | (simp (disch := first | exact dis1 | fail) only [evA, Nat.reduceBEq, Nat.reduceAdd, Nat.reduceLeDiff, boxR, rboxR, allocR, fldR, binI, unR, pickR, mknilR, mkslR, buildSlR, buildR, extR, convI, eqB, evU, wrap64, encN_len, encN_flat, encN_five]) | (with_reducible intro _) | ((with_reducible apply And.intro); omega)))
      refine callqX_fix (call_flat (R36_Blocks_ok 1000 e hs (by omega)) (flN rfl)) ?_
      (repeat (first | (simp (disch := first | exact dis1 | fail) only [evA, Nat.reduceBEq, Nat.reduceAdd, Nat.reduceLeDiff, boxR, rboxR, allocR, fldR, binI, unR, pickR, mknilR, mkslR, buildSlR, buildR, extR, convI, eqB, evU, wrap64]) | (with_reducible intro _) | ((with_reducible apply And.intro); omega)))
      refine callqX_fix (call_flat (R24_Ints_ok (coll blkP e) (coll blkP e)) rfl) ?_
      rw [decide_eq_true rfl]
      (repeat (first | (simp (disch := first | exact dis1 | fail) only [evA, Nat.reduceBEq, Nat.reduceAdd, Nat.reduceLeDiff, boxR, rboxR, allocR, fldR, binI, unR, pickR, mknilR, mkslR, buildSlR, buildR, extR, convI, eqB, evU, wrap64]) | (with_reducible intro _) | ((with_reducible apply And.intro); omega)))
      refine callqX_fix (call_flat L36_exampleHolds_ok rfl) ?_
      (repeat (first | (simp (disch := first | exact dis1 | fail) only [evA, Nat.reduceBEq, Nat.reduceAdd, Nat.reduceLeDiff, boxR, rboxR, allocR, fldR, binI, unR, pickR, mknilR, mkslR, buildSlR, buildR, extR, convI, eqB, evU, wrap64, rs_L36_StructureSimplifies]) | (with_reducible intro _) | ((with_reducible apply And.intro); omega)))
      exact ⟨_, .bool _ _, rfl⟩

end Go.Ab
