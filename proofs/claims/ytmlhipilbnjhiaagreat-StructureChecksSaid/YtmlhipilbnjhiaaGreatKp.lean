/-
  Part 16 of the proof: how the calls of this program run, over values instead of memory, and what each function computes.
-/
import Derived.Test.YtmlhipilbnjhiaaGreatKo
set_option maxRecDepth 100000
set_option linter.unusedVariables false
set_option linter.unusedSimpArgs false
set_option linter.unnecessarySimpa false
set_option linter.unusedSectionVars false

namespace Go.Ab
open Go.RowKit Go.Proofs
def fm (p : NdF → List Int) (l : List Nd) : List Int := l.flatMap fun x => p x.f
theorem zzQ {p : NdF → List Int} {l : List Nd} {i : Nat} (h : i < l.length) : fm p (l.drop i) = p l[i].f ++ fm p (l.drop (i + 1)) := by
  rw [List.drop_eq_getElem_cons h, fm, List.flatMap_cons]; rfl
theorem zp5 (p : NdF → List Int) (n : Nd) : fm p (allN n) = coll p n := (ztc p n).symm
theorem zwl (p : NdF → List Int) : fm p [] = [] := rfl
theorem zrh {e : Nd} (h : zsA e = true) : za7 e ≤ 1000 := by
  unfold zsA at h
  have h0 : 0 ≤ zcs e 300 := of_decide_eq_true h
  have := znl e 300 h0
  omega
theorem zsI {n : Nat} {c : List AV} (h : zG c = true) : zw (List.replicate n c) := fun d hd => by rw [List.eq_of_mem_replicate hd]; exact h
def zpf (v : Int) : Bool := decide (0 ≤ v ∧ v < 65536)
def zoQ (w : Int) : Bool := decide (w = 1 ∨ w = 2 ∨ w = 4)
theorem zgm (v : Int) : zk Tryz.prog zdt [.int .i64 v] (· = .bool (zpf v)) := by
  refine fn_x znJ rfl ?_
  unfold zjA zpf
  by_cases h1 : 0 ≤ v
  · (repeat first | simp (disch := try exact dis1) only [evD, Nat.reduceBEq, Nat.reduceAdd, Nat.reduceLeDiff, dT, zgl] | with_reducible intro _ | ((with_reducible apply And.intro); omega))
    exact ⟨_, .bool _ _, congrArg _ (decide_eq_decide.2 (by omega))⟩
  · (repeat first | simp (disch := try exact dis1) only [evD, Nat.reduceBEq, Nat.reduceAdd, Nat.reduceLeDiff, dF, zgl] | with_reducible intro _ | ((with_reducible apply And.intro); omega))
    exact ⟨_, .bool _ _, rfl⟩
theorem zlm (v : Int) : zk Tryz.prog zfI [.int .i64 v] (· = .bool (zpf v)) := by
  refine fn_x zqX rfl ?_
  unfold zlS zpf
  by_cases h1 : 0 ≤ v
  · (repeat first | simp (disch := try exact dis1) only [evD, Nat.reduceBEq, Nat.reduceAdd, Nat.reduceLeDiff, dT, zir] | with_reducible intro _ | ((with_reducible apply And.intro); omega))
    exact ⟨_, .bool _ _, congrArg _ (decide_eq_decide.2 (by omega))⟩
  · (repeat first | simp (disch := try exact dis1) only [evD, Nat.reduceBEq, Nat.reduceAdd, Nat.reduceLeDiff, dF, zir] | with_reducible intro _ | ((with_reducible apply And.intro); omega))
    exact ⟨_, .bool _ _, rfl⟩
theorem zlW (w : Int) : zk Tryz.prog zfM [.int .i64 w] (· = .bool (zoQ w)) := by
  refine fn_x zq2 rfl ?_
  unfold zlU zoQ
  by_cases h1 : w = 1
  · (repeat first | simp (disch := try exact dis1) only [evD, Nat.reduceBEq, Nat.reduceAdd, Nat.reduceLeDiff, dT, zgb] | with_reducible intro _ | ((with_reducible apply And.intro); omega))
    exact ⟨_, .bool _ _, rfl⟩
  by_cases h2 : w = 2
  · (repeat first | simp (disch := try exact dis1) only [evD, Nat.reduceBEq, Nat.reduceAdd, Nat.reduceLeDiff, dF, dT, zgb] | with_reducible intro _ | ((with_reducible apply And.intro); omega))
    exact ⟨_, .bool _ _, rfl⟩
  · (repeat first | simp (disch := try exact dis1) only [evD, Nat.reduceBEq, Nat.reduceAdd, Nat.reduceLeDiff, dF, zgb] | with_reducible intro _ | ((with_reducible apply And.intro); omega))
    exact ⟨_, .bool _ _, congrArg _ (decide_eq_decide.2 (by omega))⟩
mutual
def zmF : Ex → Int → Bool
  | .mk _ _ _ _ l, m => if m < 1 then true else zkq l (m - 1)
def zkq : List Ex → Int → Bool
  | [], _ => false
  | e :: l, m => zmF e m || zkq l m
end
theorem zn6 : ∀ (l : List Ex) (m : Int), zkq l m = l.any (zmF · m)
  | [], m => by rw [zkq]; rfl
  | e :: l, m => by rw [zkq, zn6 l m]; rfl
def zn (op n v w : Int) (k : Nat) : Bool := decide ((op = 1 ∧ v = 0 ∧ w = 0 ∧ k = 0) ∨ (op = 2 ∧ n = 0 ∧ w = 0 ∧ k = 0 ∧ 0 ≤ v ∧ v < 65536) ∨ ((op = 16 ∨ op = 17) ∧ n = 0 ∧ v = 0 ∧ w = 0 ∧ k = 1) ∨ (op = 18 ∧ n = 0 ∧ v = 0 ∧ (w = 1 ∨ w = 2 ∨ w = 4) ∧ k = 1) ∨ (op = 19 ∧ n = 0 ∧ v = 0 ∧ (w = 1 ∨ w = 2) ∧ k = 1) ∨ (3 ≤ op ∧ op ≤ 15 ∧ n = 0 ∧ v = 0 ∧ w = 0 ∧ k = 2))
mutual
def zfR : Ex → Bool
  | .mk op n v w l => zdc l && zn op n v w l.length
def zdc : List Ex → Bool
  | [] => true
  | e :: l => zfR e && zdc l
end
theorem zcw : ∀ (l : List Ex), zdc l = l.all zfR
  | [] => by rw [zdc]; rfl
  | e :: l => by rw [zdc, zcw l]; rfl
def ze1 (e : Ex) : Int := if zmF e 64 = true then 20 else if zfR e = true then 0 else 2
theorem zoz : ∀ (k : Nat) (e : Ex) (m : Int), zfV e ≤ k → -1000 ≤ m → m ≤ 1000 → zk Tryz.prog zep [.agg (encX e), .int .i64 m] (· = .bool (zmF e m)) := by
  intro k
  induction k with
  | zero => intro e m h; obtain ⟨_, _, _, _, l⟩ := e; rw [zfV] at h; omega
  | succ k ih =>
  intro e m hk hm1 hm2
  obtain ⟨op, nn, v, w, l⟩ := e
  refine fn_x zoS rfl ?_
  unfold zj8
  have hB := hBig
  rw [zfV] at hk
  rw [zgs, zmF]
  by_cases h1 : m < 1
  · rw [if_pos h1]
    (repeat first | simp (disch := try exact dis1) only [evD, Nat.reduceBEq, Nat.reduceAdd, Nat.reduceLeDiff, fldP, dT, zfc] | with_reducible intro _ | ((with_reducible apply And.intro); omega))
    exact ⟨_, .bool _ _, rfl⟩
  · rw [if_neg h1]
    (repeat first | simp (disch := try exact dis1) only [evD, Nat.reduceBEq, Nat.reduceAdd, Nat.reduceLeDiff, fldP, dF] | with_reducible intro _ | ((with_reducible apply And.intro); omega))
    generalize hR : zkq l (m - 1) = R
    refine zm (fun i : Nat => ([(1, .int .i64 m), (2, encP 5 [.int .i64 op, .int .u32 nn, .int .i64 v, .int .i64 w, encL 5 encX l]), (5, .int .i64 i)], [])) 0 (fun i => i ≤ l.length ∧ zkq (l.drop i) (m - 1) = R) (fun i => l.length - i) 0 ⟨Nat.zero_le _, hR⟩ (Ent.keep rfl fin5) ?_
    rintro i ⟨hi, hgo⟩ wf
    unfold zhQ
    by_cases hl : i < l.length
    · have hm := zgA (List.getElem_mem hl)
      rw [List.drop_eq_getElem_cons hl, zkq] at hgo
      (repeat first | simp (disch := try exact dis1) only [evD, Nat.reduceBEq, Nat.reduceAdd, Nat.reduceLeDiff, fldP, dT, zo hl, za1, zar] | with_reducible intro _ | ((with_reducible apply And.intro); omega))
      refine ze (zh (ih l[i] (m - 1) (by omega) (by omega) (by omega)) (flX rfl)) ?_
      cases hd : zmF l[i] (m - 1) with
      | true =>
        rw [hd, Bool.true_or] at hgo
        subst hgo
        (repeat first | simp (disch := try exact dis1) only [evD, Nat.reduceBEq, Nat.reduceAdd, Nat.reduceLeDiff, zfc] | with_reducible intro _ | ((with_reducible apply And.intro); omega))
        exact ⟨_, .bool _ _, rfl⟩
      | false =>
        rw [hd, Bool.false_or] at hgo
        (repeat first | simp (disch := try exact dis1) only [evD, Nat.reduceBEq, Nat.reduceAdd, Nat.reduceLeDiff] | with_reducible intro _ | ((with_reducible apply And.intro); omega))
        exact ⟨i + 1, ⟨by omega, hgo⟩, by omega, Ent.keep rfl fin5⟩
    · rw [List.drop_of_length_le (by omega), zkq] at hgo
      subst hgo
      (repeat first | simp (disch := try exact dis1) only [evD, Nat.reduceBEq, Nat.reduceAdd, Nat.reduceLeDiff, fldP, dF] | with_reducible intro _ | ((with_reducible apply And.intro); omega))
      unfold zhS
      (repeat first | simp (disch := try exact dis1) only [evD, Nat.reduceBEq, Nat.reduceAdd, Nat.reduceLeDiff, zfc] | with_reducible intro _ | ((with_reducible apply And.intro); omega))
      exact ⟨_, .bool _ _, rfl⟩
theorem zmS {op nn v w i : Int} {l : List Ex} (h : op = 1) :
    wpX Tryz.prog 0 zD (retK zf fun v' H' x => ∃ a, Frz H' v' a ∧ a = .bool (zn op nn v w l.length)) [(1, encP 5 [.int .i64 op, .int .u32 nn, .int .i64 v, .int .i64 w, encL 5 encX l]), (3, .int .i64 i), (8, .bool false)] [] 0 := by
  unfold zD
  have hB := hBig
  (repeat first | simp (disch := try exact dis1) only [evD, Nat.reduceBEq, Nat.reduceAdd, Nat.reduceLeDiff, dT, dF, fldP, zf] | with_reducible intro _ | ((with_reducible apply And.intro); omega))
  by_cases q0 : v = 0 <;> (repeat first | simp (disch := try exact dis1) only [evD, Nat.reduceBEq, Nat.reduceAdd, Nat.reduceLeDiff, dT, dF, fldP, zf] | with_reducible intro _ | ((with_reducible apply And.intro); omega))
  case neg =>
    unfold zn; exact ⟨_, .bool _ _, congrArg AV.bool lb⟩
  by_cases q1 : w = 0 <;> (repeat first | simp (disch := try exact dis1) only [evD, Nat.reduceBEq, Nat.reduceAdd, Nat.reduceLeDiff, dT, dF, fldP, zf] | with_reducible intro _ | ((with_reducible apply And.intro); omega))
  case neg =>
    unfold zn; exact ⟨_, .bool _ _, congrArg AV.bool lb⟩
  unfold zn; exact ⟨_, .bool _ _, congrArg AV.bool lb⟩
theorem zmL {op nn v w i : Int} {l : List Ex} (h : op = 2) :
    wpX Tryz.prog 0 zD (retK zf fun v' H' x => ∃ a, Frz H' v' a ∧ a = .bool (zn op nn v w l.length)) [(1, encP 5 [.int .i64 op, .int .u32 nn, .int .i64 v, .int .i64 w, encL 5 encX l]), (3, .int .i64 i), (8, .bool false)] [] 0 := by
  unfold zD
  have hB := hBig
  (repeat first | simp (disch := try exact dis1) only [evD, Nat.reduceBEq, Nat.reduceAdd, Nat.reduceLeDiff, dT, dF, fldP, zf] | with_reducible intro _ | ((with_reducible apply And.intro); omega))
  by_cases q0 : nn = 0 <;> (repeat first | simp (disch := try exact dis1) only [evD, Nat.reduceBEq, Nat.reduceAdd, Nat.reduceLeDiff, dT, dF, fldP, zf] | with_reducible intro _ | ((with_reducible apply And.intro); omega))
  case neg =>
    unfold zn; exact ⟨_, .bool _ _, congrArg AV.bool lb⟩
  by_cases q1 : w = 0 <;> (repeat first | simp (disch := try exact dis1) only [evD, Nat.reduceBEq, Nat.reduceAdd, Nat.reduceLeDiff, dT, dF, fldP, zf] | with_reducible intro _ | ((with_reducible apply And.intro); omega))
  case neg =>
    unfold zn; exact ⟨_, .bool _ _, congrArg AV.bool lb⟩
  by_cases q2 : l.length = 0 <;> (repeat first | simp (disch := try exact dis1) only [evD, Nat.reduceBEq, Nat.reduceAdd, Nat.reduceLeDiff, dT, dF, fldP, zf] | with_reducible intro _ | ((with_reducible apply And.intro); omega))
  case neg =>
    unfold zn; exact ⟨_, .bool _ _, congrArg AV.bool lb⟩
  refine ze (zh (zlm v) rfl) ?_
  unfold zpf
  (repeat first | simp (disch := try exact dis1) only [evD, Nat.reduceBEq, Nat.reduceAdd, Nat.reduceLeDiff, dT, dF, fldP, zf] | with_reducible intro _ | ((with_reducible apply And.intro); omega))
  unfold zn; exact ⟨_, .bool _ _, congrArg AV.bool lb⟩
theorem zmV {op nn v w i : Int} {l : List Ex} (h : op = 16) :
    wpX Tryz.prog 0 zD (retK zf fun v' H' x => ∃ a, Frz H' v' a ∧ a = .bool (zn op nn v w l.length)) [(1, encP 5 [.int .i64 op, .int .u32 nn, .int .i64 v, .int .i64 w, encL 5 encX l]), (3, .int .i64 i), (8, .bool false)] [] 0 := by
  unfold zD
  have hB := hBig
  (repeat first | simp (disch := try exact dis1) only [evD, Nat.reduceBEq, Nat.reduceAdd, Nat.reduceLeDiff, dT, dF, fldP, zf] | with_reducible intro _ | ((with_reducible apply And.intro); omega))
  by_cases q0 : nn = 0 <;> (repeat first | simp (disch := try exact dis1) only [evD, Nat.reduceBEq, Nat.reduceAdd, Nat.reduceLeDiff, dT, dF, fldP, zf] | with_reducible intro _ | ((with_reducible apply And.intro); omega))
  case neg =>
    unfold zn; exact ⟨_, .bool _ _, congrArg AV.bool lb⟩
  by_cases q1 : v = 0 <;> (repeat first | simp (disch := try exact dis1) only [evD, Nat.reduceBEq, Nat.reduceAdd, Nat.reduceLeDiff, dT, dF, fldP, zf] | with_reducible intro _ | ((with_reducible apply And.intro); omega))
  case neg =>
    unfold zn; exact ⟨_, .bool _ _, congrArg AV.bool lb⟩
  by_cases q2 : w = 0 <;> (repeat first | simp (disch := try exact dis1) only [evD, Nat.reduceBEq, Nat.reduceAdd, Nat.reduceLeDiff, dT, dF, fldP, zf] | with_reducible intro _ | ((with_reducible apply And.intro); omega))
  case neg =>
    unfold zn; exact ⟨_, .bool _ _, congrArg AV.bool lb⟩
  unfold zn; exact ⟨_, .bool _ _, congrArg AV.bool lb⟩
theorem zmA {op nn v w i : Int} {l : List Ex} (h : op = 17) :
    wpX Tryz.prog 0 zD (retK zf fun v' H' x => ∃ a, Frz H' v' a ∧ a = .bool (zn op nn v w l.length)) [(1, encP 5 [.int .i64 op, .int .u32 nn, .int .i64 v, .int .i64 w, encL 5 encX l]), (3, .int .i64 i), (8, .bool false)] [] 0 := by
  unfold zD
  have hB := hBig
  (repeat first | simp (disch := try exact dis1) only [evD, Nat.reduceBEq, Nat.reduceAdd, Nat.reduceLeDiff, dT, dF, fldP, zf] | with_reducible intro _ | ((with_reducible apply And.intro); omega))
  by_cases q0 : nn = 0 <;> (repeat first | simp (disch := try exact dis1) only [evD, Nat.reduceBEq, Nat.reduceAdd, Nat.reduceLeDiff, dT, dF, fldP, zf] | with_reducible intro _ | ((with_reducible apply And.intro); omega))
  case neg =>
    unfold zn; exact ⟨_, .bool _ _, congrArg AV.bool lb⟩
  by_cases q1 : v = 0 <;> (repeat first | simp (disch := try exact dis1) only [evD, Nat.reduceBEq, Nat.reduceAdd, Nat.reduceLeDiff, dT, dF, fldP, zf] | with_reducible intro _ | ((with_reducible apply And.intro); omega))
  case neg =>
    unfold zn; exact ⟨_, .bool _ _, congrArg AV.bool lb⟩
  by_cases q2 : w = 0 <;> (repeat first | simp (disch := try exact dis1) only [evD, Nat.reduceBEq, Nat.reduceAdd, Nat.reduceLeDiff, dT, dF, fldP, zf] | with_reducible intro _ | ((with_reducible apply And.intro); omega))
  case neg =>
    unfold zn; exact ⟨_, .bool _ _, congrArg AV.bool lb⟩
  unfold zn; exact ⟨_, .bool _ _, congrArg AV.bool lb⟩
theorem znm {op nn v w i : Int} {l : List Ex} (h : op = 18) :
    wpX Tryz.prog 0 zD (retK zf fun v' H' x => ∃ a, Frz H' v' a ∧ a = .bool (zn op nn v w l.length)) [(1, encP 5 [.int .i64 op, .int .u32 nn, .int .i64 v, .int .i64 w, encL 5 encX l]), (3, .int .i64 i), (8, .bool false)] [] 0 := by
  unfold zD
  have hB := hBig
  (repeat first | simp (disch := try exact dis1) only [evD, Nat.reduceBEq, Nat.reduceAdd, Nat.reduceLeDiff, dT, dF, fldP, zf] | with_reducible intro _ | ((with_reducible apply And.intro); omega))
  by_cases q0 : nn = 0 <;> (repeat first | simp (disch := try exact dis1) only [evD, Nat.reduceBEq, Nat.reduceAdd, Nat.reduceLeDiff, dT, dF, fldP, zf] | with_reducible intro _ | ((with_reducible apply And.intro); omega))
  case neg =>
    unfold zn; exact ⟨_, .bool _ _, congrArg AV.bool lb⟩
  by_cases q1 : v = 0 <;> (repeat first | simp (disch := try exact dis1) only [evD, Nat.reduceBEq, Nat.reduceAdd, Nat.reduceLeDiff, dT, dF, fldP, zf] | with_reducible intro _ | ((with_reducible apply And.intro); omega))
  case neg =>
    unfold zn; exact ⟨_, .bool _ _, congrArg AV.bool lb⟩
  by_cases w1 : w = 1
  case pos =>
    (repeat first | simp (disch := try exact dis1) only [evD, Nat.reduceBEq, Nat.reduceAdd, Nat.reduceLeDiff, dT, dF, fldP, zf] | with_reducible intro _ | ((with_reducible apply And.intro); omega))
    unfold zn; exact ⟨_, .bool _ _, congrArg AV.bool lb⟩
  (repeat first | simp (disch := try exact dis1) only [evD, Nat.reduceBEq, Nat.reduceAdd, Nat.reduceLeDiff, dT, dF, fldP, zf] | with_reducible intro _ | ((with_reducible apply And.intro); omega))
  by_cases w2 : w = 2
  case pos =>
    (repeat first | simp (disch := try exact dis1) only [evD, Nat.reduceBEq, Nat.reduceAdd, Nat.reduceLeDiff, dT, dF, fldP, zf] | with_reducible intro _ | ((with_reducible apply And.intro); omega))
    unfold zn; exact ⟨_, .bool _ _, congrArg AV.bool lb⟩
  (repeat first | simp (disch := try exact dis1) only [evD, Nat.reduceBEq, Nat.reduceAdd, Nat.reduceLeDiff, dT, dF, fldP, zf] | with_reducible intro _ | ((with_reducible apply And.intro); omega))
  by_cases w4 : w = 4
  case pos =>
    (repeat first | simp (disch := try exact dis1) only [evD, Nat.reduceBEq, Nat.reduceAdd, Nat.reduceLeDiff, dT, dF, fldP, zf] | with_reducible intro _ | ((with_reducible apply And.intro); omega))
    unfold zn; exact ⟨_, .bool _ _, congrArg AV.bool lb⟩
  (repeat first | simp (disch := try exact dis1) only [evD, Nat.reduceBEq, Nat.reduceAdd, Nat.reduceLeDiff, dT, dF, fldP, zf] | with_reducible intro _ | ((with_reducible apply And.intro); omega))
  unfold zn; exact ⟨_, .bool _ _, congrArg AV.bool lb⟩
theorem znb {op nn v w i : Int} {l : List Ex} (h : op = 19) :
    wpX Tryz.prog 0 zD (retK zf fun v' H' x => ∃ a, Frz H' v' a ∧ a = .bool (zn op nn v w l.length)) [(1, encP 5 [.int .i64 op, .int .u32 nn, .int .i64 v, .int .i64 w, encL 5 encX l]), (3, .int .i64 i), (8, .bool false)] [] 0 := by
  unfold zD
  have hB := hBig
  (repeat first | simp (disch := try exact dis1) only [evD, Nat.reduceBEq, Nat.reduceAdd, Nat.reduceLeDiff, dT, dF, fldP, zf] | with_reducible intro _ | ((with_reducible apply And.intro); omega))
  by_cases q0 : nn = 0 <;> (repeat first | simp (disch := try exact dis1) only [evD, Nat.reduceBEq, Nat.reduceAdd, Nat.reduceLeDiff, dT, dF, fldP, zf] | with_reducible intro _ | ((with_reducible apply And.intro); omega))
  case neg =>
    unfold zn; exact ⟨_, .bool _ _, congrArg AV.bool lb⟩
  by_cases q1 : v = 0 <;> (repeat first | simp (disch := try exact dis1) only [evD, Nat.reduceBEq, Nat.reduceAdd, Nat.reduceLeDiff, dT, dF, fldP, zf] | with_reducible intro _ | ((with_reducible apply And.intro); omega))
  case neg =>
    unfold zn; exact ⟨_, .bool _ _, congrArg AV.bool lb⟩
  by_cases w1 : w = 1
  case pos =>
    (repeat first | simp (disch := try exact dis1) only [evD, Nat.reduceBEq, Nat.reduceAdd, Nat.reduceLeDiff, dT, dF, fldP, zf] | with_reducible intro _ | ((with_reducible apply And.intro); omega))
    unfold zn; exact ⟨_, .bool _ _, congrArg AV.bool lb⟩
  (repeat first | simp (disch := try exact dis1) only [evD, Nat.reduceBEq, Nat.reduceAdd, Nat.reduceLeDiff, dT, dF, fldP, zf] | with_reducible intro _ | ((with_reducible apply And.intro); omega))
  by_cases w2 : w = 2
  case pos =>
    (repeat first | simp (disch := try exact dis1) only [evD, Nat.reduceBEq, Nat.reduceAdd, Nat.reduceLeDiff, dT, dF, fldP, zf] | with_reducible intro _ | ((with_reducible apply And.intro); omega))
    unfold zn; exact ⟨_, .bool _ _, congrArg AV.bool lb⟩
  (repeat first | simp (disch := try exact dis1) only [evD, Nat.reduceBEq, Nat.reduceAdd, Nat.reduceLeDiff, dT, dF, fldP, zf] | with_reducible intro _ | ((with_reducible apply And.intro); omega))
  unfold zn; exact ⟨_, .bool _ _, congrArg AV.bool lb⟩
theorem znR {op nn v w i : Int} {l : List Ex} (h1 : op ≠ 1) (h2 : op ≠ 2) (h16 : op ≠ 16) (h17 : op ≠ 17) (h18 : op ≠ 18) (h19 : op ≠ 19) :
    wpX Tryz.prog 0 zD (retK zf fun v' H' x => ∃ a, Frz H' v' a ∧ a = .bool (zn op nn v w l.length)) [(1, encP 5 [.int .i64 op, .int .u32 nn, .int .i64 v, .int .i64 w, encL 5 encX l]), (3, .int .i64 i), (8, .bool false)] [] 0 := by
  unfold zD
  have hB := hBig
  (repeat first | simp (disch := try exact dis1) only [evD, Nat.reduceBEq, Nat.reduceAdd, Nat.reduceLeDiff, dT, dF, fldP, zf] | with_reducible intro _ | ((with_reducible apply And.intro); omega))
  by_cases q0 : 3 ≤ op <;> (repeat first | simp (disch := try exact dis1) only [evD, Nat.reduceBEq, Nat.reduceAdd, Nat.reduceLeDiff, dT, dF, fldP, zf] | with_reducible intro _ | ((with_reducible apply And.intro); omega))
  case neg =>
    unfold zn; exact ⟨_, .bool _ _, congrArg AV.bool lb⟩
  by_cases q1 : op ≤ 15 <;> (repeat first | simp (disch := try exact dis1) only [evD, Nat.reduceBEq, Nat.reduceAdd, Nat.reduceLeDiff, dT, dF, fldP, zf] | with_reducible intro _ | ((with_reducible apply And.intro); omega))
  case neg =>
    unfold zn; exact ⟨_, .bool _ _, congrArg AV.bool lb⟩
  by_cases q2 : nn = 0 <;> (repeat first | simp (disch := try exact dis1) only [evD, Nat.reduceBEq, Nat.reduceAdd, Nat.reduceLeDiff, dT, dF, fldP, zf] | with_reducible intro _ | ((with_reducible apply And.intro); omega))
  case neg =>
    unfold zn; exact ⟨_, .bool _ _, congrArg AV.bool lb⟩
  by_cases q3 : v = 0 <;> (repeat first | simp (disch := try exact dis1) only [evD, Nat.reduceBEq, Nat.reduceAdd, Nat.reduceLeDiff, dT, dF, fldP, zf] | with_reducible intro _ | ((with_reducible apply And.intro); omega))
  case neg =>
    unfold zn; exact ⟨_, .bool _ _, congrArg AV.bool lb⟩
  by_cases q4 : w = 0 <;> (repeat first | simp (disch := try exact dis1) only [evD, Nat.reduceBEq, Nat.reduceAdd, Nat.reduceLeDiff, dT, dF, fldP, zf] | with_reducible intro _ | ((with_reducible apply And.intro); omega))
  case neg =>
    unfold zn; exact ⟨_, .bool _ _, congrArg AV.bool lb⟩
  unfold zn; exact ⟨_, .bool _ _, congrArg AV.bool lb⟩
theorem zmG : ∀ (k : Nat) (e : Ex), zfV e ≤ k → zk Tryz.prog zcT [.agg (encX e)] (· = .bool (zfR e)) := by
  intro k
  induction k with
  | zero => intro e h; obtain ⟨_, _, _, _, l⟩ := e; rw [zfV] at h; omega
  | succ k ih =>
  intro e hk
  obtain ⟨op, nn, v, w, l⟩ := e
  refine fn_x znr rfl ?_
  unfold ziz
  have hB := hBig
  rw [zfV] at hk
  rw [zgs, zfR]
  generalize hR : zdc l = R
  (repeat first | simp (disch := try exact dis1) only [evD, Nat.reduceBEq, Nat.reduceAdd, Nat.reduceLeDiff, fldP] | with_reducible intro _ | ((with_reducible apply And.intro); omega))
  refine zm (fun i : Nat => ([(1, encP 5 [.int .i64 op, .int .u32 nn, .int .i64 v, .int .i64 w, encL 5 encX l]), (3, .int .i64 i)], [])) 0 (fun i => i ≤ l.length ∧ zdc (l.drop i) = R) (fun i => l.length - i) 0 ⟨Nat.zero_le _, hR⟩ (Ent.keep rfl fin5) ?_
  rintro i ⟨hi, hgo⟩ wf
  unfold zf9
  by_cases hl : i < l.length
  · have hm := zgA (List.getElem_mem hl)
    rw [List.drop_eq_getElem_cons hl, zdc] at hgo
    (repeat first | simp (disch := try exact dis1) only [evD, Nat.reduceBEq, Nat.reduceAdd, Nat.reduceLeDiff, fldP, dT, zo hl, za1, zar] | with_reducible intro _ | ((with_reducible apply And.intro); omega))
    refine ze (zh (ih l[i] (by omega)) (flX rfl)) ?_
    cases hd : zfR l[i] with
    | false =>
      rw [hd, Bool.false_and] at hgo
      subst hgo
      (repeat first | simp (disch := try exact dis1) only [evD, Nat.reduceBEq, Nat.reduceAdd, Nat.reduceLeDiff, zf] | with_reducible intro _ | ((with_reducible apply And.intro); omega))
      exact ⟨_, .bool _ _, rfl⟩
    | true =>
      rw [hd, Bool.true_and] at hgo
      (repeat first | simp (disch := try exact dis1) only [evD, Nat.reduceBEq, Nat.reduceAdd, Nat.reduceLeDiff] | with_reducible intro _ | ((with_reducible apply And.intro); omega))
      exact ⟨i + 1, ⟨by omega, hgo⟩, by omega, Ent.keep rfl fin5⟩
  · rw [List.drop_of_length_le (by omega), zdc] at hgo
    subst hgo
    (repeat first | simp (disch := try exact dis1) only [evD, Nat.reduceBEq, Nat.reduceAdd, Nat.reduceLeDiff, fldP, dF, Bool.true_and] | with_reducible intro _ | ((with_reducible apply And.intro); omega))
    by_cases h1 : op = 1
    · exact zmS h1
    by_cases h2 : op = 2
    · exact zmL h2
    by_cases h16 : op = 16
    · exact zmV h16
    by_cases h17 : op = 17
    · exact zmA h17
    by_cases h18 : op = 18
    · exact znm h18
    by_cases h19 : op = 19
    · exact znb h19
    exact znR h1 h2 h16 h17 h18 h19
theorem zc1 (e : Ex) : zk Tryz.prog zcn [.agg (encX e)] (· = .int .i64 (ze1 e)) := by
  refine fn_x zl3 rfl ?_
  unfold zhJ ze1
  have hB := hBig
  (repeat first | simp (disch := try exact dis1) only [evD, Nat.reduceBEq, Nat.reduceAdd, Nat.reduceLeDiff, za1, zq, zar] | with_reducible intro _ | ((with_reducible apply And.intro); omega))
  refine ze (zh (zoz (zfV e) e 64 (Nat.le_refl _) (by omega) (by omega)) (flX rfl)) ?_
  cases zmF e 64 with
  | true =>
    (repeat first | simp (disch := try exact dis1) only [evD, Nat.reduceBEq, Nat.reduceAdd, Nat.reduceLeDiff, zc0] | with_reducible intro _ | ((with_reducible apply And.intro); omega))
    exact ⟨_, .int _ _ _, rfl⟩
  | false =>
    (repeat first | simp (disch := try exact dis1) only [evD, Nat.reduceBEq, Nat.reduceAdd, Nat.reduceLeDiff, za1, zq, zar] | with_reducible intro _ | ((with_reducible apply And.intro); omega))
    refine ze (zh (zmG (zfV e) e (Nat.le_refl _)) (flX rfl)) ?_
    cases zfR e with
    | true =>
      (repeat first | simp (disch := try exact dis1) only [evD, Nat.reduceBEq, Nat.reduceAdd, Nat.reduceLeDiff, zc0] | with_reducible intro _ | ((with_reducible apply And.intro); omega))
      exact ⟨_, .int _ _ _, rfl⟩
    | false =>
      (repeat first | simp (disch := try exact dis1) only [evD, Nat.reduceBEq, Nat.reduceAdd, Nat.reduceLeDiff, zc0] | with_reducible intro _ | ((with_reducible apply And.intro); omega))
      exact ⟨_, .int _ _ _, rfl⟩
structure PredE (fv : AV) (l : List Ex) (p : Ex → Bool) : Prop where
  ex : ∃ f caps, fv = .fn (.func f) caps ∧ zdT Tryz.prog f = true ∧ zG caps = true ∧ ∀ s ∈ l, zk Tryz.prog f ([.agg (encX s)] ++ caps) (· = .bool (p s))
theorem zcj : ∀ {l : List AV}, zG l = true → l.all AV.flat = true
  | [], _ => rfl
  | a :: l, h => by
    simp only [zG, Bool.and_eq_true] at h
    simp only [List.all_cons, Bool.and_eq_true]
    refine ⟨?_, zcj h.2⟩
    cases a <;> first | rfl | exact absurd h.1 (by simp [AV.flat0])
theorem zrw {fv : AV} {l : List Ex} {p : Ex → Bool} (hp : PredE fv l p) {s : Ex} (hs : s ∈ l) {H : AH} {nx : Nat} {k : AV → AH → Nat → Prop} (hk : k (.bool (p s)) H nx) : zkR Tryz.prog fv [.agg (encX s)] H nx k := by
  obtain ⟨f, caps, rfl, hg, hf, hx⟩ := hp.ex
  rw [zgC]
  refine ⟨hg, ze (zh (hx s hs) ?_) hk⟩
  simp only [List.cons_append, List.nil_append, List.all_cons, Bool.and_eq_true]
  exact ⟨by have := flX (r := []) rfl (e := s); simpa using this, zcj hf⟩
theorem zeg {fv : AV} {l : List Ex} {p : Ex → Bool} (hp : PredE fv l p) {H H2 : AH} {σ : Nat → Nat → Option (Nat × Nat × Nat)} {D : Nat → Nat → Prop} {t : Bool} : Vw H H2 σ D t fv fv := by
  obtain ⟨f, caps, rfl, hg, hf, hx⟩ := hp.ex
  refine .fn _ _ _ _ rfl fun i a b h1 h2 => ?_
  rw [h1] at h2
  cases h2
  exact zcy (zbg hf h1)
def idxI (o : Option Nat) : Int := match o with | some i => (i : Int) | none => -1
theorem zjk (l : List Ex) (fv : AV) (p : Ex → Bool) (hp : PredE fv l p) : zk Tryz.prog zV [encL 5 encX l, fv] (· = .int .i64 (idxI (l.findIdx? p))) := by
  refine fn_x zcH rfl ?_
  unfold za5
  have hB := hBig
  (repeat first | simp (disch := try exact dis1) only [evD, Nat.reduceBEq, Nat.reduceAdd, Nat.reduceLeDiff] | with_reducible intro _ | ((with_reducible apply And.intro); omega))
  refine zm (fun i : Nat => ([(0, encL 5 encX l), (1, fv), (7, .int .i64 l.length), (8, .int .i64 i)], [])) 0 (fun i => i ≤ l.length ∧ ∀ j (h : j < l.length), j < i → p l[j] = false) (fun i => l.length - i) 0 ⟨Nat.zero_le _, fun j _ h => by omega⟩ (Ent.keep rfl fin5) ?_
  intro i ⟨hi, hno⟩ wf
  unfold zaL
  (repeat first | simp (disch := try exact dis1) only [evD, Nat.reduceBEq, Nat.reduceAdd, Nat.reduceLeDiff] | with_reducible intro _ | ((with_reducible apply And.intro); omega))
  (refine zp (fun h => ?_) (fun h => ?_)) <;> (try simp only [dcd] at h)
  · have hi' : i < l.length := by omega
    (repeat first | simp (disch := try exact dis1) only [evD, Nat.reduceBEq, Nat.reduceAdd, Nat.reduceLeDiff, zo hi', za1, zar] | with_reducible intro _ | ((with_reducible apply And.intro); omega))
    refine zrw hp (List.getElem_mem hi') ?_
    (repeat first | simp (disch := try exact dis1) only [evD, Nat.reduceBEq, Nat.reduceAdd, Nat.reduceLeDiff] | with_reducible intro _ | ((with_reducible apply And.intro); omega))
    (refine zp (fun h2 => ?_) (fun h2 => ?_)) <;> (try simp only [dcd] at h2)
    · (repeat first | simp (disch := try exact dis1) only [evD, Nat.reduceBEq, Nat.reduceAdd, Nat.reduceLeDiff, zak] | with_reducible intro _ | ((with_reducible apply And.intro); omega))
      have e : l.findIdx? p = some i := by
        rw [List.findIdx?_eq_some_iff_getElem]
        exact ⟨hi', h2, fun j hj => by rw [hno j (by omega) hj]; simp⟩
      rw [e]
      exact ⟨_, .int _ _ _, rfl⟩
    · (repeat first | simp (disch := try exact dis1) only [evD, Nat.reduceBEq, Nat.reduceAdd, Nat.reduceLeDiff] | with_reducible intro _ | ((with_reducible apply And.intro); omega))
      refine ⟨i + 1, ⟨by omega, fun j hj hji => ?_⟩, by omega, Ent.keep rfl fin5⟩
      by_cases hje : j = i
      · subst hje; simpa using h2
      · exact hno j hj (by omega)
  · unfold zaG
    (repeat first | simp (disch := try exact dis1) only [evD, Nat.reduceBEq, Nat.reduceAdd, Nat.reduceLeDiff, zak] | with_reducible intro _ | ((with_reducible apply And.intro); omega))
    have e : l.findIdx? p = none := by
      rw [List.findIdx?_eq_none_iff]
      intro x hx
      obtain ⟨j, hj, rfl⟩ := List.mem_iff_getElem.1 hx
      exact hno j hj (by omega)
    rw [e]
    exact ⟨_, .int _ _ _, rfl⟩
theorem zxR {l : List Ex} {p : Ex → Bool} : decide (idxI (l.findIdx? p) ≥ 0) = l.any p := by
  cases h : l.findIdx? p with
  | none =>
    have := List.findIdx?_eq_none_iff.1 h
    rw [decide_eq_false (by simp [idxI])]
    symm
    rw [List.any_eq_false]
    intro x hx
    rw [this x hx]; simp
  | some i =>
    obtain ⟨h1, h2, _⟩ := List.findIdx?_eq_some_iff_getElem.1 h
    rw [decide_eq_true (by simp [idxI])]
    exact (zoV h1 h2).symm
theorem zJ (l : List Ex) (fv : AV) (p : Ex → Bool) (hp : PredE fv l p) : zk Tryz.prog zF [encL 5 encX l, fv] (· = .bool (l.any p)) := by
  refine fn_x zcc rfl ?_
  unfold zaF
  (repeat first | simp (disch := try exact dis1) only [evD, Nat.reduceBEq, Nat.reduceAdd, Nat.reduceLeDiff] | with_reducible intro _ | ((with_reducible apply And.intro); omega))
  refine ze (z6 (D := noR) (zjk l fv p hp) (.cons (zay rfl) (.cons (zeg hp) .nil)) (.inl rfl)) ?_
  (repeat first | simp (disch := try exact dis1) only [evD, Nat.reduceBEq, Nat.reduceAdd, Nat.reduceLeDiff, zaJ] | with_reducible intro _ | ((with_reducible apply And.intro); omega))
  refine ⟨_, .bool _ _, ?_⟩
  rw [← zxR]
theorem zpk : ∀ (k : Nat) (e : Ex) (m : Int), zfV e ≤ k → -1000 ≤ m → m ≤ 1000 → zk Tryz.prog zej [.agg (encX e), .int .i64 m] (· = .bool (!zmF e m)) := by
  intro k
  induction k with
  | zero => intro e m h; obtain ⟨_, _, _, _, l⟩ := e; rw [zfV] at h; omega
  | succ k ih =>
  intro e m hk hm1 hm2
  obtain ⟨op, nn, v, w, l⟩ := e
  refine fn_x zow rfl ?_
  unfold zj9
  have hB := hBig
  rw [zfV] at hk
  rw [zgs, zmF]
  by_cases h1 : m < 1
  · rw [if_pos h1]
    (repeat first | simp (disch := try exact dis1) only [evD, Nat.reduceBEq, Nat.reduceAdd, Nat.reduceLeDiff, fldP, dF, encP, zhq] | with_reducible intro _ | ((with_reducible apply And.intro); omega))
    exact ⟨_, .bool _ _, rfl⟩
  · rw [if_neg h1, zn6]
    have hp : PredE (.fn (.func zeh) [encP 1 [.int .i64 m]]) l (zmF · (m - 1)) := by
      refine ⟨_, _, rfl, by kernel_rfl, rfl, fun s hs => ?_⟩
      have hm := zgA hs
      refine fn_x zmZ rfl ?_
      unfold zip
      (repeat first | simp (disch := try exact dis1) only [evD, Nat.reduceBEq, Nat.reduceAdd, Nat.reduceLeDiff, za1, zq, zar, encP] | with_reducible intro _ | ((with_reducible apply And.intro); omega))
      refine ze (zh (ih s (m - 1) (by omega) (by omega) (by omega)) (flX rfl)) ?_
      (repeat first | simp (disch := try exact dis1) only [evD, Nat.reduceBEq, Nat.reduceAdd, Nat.reduceLeDiff, ziu] | with_reducible intro _ | ((with_reducible apply And.intro); omega))
      exact ⟨_, .bool _ _, rfl⟩
    (repeat first | simp (disch := try exact dis1) only [evD, Nat.reduceBEq, Nat.reduceAdd, Nat.reduceLeDiff, fldP, dT, encP] | with_reducible intro _ | ((with_reducible apply And.intro); omega))
    refine ze (z6 (D := noR) (zJ l _ _ hp) (.cons (zay rfl) (.cons (zeg hp) .nil)) (.inl rfl)) ?_
    (repeat first | simp (disch := try exact dis1) only [evD, Nat.reduceBEq, Nat.reduceAdd, Nat.reduceLeDiff, zhq] | with_reducible intro _ | ((with_reducible apply And.intro); omega))
    exact ⟨_, .bool _ _, rfl⟩
end Go.Ab
