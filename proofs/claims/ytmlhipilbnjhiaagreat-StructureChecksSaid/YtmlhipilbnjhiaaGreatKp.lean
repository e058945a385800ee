/-
  Part 16 of the proof: how the calls of this program run, over values instead of memory, and what each function computes.
-/
import Derived.Test.YtmlhipilbnjhiaaGreatKo
set_option maxRecDepth 100000
set_option linter.unusedVariables false
set_option linter.unusedSimpArgs false
set_option linter.unnecessarySimpa false
set_option linter.unusedSectionVars false

namespace Go.Ab
open Go.RowKit Go.Proofs
def fm (p : NdF → List Int) (l : List Nd) : List Int := l.flatMap fun x => p x.f
theorem zBm {p : NdF → List Int} {l : List Nd} {i : Nat} (h : i < l.length) : fm p (l.drop i) = p l[i].f ++ fm p (l.drop (i + 1)) := by
  rw [List.drop_eq_getElem_cons h, fm, List.flatMap_cons]; rfl
theorem zrI (p : NdF → List Int) (n : Nd) : fm p (allN n) = coll p n := (ztw p n).symm
theorem zwC (p : NdF → List Int) : fm p [] = [] := rfl
theorem zrX {e : Nd} (h : zt4 e = true) : zbZ e ≤ 1000 := by
  unfold zt4 at h
  have h0 : 0 ≤ zdc e 300 := of_decide_eq_true h
  have := znP e 300 h0
  omega
theorem zt7 {n : Nat} {c : List AV} (h : zaE c = true) : zau (List.replicate n c) := fun d hd => by rw [List.eq_of_mem_replicate hd]; exact h
def zpH (v : Int) : Bool := decide (0 ≤ v ∧ v < 65536)
def zpK (w : Int) : Bool := decide (w = 1 ∨ w = 2 ∨ w = 4)
theorem zhf (v : Int) : zaj Tryz.prog zee [.int .i64 v] (· = .bool (zpH v)) := by
  refine fn_x zoF rfl ?_
  unfold zkr zpH
  by_cases h1 : 0 ≤ v
  · (repeat first | simp (disch := try exact dis1) only [evD, Nat.reduceBEq, Nat.reduceAdd, Nat.reduceLeDiff, dT, zhl] | with_reducible intro _ | ((with_reducible apply And.intro); omega))
    exact ⟨_, .bool _ _, congrArg _ (decide_eq_decide.2 (by omega))⟩
  · (repeat first | simp (disch := try exact dis1) only [evD, Nat.reduceBEq, Nat.reduceAdd, Nat.reduceLeDiff, dF, zhl] | with_reducible intro _ | ((with_reducible apply And.intro); omega))
    exact ⟨_, .bool _ _, rfl⟩
theorem zmI (v : Int) : zaj Tryz.prog zgj [.int .i64 v] (· = .bool (zpH v)) := by
  refine fn_x zqK rfl ?_
  unfold zmQ zpH
  by_cases h1 : 0 ≤ v
  · (repeat first | simp (disch := try exact dis1) only [evD, Nat.reduceBEq, Nat.reduceAdd, Nat.reduceLeDiff, dT, zi4] | with_reducible intro _ | ((with_reducible apply And.intro); omega))
    exact ⟨_, .bool _ _, congrArg _ (decide_eq_decide.2 (by omega))⟩
  · (repeat first | simp (disch := try exact dis1) only [evD, Nat.reduceBEq, Nat.reduceAdd, Nat.reduceLeDiff, dF, zi4] | with_reducible intro _ | ((with_reducible apply And.intro); omega))
    exact ⟨_, .bool _ _, rfl⟩
theorem zmE (w : Int) : zaj Tryz.prog zgb [.int .i64 w] (· = .bool (zpK w)) := by
  refine fn_x zq2 rfl ?_
  unfold zmp zpK
  by_cases h1 : w = 1
  · (repeat first | simp (disch := try exact dis1) only [evD, Nat.reduceBEq, Nat.reduceAdd, Nat.reduceLeDiff, dT, zgR] | with_reducible intro _ | ((with_reducible apply And.intro); omega))
    exact ⟨_, .bool _ _, rfl⟩
  by_cases h2 : w = 2
  · (repeat first | simp (disch := try exact dis1) only [evD, Nat.reduceBEq, Nat.reduceAdd, Nat.reduceLeDiff, dF, dT, zgR] | with_reducible intro _ | ((with_reducible apply And.intro); omega))
    exact ⟨_, .bool _ _, rfl⟩
  · (repeat first | simp (disch := try exact dis1) only [evD, Nat.reduceBEq, Nat.reduceAdd, Nat.reduceLeDiff, dF, zgR] | with_reducible intro _ | ((with_reducible apply And.intro); omega))
    exact ⟨_, .bool _ _, congrArg _ (decide_eq_decide.2 (by omega))⟩
mutual
def znT : Ex → Int → Bool
  | .mk _ _ _ _ l, m => if m < 1 then true else zll l (m - 1)
def zll : List Ex → Int → Bool
  | [], _ => false
  | e :: l, m => znT e m || zll l m
end
theorem zoW : ∀ (l : List Ex) (m : Int), zll l m = l.any (znT · m)
  | [], m => by rw [zll]; rfl
  | e :: l, m => by rw [zll, zoW l m]; rfl
def zan (op n v w : Int) (k : Nat) : Bool := decide ((op = 1 ∧ v = 0 ∧ w = 0 ∧ k = 0) ∨ (op = 2 ∧ n = 0 ∧ w = 0 ∧ k = 0 ∧ 0 ≤ v ∧ v < 65536) ∨ ((op = 16 ∨ op = 17) ∧ n = 0 ∧ v = 0 ∧ w = 0 ∧ k = 1) ∨ (op = 18 ∧ n = 0 ∧ v = 0 ∧ (w = 1 ∨ w = 2 ∨ w = 4) ∧ k = 1) ∨ (op = 19 ∧ n = 0 ∧ v = 0 ∧ (w = 1 ∨ w = 2) ∧ k = 1) ∨ (3 ≤ op ∧ op ≤ 15 ∧ n = 0 ∧ v = 0 ∧ w = 0 ∧ k = 2))
mutual
def zgH : Ex → Bool
  | .mk op n v w l => zd3 l && zan op n v w l.length
def zd3 : List Ex → Bool
  | [] => true
  | e :: l => zgH e && zd3 l
end
theorem zdl : ∀ (l : List Ex), zd3 l = l.all zgH
  | [] => by rw [zd3]; rfl
  | e :: l => by rw [zd3, zdl l]; rfl
def zfQ (e : Ex) : Int := if znT e 64 = true then 20 else if zgH e = true then 0 else 2
theorem zp9 : ∀ (k : Nat) (e : Ex) (m : Int), zgL e ≤ k → -1000 ≤ m → m ≤ 1000 → zaj Tryz.prog zfj [.agg (encX e), .int .i64 m] (· = .bool (znT e m)) := by
  intro k
  induction k with
  | zero => intro e m h; obtain ⟨_, _, _, _, l⟩ := e; rw [zgL] at h; omega
  | succ k ih =>
  intro e m hk hm1 hm2
  obtain ⟨op, nn, v, w, l⟩ := e
  refine fn_x zpG rfl ?_
  unfold zlt
  have hB := hBig
  rw [zgL] at hk
  rw [zhg, znT]
  by_cases h1 : m < 1
  · rw [if_pos h1]
    (repeat first | simp (disch := try exact dis1) only [evD, Nat.reduceBEq, Nat.reduceAdd, Nat.reduceLeDiff, fldP, dT, zf4] | with_reducible intro _ | ((with_reducible apply And.intro); omega))
    exact ⟨_, .bool _ _, rfl⟩
  · rw [if_neg h1]
    (repeat first | simp (disch := try exact dis1) only [evD, Nat.reduceBEq, Nat.reduceAdd, Nat.reduceLeDiff, fldP, dF] | with_reducible intro _ | ((with_reducible apply And.intro); omega))
    generalize hR : zll l (m - 1) = R
    refine zam (fun i : Nat => ([(1, .int .i64 m), (2, encP 5 [.int .i64 op, .int .u32 nn, .int .i64 v, .int .i64 w, encL 5 encX l]), (5, .int .i64 i)], [])) 0 (fun i => i ≤ l.length ∧ zll (l.drop i) (m - 1) = R) (fun i => l.length - i) 0 ⟨Nat.zero_le _, hR⟩ (Ent.keep rfl fin5) ?_
    rintro i ⟨hi, hgo⟩ wf
    unfold ziE
    by_cases hl : i < l.length
    · have hm := zhI (List.getElem_mem hl)
      rw [List.drop_eq_getElem_cons hl, zll] at hgo
      (repeat first | simp (disch := try exact dis1) only [evD, Nat.reduceBEq, Nat.reduceAdd, Nat.reduceLeDiff, fldP, dT, zao hl, zbS, zbh] | with_reducible intro _ | ((with_reducible apply And.intro); omega))
      refine zae (zah (ih l[i] (m - 1) (by omega) (by omega) (by omega)) (flX rfl)) ?_
      cases hd : znT l[i] (m - 1) with
      | true =>
        rw [hd, Bool.true_or] at hgo
        subst hgo
        (repeat first | simp (disch := try exact dis1) only [evD, Nat.reduceBEq, Nat.reduceAdd, Nat.reduceLeDiff, zf4] | with_reducible intro _ | ((with_reducible apply And.intro); omega))
        exact ⟨_, .bool _ _, rfl⟩
      | false =>
        rw [hd, Bool.false_or] at hgo
        (repeat first | simp (disch := try exact dis1) only [evD, Nat.reduceBEq, Nat.reduceAdd, Nat.reduceLeDiff] | with_reducible intro _ | ((with_reducible apply And.intro); omega))
        exact ⟨i + 1, ⟨by omega, hgo⟩, by omega, Ent.keep rfl fin5⟩
    · rw [List.drop_of_length_le (by omega), zll] at hgo
      subst hgo
      (repeat first | simp (disch := try exact dis1) only [evD, Nat.reduceBEq, Nat.reduceAdd, Nat.reduceLeDiff, fldP, dF] | with_reducible intro _ | ((with_reducible apply And.intro); omega))
      unfold ziD
      (repeat first | simp (disch := try exact dis1) only [evD, Nat.reduceBEq, Nat.reduceAdd, Nat.reduceLeDiff, zf4] | with_reducible intro _ | ((with_reducible apply And.intro); omega))
      exact ⟨_, .bool _ _, rfl⟩
theorem zn8 {op nn v w i : Int} {l : List Ex} (h : op = 1) :
    wpX Tryz.prog 0 zaB (retK zaf fun v' H' x => ∃ a, Frz H' v' a ∧ a = .bool (zan op nn v w l.length)) [(1, encP 5 [.int .i64 op, .int .u32 nn, .int .i64 v, .int .i64 w, encL 5 encX l]), (3, .int .i64 i), (8, .bool false)] [] 0 := by
  unfold zaB
  have hB := hBig
  (repeat first | simp (disch := try exact dis1) only [evD, Nat.reduceBEq, Nat.reduceAdd, Nat.reduceLeDiff, dT, dF, fldP, zaf] | with_reducible intro _ | ((with_reducible apply And.intro); omega))
  by_cases q0 : v = 0 <;> (repeat first | simp (disch := try exact dis1) only [evD, Nat.reduceBEq, Nat.reduceAdd, Nat.reduceLeDiff, dT, dF, fldP, zaf] | with_reducible intro _ | ((with_reducible apply And.intro); omega))
  case neg =>
    unfold zan; exact ⟨_, .bool _ _, congrArg AV.bool lb⟩
  by_cases q1 : w = 0 <;> (repeat first | simp (disch := try exact dis1) only [evD, Nat.reduceBEq, Nat.reduceAdd, Nat.reduceLeDiff, dT, dF, fldP, zaf] | with_reducible intro _ | ((with_reducible apply And.intro); omega))
  case neg =>
    unfold zan; exact ⟨_, .bool _ _, congrArg AV.bool lb⟩
  unfold zan; exact ⟨_, .bool _ _, congrArg AV.bool lb⟩
theorem znq {op nn v w i : Int} {l : List Ex} (h : op = 2) :
    wpX Tryz.prog 0 zaB (retK zaf fun v' H' x => ∃ a, Frz H' v' a ∧ a = .bool (zan op nn v w l.length)) [(1, encP 5 [.int .i64 op, .int .u32 nn, .int .i64 v, .int .i64 w, encL 5 encX l]), (3, .int .i64 i), (8, .bool false)] [] 0 := by
  unfold zaB
  have hB := hBig
  (repeat first | simp (disch := try exact dis1) only [evD, Nat.reduceBEq, Nat.reduceAdd, Nat.reduceLeDiff, dT, dF, fldP, zaf] | with_reducible intro _ | ((with_reducible apply And.intro); omega))
  by_cases q0 : nn = 0 <;> (repeat first | simp (disch := try exact dis1) only [evD, Nat.reduceBEq, Nat.reduceAdd, Nat.reduceLeDiff, dT, dF, fldP, zaf] | with_reducible intro _ | ((with_reducible apply And.intro); omega))
  case neg =>
    unfold zan; exact ⟨_, .bool _ _, congrArg AV.bool lb⟩
  by_cases q1 : w = 0 <;> (repeat first | simp (disch := try exact dis1) only [evD, Nat.reduceBEq, Nat.reduceAdd, Nat.reduceLeDiff, dT, dF, fldP, zaf] | with_reducible intro _ | ((with_reducible apply And.intro); omega))
  case neg =>
    unfold zan; exact ⟨_, .bool _ _, congrArg AV.bool lb⟩
  by_cases q2 : l.length = 0 <;> (repeat first | simp (disch := try exact dis1) only [evD, Nat.reduceBEq, Nat.reduceAdd, Nat.reduceLeDiff, dT, dF, fldP, zaf] | with_reducible intro _ | ((with_reducible apply And.intro); omega))
  case neg =>
    unfold zan; exact ⟨_, .bool _ _, congrArg AV.bool lb⟩
  refine zae (zah (zmI v) rfl) ?_
  unfold zpH
  (repeat first | simp (disch := try exact dis1) only [evD, Nat.reduceBEq, Nat.reduceAdd, Nat.reduceLeDiff, dT, dF, fldP, zaf] | with_reducible intro _ | ((with_reducible apply And.intro); omega))
  unfold zan; exact ⟨_, .bool _ _, congrArg AV.bool lb⟩
theorem znC {op nn v w i : Int} {l : List Ex} (h : op = 16) :
    wpX Tryz.prog 0 zaB (retK zaf fun v' H' x => ∃ a, Frz H' v' a ∧ a = .bool (zan op nn v w l.length)) [(1, encP 5 [.int .i64 op, .int .u32 nn, .int .i64 v, .int .i64 w, encL 5 encX l]), (3, .int .i64 i), (8, .bool false)] [] 0 := by
  unfold zaB
  have hB := hBig
  (repeat first | simp (disch := try exact dis1) only [evD, Nat.reduceBEq, Nat.reduceAdd, Nat.reduceLeDiff, dT, dF, fldP, zaf] | with_reducible intro _ | ((with_reducible apply And.intro); omega))
  by_cases q0 : nn = 0 <;> (repeat first | simp (disch := try exact dis1) only [evD, Nat.reduceBEq, Nat.reduceAdd, Nat.reduceLeDiff, dT, dF, fldP, zaf] | with_reducible intro _ | ((with_reducible apply And.intro); omega))
  case neg =>
    unfold zan; exact ⟨_, .bool _ _, congrArg AV.bool lb⟩
  by_cases q1 : v = 0 <;> (repeat first | simp (disch := try exact dis1) only [evD, Nat.reduceBEq, Nat.reduceAdd, Nat.reduceLeDiff, dT, dF, fldP, zaf] | with_reducible intro _ | ((with_reducible apply And.intro); omega))
  case neg =>
    unfold zan; exact ⟨_, .bool _ _, congrArg AV.bool lb⟩
  by_cases q2 : w = 0 <;> (repeat first | simp (disch := try exact dis1) only [evD, Nat.reduceBEq, Nat.reduceAdd, Nat.reduceLeDiff, dT, dF, fldP, zaf] | with_reducible intro _ | ((with_reducible apply And.intro); omega))
  case neg =>
    unfold zan; exact ⟨_, .bool _ _, congrArg AV.bool lb⟩
  unfold zan; exact ⟨_, .bool _ _, congrArg AV.bool lb⟩
theorem zou {op nn v w i : Int} {l : List Ex} (h : op = 17) :
    wpX Tryz.prog 0 zaB (retK zaf fun v' H' x => ∃ a, Frz H' v' a ∧ a = .bool (zan op nn v w l.length)) [(1, encP 5 [.int .i64 op, .int .u32 nn, .int .i64 v, .int .i64 w, encL 5 encX l]), (3, .int .i64 i), (8, .bool false)] [] 0 := by
  unfold zaB
  have hB := hBig
  (repeat first | simp (disch := try exact dis1) only [evD, Nat.reduceBEq, Nat.reduceAdd, Nat.reduceLeDiff, dT, dF, fldP, zaf] | with_reducible intro _ | ((with_reducible apply And.intro); omega))
  by_cases q0 : nn = 0 <;> (repeat first | simp (disch := try exact dis1) only [evD, Nat.reduceBEq, Nat.reduceAdd, Nat.reduceLeDiff, dT, dF, fldP, zaf] | with_reducible intro _ | ((with_reducible apply And.intro); omega))
  case neg =>
    unfold zan; exact ⟨_, .bool _ _, congrArg AV.bool lb⟩
  by_cases q1 : v = 0 <;> (repeat first | simp (disch := try exact dis1) only [evD, Nat.reduceBEq, Nat.reduceAdd, Nat.reduceLeDiff, dT, dF, fldP, zaf] | with_reducible intro _ | ((with_reducible apply And.intro); omega))
  case neg =>
    unfold zan; exact ⟨_, .bool _ _, congrArg AV.bool lb⟩
  by_cases q2 : w = 0 <;> (repeat first | simp (disch := try exact dis1) only [evD, Nat.reduceBEq, Nat.reduceAdd, Nat.reduceLeDiff, dT, dF, fldP, zaf] | with_reducible intro _ | ((with_reducible apply And.intro); omega))
  case neg =>
    unfold zan; exact ⟨_, .bool _ _, congrArg AV.bool lb⟩
  unfold zan; exact ⟨_, .bool _ _, congrArg AV.bool lb⟩
theorem zny {op nn v w i : Int} {l : List Ex} (h : op = 18) :
    wpX Tryz.prog 0 zaB (retK zaf fun v' H' x => ∃ a, Frz H' v' a ∧ a = .bool (zan op nn v w l.length)) [(1, encP 5 [.int .i64 op, .int .u32 nn, .int .i64 v, .int .i64 w, encL 5 encX l]), (3, .int .i64 i), (8, .bool false)] [] 0 := by
  unfold zaB
  have hB := hBig
  (repeat first | simp (disch := try exact dis1) only [evD, Nat.reduceBEq, Nat.reduceAdd, Nat.reduceLeDiff, dT, dF, fldP, zaf] | with_reducible intro _ | ((with_reducible apply And.intro); omega))
  by_cases q0 : nn = 0 <;> (repeat first | simp (disch := try exact dis1) only [evD, Nat.reduceBEq, Nat.reduceAdd, Nat.reduceLeDiff, dT, dF, fldP, zaf] | with_reducible intro _ | ((with_reducible apply And.intro); omega))
  case neg =>
    unfold zan; exact ⟨_, .bool _ _, congrArg AV.bool lb⟩
  by_cases q1 : v = 0 <;> (repeat first | simp (disch := try exact dis1) only [evD, Nat.reduceBEq, Nat.reduceAdd, Nat.reduceLeDiff, dT, dF, fldP, zaf] | with_reducible intro _ | ((with_reducible apply And.intro); omega))
  case neg =>
    unfold zan; exact ⟨_, .bool _ _, congrArg AV.bool lb⟩
  by_cases w1 : w = 1
  case pos =>
    (repeat first | simp (disch := try exact dis1) only [evD, Nat.reduceBEq, Nat.reduceAdd, Nat.reduceLeDiff, dT, dF, fldP, zaf] | with_reducible intro _ | ((with_reducible apply And.intro); omega))
    unfold zan; exact ⟨_, .bool _ _, congrArg AV.bool lb⟩
  (repeat first | simp (disch := try exact dis1) only [evD, Nat.reduceBEq, Nat.reduceAdd, Nat.reduceLeDiff, dT, dF, fldP, zaf] | with_reducible intro _ | ((with_reducible apply And.intro); omega))
  by_cases w2 : w = 2
  case pos =>
    (repeat first | simp (disch := try exact dis1) only [evD, Nat.reduceBEq, Nat.reduceAdd, Nat.reduceLeDiff, dT, dF, fldP, zaf] | with_reducible intro _ | ((with_reducible apply And.intro); omega))
    unfold zan; exact ⟨_, .bool _ _, congrArg AV.bool lb⟩
  (repeat first | simp (disch := try exact dis1) only [evD, Nat.reduceBEq, Nat.reduceAdd, Nat.reduceLeDiff, dT, dF, fldP, zaf] | with_reducible intro _ | ((with_reducible apply And.intro); omega))
  by_cases w4 : w = 4
  case pos =>
    (repeat first | simp (disch := try exact dis1) only [evD, Nat.reduceBEq, Nat.reduceAdd, Nat.reduceLeDiff, dT, dF, fldP, zaf] | with_reducible intro _ | ((with_reducible apply And.intro); omega))
    unfold zan; exact ⟨_, .bool _ _, congrArg AV.bool lb⟩
  (repeat first | simp (disch := try exact dis1) only [evD, Nat.reduceBEq, Nat.reduceAdd, Nat.reduceLeDiff, dT, dF, fldP, zaf] | with_reducible intro _ | ((with_reducible apply And.intro); omega))
  unfold zan; exact ⟨_, .bool _ _, congrArg AV.bool lb⟩
theorem znG {op nn v w i : Int} {l : List Ex} (h : op = 19) :
    wpX Tryz.prog 0 zaB (retK zaf fun v' H' x => ∃ a, Frz H' v' a ∧ a = .bool (zan op nn v w l.length)) [(1, encP 5 [.int .i64 op, .int .u32 nn, .int .i64 v, .int .i64 w, encL 5 encX l]), (3, .int .i64 i), (8, .bool false)] [] 0 := by
  unfold zaB
  have hB := hBig
  (repeat first | simp (disch := try exact dis1) only [evD, Nat.reduceBEq, Nat.reduceAdd, Nat.reduceLeDiff, dT, dF, fldP, zaf] | with_reducible intro _ | ((with_reducible apply And.intro); omega))
  by_cases q0 : nn = 0 <;> (repeat first | simp (disch := try exact dis1) only [evD, Nat.reduceBEq, Nat.reduceAdd, Nat.reduceLeDiff, dT, dF, fldP, zaf] | with_reducible intro _ | ((with_reducible apply And.intro); omega))
  case neg =>
    unfold zan; exact ⟨_, .bool _ _, congrArg AV.bool lb⟩
  by_cases q1 : v = 0 <;> (repeat first | simp (disch := try exact dis1) only [evD, Nat.reduceBEq, Nat.reduceAdd, Nat.reduceLeDiff, dT, dF, fldP, zaf] | with_reducible intro _ | ((with_reducible apply And.intro); omega))
  case neg =>
    unfold zan; exact ⟨_, .bool _ _, congrArg AV.bool lb⟩
  by_cases w1 : w = 1
  case pos =>
    (repeat first | simp (disch := try exact dis1) only [evD, Nat.reduceBEq, Nat.reduceAdd, Nat.reduceLeDiff, dT, dF, fldP, zaf] | with_reducible intro _ | ((with_reducible apply And.intro); omega))
    unfold zan; exact ⟨_, .bool _ _, congrArg AV.bool lb⟩
  (repeat first | simp (disch := try exact dis1) only [evD, Nat.reduceBEq, Nat.reduceAdd, Nat.reduceLeDiff, dT, dF, fldP, zaf] | with_reducible intro _ | ((with_reducible apply And.intro); omega))
  by_cases w2 : w = 2
  case pos =>
    (repeat first | simp (disch := try exact dis1) only [evD, Nat.reduceBEq, Nat.reduceAdd, Nat.reduceLeDiff, dT, dF, fldP, zaf] | with_reducible intro _ | ((with_reducible apply And.intro); omega))
    unfold zan; exact ⟨_, .bool _ _, congrArg AV.bool lb⟩
  (repeat first | simp (disch := try exact dis1) only [evD, Nat.reduceBEq, Nat.reduceAdd, Nat.reduceLeDiff, dT, dF, fldP, zaf] | with_reducible intro _ | ((with_reducible apply And.intro); omega))
  unfold zan; exact ⟨_, .bool _ _, congrArg AV.bool lb⟩
theorem zoS {op nn v w i : Int} {l : List Ex} (h1 : op ≠ 1) (h2 : op ≠ 2) (h16 : op ≠ 16) (h17 : op ≠ 17) (h18 : op ≠ 18) (h19 : op ≠ 19) :
    wpX Tryz.prog 0 zaB (retK zaf fun v' H' x => ∃ a, Frz H' v' a ∧ a = .bool (zan op nn v w l.length)) [(1, encP 5 [.int .i64 op, .int .u32 nn, .int .i64 v, .int .i64 w, encL 5 encX l]), (3, .int .i64 i), (8, .bool false)] [] 0 := by
  unfold zaB
  have hB := hBig
  (repeat first | simp (disch := try exact dis1) only [evD, Nat.reduceBEq, Nat.reduceAdd, Nat.reduceLeDiff, dT, dF, fldP, zaf] | with_reducible intro _ | ((with_reducible apply And.intro); omega))
  by_cases q0 : 3 ≤ op <;> (repeat first | simp (disch := try exact dis1) only [evD, Nat.reduceBEq, Nat.reduceAdd, Nat.reduceLeDiff, dT, dF, fldP, zaf] | with_reducible intro _ | ((with_reducible apply And.intro); omega))
  case neg =>
    unfold zan; exact ⟨_, .bool _ _, congrArg AV.bool lb⟩
  by_cases q1 : op ≤ 15 <;> (repeat first | simp (disch := try exact dis1) only [evD, Nat.reduceBEq, Nat.reduceAdd, Nat.reduceLeDiff, dT, dF, fldP, zaf] | with_reducible intro _ | ((with_reducible apply And.intro); omega))
  case neg =>
    unfold zan; exact ⟨_, .bool _ _, congrArg AV.bool lb⟩
  by_cases q2 : nn = 0 <;> (repeat first | simp (disch := try exact dis1) only [evD, Nat.reduceBEq, Nat.reduceAdd, Nat.reduceLeDiff, dT, dF, fldP, zaf] | with_reducible intro _ | ((with_reducible apply And.intro); omega))
  case neg =>
    unfold zan; exact ⟨_, .bool _ _, congrArg AV.bool lb⟩
  by_cases q3 : v = 0 <;> (repeat first | simp (disch := try exact dis1) only [evD, Nat.reduceBEq, Nat.reduceAdd, Nat.reduceLeDiff, dT, dF, fldP, zaf] | with_reducible intro _ | ((with_reducible apply And.intro); omega))
  case neg =>
    unfold zan; exact ⟨_, .bool _ _, congrArg AV.bool lb⟩
  by_cases q4 : w = 0 <;> (repeat first | simp (disch := try exact dis1) only [evD, Nat.reduceBEq, Nat.reduceAdd, Nat.reduceLeDiff, dT, dF, fldP, zaf] | with_reducible intro _ | ((with_reducible apply And.intro); omega))
  case neg =>
    unfold zan; exact ⟨_, .bool _ _, congrArg AV.bool lb⟩
  unfold zan; exact ⟨_, .bool _ _, congrArg AV.bool lb⟩
theorem zn0 : ∀ (k : Nat) (e : Ex), zgL e ≤ k → zaj Tryz.prog zdP [.agg (encX e)] (· = .bool (zgH e)) := by
  intro k
  induction k with
  | zero => intro e h; obtain ⟨_, _, _, _, l⟩ := e; rw [zgL] at h; omega
  | succ k ih =>
  intro e hk
  obtain ⟨op, nn, v, w, l⟩ := e
  refine fn_x zom rfl ?_
  unfold zjB
  have hB := hBig
  rw [zgL] at hk
  rw [zhg, zgH]
  generalize hR : zd3 l = R
  (repeat first | simp (disch := try exact dis1) only [evD, Nat.reduceBEq, Nat.reduceAdd, Nat.reduceLeDiff, fldP] | with_reducible intro _ | ((with_reducible apply And.intro); omega))
  refine zam (fun i : Nat => ([(1, encP 5 [.int .i64 op, .int .u32 nn, .int .i64 v, .int .i64 w, encL 5 encX l]), (3, .int .i64 i)], [])) 0 (fun i => i ≤ l.length ∧ zd3 (l.drop i) = R) (fun i => l.length - i) 0 ⟨Nat.zero_le _, hR⟩ (Ent.keep rfl fin5) ?_
  rintro i ⟨hi, hgo⟩ wf
  unfold zgX
  by_cases hl : i < l.length
  · have hm := zhI (List.getElem_mem hl)
    rw [List.drop_eq_getElem_cons hl, zd3] at hgo
    (repeat first | simp (disch := try exact dis1) only [evD, Nat.reduceBEq, Nat.reduceAdd, Nat.reduceLeDiff, fldP, dT, zao hl, zbS, zbh] | with_reducible intro _ | ((with_reducible apply And.intro); omega))
    refine zae (zah (ih l[i] (by omega)) (flX rfl)) ?_
    cases hd : zgH l[i] with
    | false =>
      rw [hd, Bool.false_and] at hgo
      subst hgo
      (repeat first | simp (disch := try exact dis1) only [evD, Nat.reduceBEq, Nat.reduceAdd, Nat.reduceLeDiff, zaf] | with_reducible intro _ | ((with_reducible apply And.intro); omega))
      exact ⟨_, .bool _ _, rfl⟩
    | true =>
      rw [hd, Bool.true_and] at hgo
      (repeat first | simp (disch := try exact dis1) only [evD, Nat.reduceBEq, Nat.reduceAdd, Nat.reduceLeDiff] | with_reducible intro _ | ((with_reducible apply And.intro); omega))
      exact ⟨i + 1, ⟨by omega, hgo⟩, by omega, Ent.keep rfl fin5⟩
  · rw [List.drop_of_length_le (by omega), zd3] at hgo
    subst hgo
    (repeat first | simp (disch := try exact dis1) only [evD, Nat.reduceBEq, Nat.reduceAdd, Nat.reduceLeDiff, fldP, dF, Bool.true_and] | with_reducible intro _ | ((with_reducible apply And.intro); omega))
    by_cases h1 : op = 1
    · exact zn8 h1
    by_cases h2 : op = 2
    · exact znq h2
    by_cases h16 : op = 16
    · exact znC h16
    by_cases h17 : op = 17
    · exact zou h17
    by_cases h18 : op = 18
    · exact zny h18
    by_cases h19 : op = 19
    · exact znG h19
    exact zoS h1 h2 h16 h17 h18 h19
theorem zdV (e : Ex) : zaj Tryz.prog zda [.agg (encX e)] (· = .int .i64 (zfQ e)) := by
  refine fn_x znb rfl ?_
  unfold zip zfQ
  have hB := hBig
  (repeat first | simp (disch := try exact dis1) only [evD, Nat.reduceBEq, Nat.reduceAdd, Nat.reduceLeDiff, zbS, zaq, zbh] | with_reducible intro _ | ((with_reducible apply And.intro); omega))
  refine zae (zah (zp9 (zgL e) e 64 (Nat.le_refl _) (by omega) (by omega)) (flX rfl)) ?_
  cases znT e 64 with
  | true =>
    (repeat first | simp (disch := try exact dis1) only [evD, Nat.reduceBEq, Nat.reduceAdd, Nat.reduceLeDiff, zdS] | with_reducible intro _ | ((with_reducible apply And.intro); omega))
    exact ⟨_, .int _ _ _, rfl⟩
  | false =>
    (repeat first | simp (disch := try exact dis1) only [evD, Nat.reduceBEq, Nat.reduceAdd, Nat.reduceLeDiff, zbS, zaq, zbh] | with_reducible intro _ | ((with_reducible apply And.intro); omega))
    refine zae (zah (zn0 (zgL e) e (Nat.le_refl _)) (flX rfl)) ?_
    cases zgH e with
    | true =>
      (repeat first | simp (disch := try exact dis1) only [evD, Nat.reduceBEq, Nat.reduceAdd, Nat.reduceLeDiff, zdS] | with_reducible intro _ | ((with_reducible apply And.intro); omega))
      exact ⟨_, .int _ _ _, rfl⟩
    | false =>
      (repeat first | simp (disch := try exact dis1) only [evD, Nat.reduceBEq, Nat.reduceAdd, Nat.reduceLeDiff, zdS] | with_reducible intro _ | ((with_reducible apply And.intro); omega))
      exact ⟨_, .int _ _ _, rfl⟩
structure PredE (fv : AV) (l : List Ex) (p : Ex → Bool) : Prop where
  ex : ∃ f caps, fv = .fn (.func f) caps ∧ zeS Tryz.prog f = true ∧ zaE caps = true ∧ ∀ s ∈ l, zaj Tryz.prog f ([.agg (encX s)] ++ caps) (· = .bool (p s))
theorem zdg : ∀ {l : List AV}, zaE l = true → l.all AV.flat = true
  | [], _ => rfl
  | a :: l, h => by
    simp only [zaE, Bool.and_eq_true] at h
    simp only [List.all_cons, Bool.and_eq_true]
    refine ⟨?_, zdg h.2⟩
    cases a <;> first | rfl | exact absurd h.1 (by simp [AV.flat0])
theorem zsd {fv : AV} {l : List Ex} {p : Ex → Bool} (hp : PredE fv l p) {s : Ex} (hs : s ∈ l) {H : AH} {nx : Nat} {k : AV → AH → Nat → Prop} (hk : k (.bool (p s)) H nx) : zlg Tryz.prog fv [.agg (encX s)] H nx k := by
  obtain ⟨f, caps, rfl, hg, hf, hx⟩ := hp.ex
  rw [zhE]
  refine ⟨hg, zae (zah (hx s hs) ?_) hk⟩
  simp only [List.cons_append, List.nil_append, List.all_cons, Bool.and_eq_true]
  exact ⟨by have := flX (r := []) rfl (e := s); simpa using this, zdg hf⟩
theorem ze7 {fv : AV} {l : List Ex} {p : Ex → Bool} (hp : PredE fv l p) {H H2 : AH} {σ : Nat → Nat → Option (Nat × Nat × Nat)} {D : Nat → Nat → Prop} {t : Bool} : Vw H H2 σ D t fv fv := by
  obtain ⟨f, caps, rfl, hg, hf, hx⟩ := hp.ex
  refine .fn _ _ _ _ rfl fun i a b h1 h2 => ?_
  rw [h1] at h2
  cases h2
  exact zdq (zcc hf h1)
def idxI (o : Option Nat) : Int := match o with | some i => (i : Int) | none => -1
theorem zj3 (l : List Ex) (fv : AV) (p : Ex → Bool) (hp : PredE fv l p) : zaj Tryz.prog zaU [encL 5 encX l, fv] (· = .int .i64 (idxI (l.findIdx? p))) := by
  refine fn_x zdy rfl ?_
  unfold zbV
  have hB := hBig
  (repeat first | simp (disch := try exact dis1) only [evD, Nat.reduceBEq, Nat.reduceAdd, Nat.reduceLeDiff] | with_reducible intro _ | ((with_reducible apply And.intro); omega))
  refine zam (fun i : Nat => ([(0, encL 5 encX l), (1, fv), (7, .int .i64 l.length), (8, .int .i64 i)], [])) 0 (fun i => i ≤ l.length ∧ ∀ j (h : j < l.length), j < i → p l[j] = false) (fun i => l.length - i) 0 ⟨Nat.zero_le _, fun j _ h => by omega⟩ (Ent.keep rfl fin5) ?_
  intro i ⟨hi, hno⟩ wf
  unfold zbC
  (repeat first | simp (disch := try exact dis1) only [evD, Nat.reduceBEq, Nat.reduceAdd, Nat.reduceLeDiff] | with_reducible intro _ | ((with_reducible apply And.intro); omega))
  (refine zap (fun h => ?_) (fun h => ?_)) <;> (try simp only [dcd] at h)
  · have hi' : i < l.length := by omega
    (repeat first | simp (disch := try exact dis1) only [evD, Nat.reduceBEq, Nat.reduceAdd, Nat.reduceLeDiff, zao hi', zbS, zbh] | with_reducible intro _ | ((with_reducible apply And.intro); omega))
    refine zsd hp (List.getElem_mem hi') ?_
    (repeat first | simp (disch := try exact dis1) only [evD, Nat.reduceBEq, Nat.reduceAdd, Nat.reduceLeDiff] | with_reducible intro _ | ((with_reducible apply And.intro); omega))
    (refine zap (fun h2 => ?_) (fun h2 => ?_)) <;> (try simp only [dcd] at h2)
    · (repeat first | simp (disch := try exact dis1) only [evD, Nat.reduceBEq, Nat.reduceAdd, Nat.reduceLeDiff, za8] | with_reducible intro _ | ((with_reducible apply And.intro); omega))
      have e : l.findIdx? p = some i := by
        rw [List.findIdx?_eq_some_iff_getElem]
        exact ⟨hi', h2, fun j hj => by rw [hno j (by omega) hj]; simp⟩
      rw [e]
      exact ⟨_, .int _ _ _, rfl⟩
    · (repeat first | simp (disch := try exact dis1) only [evD, Nat.reduceBEq, Nat.reduceAdd, Nat.reduceLeDiff] | with_reducible intro _ | ((with_reducible apply And.intro); omega))
      refine ⟨i + 1, ⟨by omega, fun j hj hji => ?_⟩, by omega, Ent.keep rfl fin5⟩
      by_cases hje : j = i
      · subst hje; simpa using h2
      · exact hno j hj (by omega)
  · unfold zbw
    (repeat first | simp (disch := try exact dis1) only [evD, Nat.reduceBEq, Nat.reduceAdd, Nat.reduceLeDiff, za8] | with_reducible intro _ | ((with_reducible apply And.intro); omega))
    have e : l.findIdx? p = none := by
      rw [List.findIdx?_eq_none_iff]
      intro x hx
      obtain ⟨j, hj, rfl⟩ := List.mem_iff_getElem.1 hx
      exact hno j hj (by omega)
    rw [e]
    exact ⟨_, .int _ _ _, rfl⟩
theorem zx4 {l : List Ex} {p : Ex → Bool} : decide (idxI (l.findIdx? p) ≥ 0) = l.any p := by
  cases h : l.findIdx? p with
  | none =>
    have := List.findIdx?_eq_none_iff.1 h
    rw [decide_eq_false (by simp [idxI])]
    symm
    rw [List.any_eq_false]
    intro x hx
    rw [this x hx]; simp
  | some i =>
    obtain ⟨h1, h2, _⟩ := List.findIdx?_eq_some_iff_getElem.1 h
    rw [decide_eq_true (by simp [idxI])]
    exact (zpI h1 h2).symm
theorem zaH (l : List Ex) (fv : AV) (p : Ex → Bool) (hp : PredE fv l p) : zaj Tryz.prog zaD [encL 5 encX l, fv] (· = .bool (l.any p)) := by
  refine fn_x zc5 rfl ?_
  unfold zbz
  (repeat first | simp (disch := try exact dis1) only [evD, Nat.reduceBEq, Nat.reduceAdd, Nat.reduceLeDiff] | with_reducible intro _ | ((with_reducible apply And.intro); omega))
  refine zae (zaY (D := noR) (zj3 l fv p hp) (.cons (zbp rfl) (.cons (ze7 hp) .nil)) (.inl rfl)) ?_
  (repeat first | simp (disch := try exact dis1) only [evD, Nat.reduceBEq, Nat.reduceAdd, Nat.reduceLeDiff, zbE] | with_reducible intro _ | ((with_reducible apply And.intro); omega))
  refine ⟨_, .bool _ _, ?_⟩
  rw [← zx4]
theorem zpk : ∀ (k : Nat) (e : Ex) (m : Int), zgL e ≤ k → -1000 ≤ m → m ≤ 1000 → zaj Tryz.prog zff [.agg (encX e), .int .i64 m] (· = .bool (!znT e m)) := by
  intro k
  induction k with
  | zero => intro e m h; obtain ⟨_, _, _, _, l⟩ := e; rw [zgL] at h; omega
  | succ k ih =>
  intro e m hk hm1 hm2
  obtain ⟨op, nn, v, w, l⟩ := e
  refine fn_x zpw rfl ?_
  unfold zlu
  have hB := hBig
  rw [zgL] at hk
  rw [zhg, znT]
  by_cases h1 : m < 1
  · rw [if_pos h1]
    (repeat first | simp (disch := try exact dis1) only [evD, Nat.reduceBEq, Nat.reduceAdd, Nat.reduceLeDiff, fldP, dF, encP, zie] | with_reducible intro _ | ((with_reducible apply And.intro); omega))
    exact ⟨_, .bool _ _, rfl⟩
  · rw [if_neg h1, zoW]
    have hp : PredE (.fn (.func ze6) [encP 1 [.int .i64 m]]) l (znT · (m - 1)) := by
      refine ⟨_, _, rfl, by kernel_rfl, rfl, fun s hs => ?_⟩
      have hm := zhI hs
      refine fn_x znL rfl ?_
      unfold zjh
      (repeat first | simp (disch := try exact dis1) only [evD, Nat.reduceBEq, Nat.reduceAdd, Nat.reduceLeDiff, zbS, zaq, zbh, encP] | with_reducible intro _ | ((with_reducible apply And.intro); omega))
      refine zae (zah (ih s (m - 1) (by omega) (by omega) (by omega)) (flX rfl)) ?_
      (repeat first | simp (disch := try exact dis1) only [evD, Nat.reduceBEq, Nat.reduceAdd, Nat.reduceLeDiff, zi6] | with_reducible intro _ | ((with_reducible apply And.intro); omega))
      exact ⟨_, .bool _ _, rfl⟩
    (repeat first | simp (disch := try exact dis1) only [evD, Nat.reduceBEq, Nat.reduceAdd, Nat.reduceLeDiff, fldP, dT, encP] | with_reducible intro _ | ((with_reducible apply And.intro); omega))
    refine zae (zaY (D := noR) (zaH l _ _ hp) (.cons (zbp rfl) (.cons (ze7 hp) .nil)) (.inl rfl)) ?_
    (repeat first | simp (disch := try exact dis1) only [evD, Nat.reduceBEq, Nat.reduceAdd, Nat.reduceLeDiff, zie] | with_reducible intro _ | ((with_reducible apply And.intro); omega))
    exact ⟨_, .bool _ _, rfl⟩
theorem zru {op nn v w : Int} {l : List Ex} (h : op = 1) (hp : PredE (.fn (.func zaX) []) l (fun x => !zgH x)) : zaj Tryz.prog zba [.agg [.int .i64 op, .int .u32 nn, .int .i64 v, .int .i64 w, encL 5 encX l]] (· = .bool (zd3 l && zan op nn v w l.length)) := by
  refine fn_x zbO rfl ?_
  unfold zbr
  have hB := hBig
  (repeat first | simp (disch := try exact dis1) only [evD, Nat.reduceBEq, Nat.reduceAdd, Nat.reduceLeDiff, dT, dF, fldP, zaq, zak] | with_reducible intro _ | ((with_reducible apply And.intro); omega))
  by_cases q0 : v = 0 <;> (repeat first | simp (disch := try exact dis1) only [evD, Nat.reduceBEq, Nat.reduceAdd, Nat.reduceLeDiff, dT, dF, fldP, zaq, zak] | with_reducible intro _ | ((with_reducible apply And.intro); omega))
  case neg =>
    exact ⟨_, .bool _ _, congrArg AV.bool (by rw [show zan op nn v w l.length = false from by unfold zan; exact dF (by omega), Bool.and_false])⟩
  by_cases q1 : w = 0 <;> (repeat first | simp (disch := try exact dis1) only [evD, Nat.reduceBEq, Nat.reduceAdd, Nat.reduceLeDiff, dT, dF, fldP, zaq, zak] | with_reducible intro _ | ((with_reducible apply And.intro); omega))
  case neg =>
    exact ⟨_, .bool _ _, congrArg AV.bool (by rw [show zan op nn v w l.length = false from by unfold zan; exact dF (by omega), Bool.and_false])⟩
  by_cases q2 : l.length = 0 <;> (repeat first | simp (disch := try exact dis1) only [evD, Nat.reduceBEq, Nat.reduceAdd, Nat.reduceLeDiff, dT, dF, fldP, zaq, zak] | with_reducible intro _ | ((with_reducible apply And.intro); omega))
  case neg =>
    exact ⟨_, .bool _ _, congrArg AV.bool (by rw [show zan op nn v w l.length = false from by unfold zan; exact dF (by omega), Bool.and_false])⟩
  refine zae (zaY (D := noR) (zaH l _ _ hp) (.cons (zbp rfl) (.cons (ze7 hp) .nil)) (.inl rfl)) ?_
  (repeat first | simp (disch := try exact dis1) only [evD, Nat.reduceBEq, Nat.reduceAdd, Nat.reduceLeDiff, dT, dF, fldP, zaq, zak] | with_reducible intro _ | ((with_reducible apply And.intro); omega))
  exact ⟨_, .bool _ _, congrArg AV.bool (by rw [show zan op nn v w l.length = true from by unfold zan; exact dT (by omega), Bool.and_true, zdl, List.all_eq_not_any_not])⟩
theorem zqL {op nn v w : Int} {l : List Ex} (h : op = 2) (hp : PredE (.fn (.func zaX) []) l (fun x => !zgH x)) : zaj Tryz.prog zba [.agg [.int .i64 op, .int .u32 nn, .int .i64 v, .int .i64 w, encL 5 encX l]] (· = .bool (zd3 l && zan op nn v w l.length)) := by
  refine fn_x zbO rfl ?_
  unfold zbr
  have hB := hBig
  (repeat first | simp (disch := try exact dis1) only [evD, Nat.reduceBEq, Nat.reduceAdd, Nat.reduceLeDiff, dT, dF, fldP, zaq, zak] | with_reducible intro _ | ((with_reducible apply And.intro); omega))
  refine zae (zah (zhf v) rfl) ?_
  unfold zpH
  by_cases hv : 0 ≤ v ∧ v < 65536 <;> (repeat first | simp (disch := try exact dis1) only [evD, Nat.reduceBEq, Nat.reduceAdd, Nat.reduceLeDiff, dT, dF, fldP, zaq, zak] | with_reducible intro _ | ((with_reducible apply And.intro); omega))
  case neg =>
    exact ⟨_, .bool _ _, congrArg AV.bool (by rw [show zan op nn v w l.length = false from by unfold zan; exact dF (by omega), Bool.and_false])⟩
  by_cases q0 : nn = 0 <;> (repeat first | simp (disch := try exact dis1) only [evD, Nat.reduceBEq, Nat.reduceAdd, Nat.reduceLeDiff, dT, dF, fldP, zaq, zak] | with_reducible intro _ | ((with_reducible apply And.intro); omega))
  case neg =>
    exact ⟨_, .bool _ _, congrArg AV.bool (by rw [show zan op nn v w l.length = false from by unfold zan; exact dF (by omega), Bool.and_false])⟩
  by_cases q1 : w = 0 <;> (repeat first | simp (disch := try exact dis1) only [evD, Nat.reduceBEq, Nat.reduceAdd, Nat.reduceLeDiff, dT, dF, fldP, zaq, zak] | with_reducible intro _ | ((with_reducible apply And.intro); omega))
  case neg =>
    exact ⟨_, .bool _ _, congrArg AV.bool (by rw [show zan op nn v w l.length = false from by unfold zan; exact dF (by omega), Bool.and_false])⟩
  by_cases q2 : l.length = 0 <;> (repeat first | simp (disch := try exact dis1) only [evD, Nat.reduceBEq, Nat.reduceAdd, Nat.reduceLeDiff, dT, dF, fldP, zaq, zak] | with_reducible intro _ | ((with_reducible apply And.intro); omega))
  case neg =>
    exact ⟨_, .bool _ _, congrArg AV.bool (by rw [show zan op nn v w l.length = false from by unfold zan; exact dF (by omega), Bool.and_false])⟩
  refine zae (zaY (D := noR) (zaH l _ _ hp) (.cons (zbp rfl) (.cons (ze7 hp) .nil)) (.inl rfl)) ?_
  (repeat first | simp (disch := try exact dis1) only [evD, Nat.reduceBEq, Nat.reduceAdd, Nat.reduceLeDiff, dT, dF, fldP, zaq, zak] | with_reducible intro _ | ((with_reducible apply And.intro); omega))
  exact ⟨_, .bool _ _, congrArg AV.bool (by rw [show zan op nn v w l.length = true from by unfold zan; exact dT (by omega), Bool.and_true, zdl, List.all_eq_not_any_not])⟩
theorem zrF {op nn v w : Int} {l : List Ex} (h : 3 ≤ op) (h2 : op ≤ 15) (hp : PredE (.fn (.func zaX) []) l (fun x => !zgH x)) : zaj Tryz.prog zba [.agg [.int .i64 op, .int .u32 nn, .int .i64 v, .int .i64 w, encL 5 encX l]] (· = .bool (zd3 l && zan op nn v w l.length)) := by
  refine fn_x zbO rfl ?_
  unfold zbr
  have hB := hBig
  (repeat first | simp (disch := try exact dis1) only [evD, Nat.reduceBEq, Nat.reduceAdd, Nat.reduceLeDiff, dT, dF, fldP, zaq, zak] | with_reducible intro _ | ((with_reducible apply And.intro); omega))
  by_cases q0 : nn = 0 <;> (repeat first | simp (disch := try exact dis1) only [evD, Nat.reduceBEq, Nat.reduceAdd, Nat.reduceLeDiff, dT, dF, fldP, zaq, zak] | with_reducible intro _ | ((with_reducible apply And.intro); omega))
  case neg =>
    exact ⟨_, .bool _ _, congrArg AV.bool (by rw [show zan op nn v w l.length = false from by unfold zan; exact dF (by omega), Bool.and_false])⟩
  by_cases q1 : v = 0 <;> (repeat first | simp (disch := try exact dis1) only [evD, Nat.reduceBEq, Nat.reduceAdd, Nat.reduceLeDiff, dT, dF, fldP, zaq, zak] | with_reducible intro _ | ((with_reducible apply And.intro); omega))
  case neg =>
    exact ⟨_, .bool _ _, congrArg AV.bool (by rw [show zan op nn v w l.length = false from by unfold zan; exact dF (by omega), Bool.and_false])⟩
  by_cases q2 : w = 0 <;> (repeat first | simp (disch := try exact dis1) only [evD, Nat.reduceBEq, Nat.reduceAdd, Nat.reduceLeDiff, dT, dF, fldP, zaq, zak] | with_reducible intro _ | ((with_reducible apply And.intro); omega))
  case neg =>
    exact ⟨_, .bool _ _, congrArg AV.bool (by rw [show zan op nn v w l.length = false from by unfold zan; exact dF (by omega), Bool.and_false])⟩
  by_cases q3 : l.length = 2 <;> (repeat first | simp (disch := try exact dis1) only [evD, Nat.reduceBEq, Nat.reduceAdd, Nat.reduceLeDiff, dT, dF, fldP, zaq, zak] | with_reducible intro _ | ((with_reducible apply And.intro); omega))
  case neg =>
    exact ⟨_, .bool _ _, congrArg AV.bool (by rw [show zan op nn v w l.length = false from by unfold zan; exact dF (by omega), Bool.and_false])⟩
  refine zae (zaY (D := noR) (zaH l _ _ hp) (.cons (zbp rfl) (.cons (ze7 hp) .nil)) (.inl rfl)) ?_
  (repeat first | simp (disch := try exact dis1) only [evD, Nat.reduceBEq, Nat.reduceAdd, Nat.reduceLeDiff, dT, dF, fldP, zaq, zak] | with_reducible intro _ | ((with_reducible apply And.intro); omega))
  exact ⟨_, .bool _ _, congrArg AV.bool (by rw [show zan op nn v w l.length = true from by unfold zan; exact dT (by omega), Bool.and_true, zdl, List.all_eq_not_any_not])⟩
theorem zqf {op nn v w : Int} {l : List Ex} (h : op = 16) (hp : PredE (.fn (.func zaX) []) l (fun x => !zgH x)) : zaj Tryz.prog zba [.agg [.int .i64 op, .int .u32 nn, .int .i64 v, .int .i64 w, encL 5 encX l]] (· = .bool (zd3 l && zan op nn v w l.length)) := by
  refine fn_x zbO rfl ?_
  unfold zbr
  have hB := hBig
  (repeat first | simp (disch := try exact dis1) only [evD, Nat.reduceBEq, Nat.reduceAdd, Nat.reduceLeDiff, dT, dF, fldP, zaq, zak] | with_reducible intro _ | ((with_reducible apply And.intro); omega))
  by_cases q0 : nn = 0 <;> (repeat first | simp (disch := try exact dis1) only [evD, Nat.reduceBEq, Nat.reduceAdd, Nat.reduceLeDiff, dT, dF, fldP, zaq, zak] | with_reducible intro _ | ((with_reducible apply And.intro); omega))
  case neg =>
    exact ⟨_, .bool _ _, congrArg AV.bool (by rw [show zan op nn v w l.length = false from by unfold zan; exact dF (by omega), Bool.and_false])⟩
  by_cases q1 : v = 0 <;> (repeat first | simp (disch := try exact dis1) only [evD, Nat.reduceBEq, Nat.reduceAdd, Nat.reduceLeDiff, dT, dF, fldP, zaq, zak] | with_reducible intro _ | ((with_reducible apply And.intro); omega))
  case neg =>
    exact ⟨_, .bool _ _, congrArg AV.bool (by rw [show zan op nn v w l.length = false from by unfold zan; exact dF (by omega), Bool.and_false])⟩
  by_cases q2 : w = 0 <;> (repeat first | simp (disch := try exact dis1) only [evD, Nat.reduceBEq, Nat.reduceAdd, Nat.reduceLeDiff, dT, dF, fldP, zaq, zak] | with_reducible intro _ | ((with_reducible apply And.intro); omega))
  case neg =>
    exact ⟨_, .bool _ _, congrArg AV.bool (by rw [show zan op nn v w l.length = false from by unfold zan; exact dF (by omega), Bool.and_false])⟩
  by_cases q3 : l.length = 1 <;> (repeat first | simp (disch := try exact dis1) only [evD, Nat.reduceBEq, Nat.reduceAdd, Nat.reduceLeDiff, dT, dF, fldP, zaq, zak] | with_reducible intro _ | ((with_reducible apply And.intro); omega))
  case neg =>
    exact ⟨_, .bool _ _, congrArg AV.bool (by rw [show zan op nn v w l.length = false from by unfold zan; exact dF (by omega), Bool.and_false])⟩
  refine zae (zaY (D := noR) (zaH l _ _ hp) (.cons (zbp rfl) (.cons (ze7 hp) .nil)) (.inl rfl)) ?_
  (repeat first | simp (disch := try exact dis1) only [evD, Nat.reduceBEq, Nat.reduceAdd, Nat.reduceLeDiff, dT, dF, fldP, zaq, zak] | with_reducible intro _ | ((with_reducible apply And.intro); omega))
  exact ⟨_, .bool _ _, congrArg AV.bool (by rw [show zan op nn v w l.length = true from by unfold zan; exact dT (by omega), Bool.and_true, zdl, List.all_eq_not_any_not])⟩
theorem zpL {op nn v w : Int} {l : List Ex} (h : op = 17) (hp : PredE (.fn (.func zaX) []) l (fun x => !zgH x)) : zaj Tryz.prog zba [.agg [.int .i64 op, .int .u32 nn, .int .i64 v, .int .i64 w, encL 5 encX l]] (· = .bool (zd3 l && zan op nn v w l.length)) := by
  refine fn_x zbO rfl ?_
  unfold zbr
  have hB := hBig
  (repeat first | simp (disch := try exact dis1) only [evD, Nat.reduceBEq, Nat.reduceAdd, Nat.reduceLeDiff, dT, dF, fldP, zaq, zak] | with_reducible intro _ | ((with_reducible apply And.intro); omega))
  by_cases q0 : nn = 0 <;> (repeat first | simp (disch := try exact dis1) only [evD, Nat.reduceBEq, Nat.reduceAdd, Nat.reduceLeDiff, dT, dF, fldP, zaq, zak] | with_reducible intro _ | ((with_reducible apply And.intro); omega))
  case neg =>
    exact ⟨_, .bool _ _, congrArg AV.bool (by rw [show zan op nn v w l.length = false from by unfold zan; exact dF (by omega), Bool.and_false])⟩
  by_cases q1 : v = 0 <;> (repeat first | simp (disch := try exact dis1) only [evD, Nat.reduceBEq, Nat.reduceAdd, Nat.reduceLeDiff, dT, dF, fldP, zaq, zak] | with_reducible intro _ | ((with_reducible apply And.intro); omega))
  case neg =>
    exact ⟨_, .bool _ _, congrArg AV.bool (by rw [show zan op nn v w l.length = false from by unfold zan; exact dF (by omega), Bool.and_false])⟩
  by_cases q2 : w = 0 <;> (repeat first | simp (disch := try exact dis1) only [evD, Nat.reduceBEq, Nat.reduceAdd, Nat.reduceLeDiff, dT, dF, fldP, zaq, zak] | with_reducible intro _ | ((with_reducible apply And.intro); omega))
  case neg =>
    exact ⟨_, .bool _ _, congrArg AV.bool (by rw [show zan op nn v w l.length = false from by unfold zan; exact dF (by omega), Bool.and_false])⟩
  by_cases q3 : l.length = 1 <;> (repeat first | simp (disch := try exact dis1) only [evD, Nat.reduceBEq, Nat.reduceAdd, Nat.reduceLeDiff, dT, dF, fldP, zaq, zak] | with_reducible intro _ | ((with_reducible apply And.intro); omega))
  case neg =>
    exact ⟨_, .bool _ _, congrArg AV.bool (by rw [show zan op nn v w l.length = false from by unfold zan; exact dF (by omega), Bool.and_false])⟩
  refine zae (zaY (D := noR) (zaH l _ _ hp) (.cons (zbp rfl) (.cons (ze7 hp) .nil)) (.inl rfl)) ?_
  (repeat first | simp (disch := try exact dis1) only [evD, Nat.reduceBEq, Nat.reduceAdd, Nat.reduceLeDiff, dT, dF, fldP, zaq, zak] | with_reducible intro _ | ((with_reducible apply And.intro); omega))
  exact ⟨_, .bool _ _, congrArg AV.bool (by rw [show zan op nn v w l.length = true from by unfold zan; exact dT (by omega), Bool.and_true, zdl, List.all_eq_not_any_not])⟩
theorem zqb {op nn v w : Int} {l : List Ex} (h : op = 18) (hp : PredE (.fn (.func zaX) []) l (fun x => !zgH x)) : zaj Tryz.prog zba [.agg [.int .i64 op, .int .u32 nn, .int .i64 v, .int .i64 w, encL 5 encX l]] (· = .bool (zd3 l && zan op nn v w l.length)) := by
  refine fn_x zbO rfl ?_
  unfold zbr
  have hB := hBig
  (repeat first | simp (disch := try exact dis1) only [evD, Nat.reduceBEq, Nat.reduceAdd, Nat.reduceLeDiff, dT, dF, fldP, zaq, zak] | with_reducible intro _ | ((with_reducible apply And.intro); omega))
  refine zae (zah (zmE w) rfl) ?_
  unfold zpK
  by_cases hv : w = 1 ∨ w = 2 ∨ w = 4 <;> (repeat first | simp (disch := try exact dis1) only [evD, Nat.reduceBEq, Nat.reduceAdd, Nat.reduceLeDiff, dT, dF, fldP, zaq, zak] | with_reducible intro _ | ((with_reducible apply And.intro); omega))
  case neg =>
    exact ⟨_, .bool _ _, congrArg AV.bool (by rw [show zan op nn v w l.length = false from by unfold zan; exact dF (by omega), Bool.and_false])⟩
  by_cases q0 : nn = 0 <;> (repeat first | simp (disch := try exact dis1) only [evD, Nat.reduceBEq, Nat.reduceAdd, Nat.reduceLeDiff, dT, dF, fldP, zaq, zak] | with_reducible intro _ | ((with_reducible apply And.intro); omega))
  case neg =>
    exact ⟨_, .bool _ _, congrArg AV.bool (by rw [show zan op nn v w l.length = false from by unfold zan; exact dF (by omega), Bool.and_false])⟩
  by_cases q1 : v = 0 <;> (repeat first | simp (disch := try exact dis1) only [evD, Nat.reduceBEq, Nat.reduceAdd, Nat.reduceLeDiff, dT, dF, fldP, zaq, zak] | with_reducible intro _ | ((with_reducible apply And.intro); omega))
  case neg =>
    exact ⟨_, .bool _ _, congrArg AV.bool (by rw [show zan op nn v w l.length = false from by unfold zan; exact dF (by omega), Bool.and_false])⟩
  by_cases q2 : l.length = 1 <;> (repeat first | simp (disch := try exact dis1) only [evD, Nat.reduceBEq, Nat.reduceAdd, Nat.reduceLeDiff, dT, dF, fldP, zaq, zak] | with_reducible intro _ | ((with_reducible apply And.intro); omega))
  case neg =>
    exact ⟨_, .bool _ _, congrArg AV.bool (by rw [show zan op nn v w l.length = false from by unfold zan; exact dF (by omega), Bool.and_false])⟩
  refine zae (zaY (D := noR) (zaH l _ _ hp) (.cons (zbp rfl) (.cons (ze7 hp) .nil)) (.inl rfl)) ?_
  (repeat first | simp (disch := try exact dis1) only [evD, Nat.reduceBEq, Nat.reduceAdd, Nat.reduceLeDiff, dT, dF, fldP, zaq, zak] | with_reducible intro _ | ((with_reducible apply And.intro); omega))
  exact ⟨_, .bool _ _, congrArg AV.bool (by rw [show zan op nn v w l.length = true from by unfold zan; exact dT (by omega), Bool.and_true, zdl, List.all_eq_not_any_not])⟩
theorem zoy {op nn v w : Int} {l : List Ex} (h : op = 19) (hw : w = 1) (hp : PredE (.fn (.func zaX) []) l (fun x => !zgH x)) : zaj Tryz.prog zba [.agg [.int .i64 op, .int .u32 nn, .int .i64 v, .int .i64 w, encL 5 encX l]] (· = .bool (zd3 l && zan op nn v w l.length)) := by
  refine fn_x zbO rfl ?_
  unfold zbr
  have hB := hBig
  (repeat first | simp (disch := try exact dis1) only [evD, Nat.reduceBEq, Nat.reduceAdd, Nat.reduceLeDiff, dT, dF, fldP, zaq, zak] | with_reducible intro _ | ((with_reducible apply And.intro); omega))
  by_cases q0 : nn = 0 <;> (repeat first | simp (disch := try exact dis1) only [evD, Nat.reduceBEq, Nat.reduceAdd, Nat.reduceLeDiff, dT, dF, fldP, zaq, zak] | with_reducible intro _ | ((with_reducible apply And.intro); omega))
  case neg =>
    exact ⟨_, .bool _ _, congrArg AV.bool (by rw [show zan op nn v w l.length = false from by unfold zan; exact dF (by omega), Bool.and_false])⟩
  by_cases q1 : v = 0 <;> (repeat first | simp (disch := try exact dis1) only [evD, Nat.reduceBEq, Nat.reduceAdd, Nat.reduceLeDiff, dT, dF, fldP, zaq, zak] | with_reducible intro _ | ((with_reducible apply And.intro); omega))
  case neg =>
    exact ⟨_, .bool _ _, congrArg AV.bool (by rw [show zan op nn v w l.length = false from by unfold zan; exact dF (by omega), Bool.and_false])⟩
  by_cases q2 : l.length = 1 <;> (repeat first | simp (disch := try exact dis1) only [evD, Nat.reduceBEq, Nat.reduceAdd, Nat.reduceLeDiff, dT, dF, fldP, zaq, zak] | with_reducible intro _ | ((with_reducible apply And.intro); omega))
  case neg =>
    exact ⟨_, .bool _ _, congrArg AV.bool (by rw [show zan op nn v w l.length = false from by unfold zan; exact dF (by omega), Bool.and_false])⟩
  refine zae (zaY (D := noR) (zaH l _ _ hp) (.cons (zbp rfl) (.cons (ze7 hp) .nil)) (.inl rfl)) ?_
  (repeat first | simp (disch := try exact dis1) only [evD, Nat.reduceBEq, Nat.reduceAdd, Nat.reduceLeDiff, dT, dF, fldP, zaq, zak] | with_reducible intro _ | ((with_reducible apply And.intro); omega))
  exact ⟨_, .bool _ _, congrArg AV.bool (by rw [show zan op nn v w l.length = true from by unfold zan; exact dT (by omega), Bool.and_true, zdl, List.all_eq_not_any_not])⟩
theorem zoL {op nn v w : Int} {l : List Ex} (h : op = 19) (hw : w = 2) (hp : PredE (.fn (.func zaX) []) l (fun x => !zgH x)) : zaj Tryz.prog zba [.agg [.int .i64 op, .int .u32 nn, .int .i64 v, .int .i64 w, encL 5 encX l]] (· = .bool (zd3 l && zan op nn v w l.length)) := by
  refine fn_x zbO rfl ?_
  unfold zbr
  have hB := hBig
  (repeat first | simp (disch := try exact dis1) only [evD, Nat.reduceBEq, Nat.reduceAdd, Nat.reduceLeDiff, dT, dF, fldP, zaq, zak] | with_reducible intro _ | ((with_reducible apply And.intro); omega))
  by_cases q0 : nn = 0 <;> (repeat first | simp (disch := try exact dis1) only [evD, Nat.reduceBEq, Nat.reduceAdd, Nat.reduceLeDiff, dT, dF, fldP, zaq, zak] | with_reducible intro _ | ((with_reducible apply And.intro); omega))
  case neg =>
    exact ⟨_, .bool _ _, congrArg AV.bool (by rw [show zan op nn v w l.length = false from by unfold zan; exact dF (by omega), Bool.and_false])⟩
  by_cases q1 : v = 0 <;> (repeat first | simp (disch := try exact dis1) only [evD, Nat.reduceBEq, Nat.reduceAdd, Nat.reduceLeDiff, dT, dF, fldP, zaq, zak] | with_reducible intro _ | ((with_reducible apply And.intro); omega))
  case neg =>
    exact ⟨_, .bool _ _, congrArg AV.bool (by rw [show zan op nn v w l.length = false from by unfold zan; exact dF (by omega), Bool.and_false])⟩
  by_cases q2 : l.length = 1 <;> (repeat first | simp (disch := try exact dis1) only [evD, Nat.reduceBEq, Nat.reduceAdd, Nat.reduceLeDiff, dT, dF, fldP, zaq, zak] | with_reducible intro _ | ((with_reducible apply And.intro); omega))
  case neg =>
    exact ⟨_, .bool _ _, congrArg AV.bool (by rw [show zan op nn v w l.length = false from by unfold zan; exact dF (by omega), Bool.and_false])⟩
  refine zae (zaY (D := noR) (zaH l _ _ hp) (.cons (zbp rfl) (.cons (ze7 hp) .nil)) (.inl rfl)) ?_
  (repeat first | simp (disch := try exact dis1) only [evD, Nat.reduceBEq, Nat.reduceAdd, Nat.reduceLeDiff, dT, dF, fldP, zaq, zak] | with_reducible intro _ | ((with_reducible apply And.intro); omega))
  exact ⟨_, .bool _ _, congrArg AV.bool (by rw [show zan op nn v w l.length = true from by unfold zan; exact dT (by omega), Bool.and_true, zdl, List.all_eq_not_any_not])⟩
theorem zoO {op nn v w : Int} {l : List Ex} (h : op = 19) (h1 : w ≠ 1) (h2 : w ≠ 2) (hp : PredE (.fn (.func zaX) []) l (fun x => !zgH x)) : zaj Tryz.prog zba [.agg [.int .i64 op, .int .u32 nn, .int .i64 v, .int .i64 w, encL 5 encX l]] (· = .bool (zd3 l && zan op nn v w l.length)) := by
  refine fn_x zbO rfl ?_
  unfold zbr
  have hB := hBig
  (repeat first | simp (disch := try exact dis1) only [evD, Nat.reduceBEq, Nat.reduceAdd, Nat.reduceLeDiff, dT, dF, fldP, zaq, zak] | with_reducible intro _ | ((with_reducible apply And.intro); omega))
  exact ⟨_, .bool _ _, congrArg AV.bool (by rw [show zan op nn v w l.length = false from by unfold zan; exact dF (by omega), Bool.and_false])⟩
theorem zsn {op nn v w : Int} {l : List Ex} (h0 : op < 1) (hp : PredE (.fn (.func zaX) []) l (fun x => !zgH x)) : zaj Tryz.prog zba [.agg [.int .i64 op, .int .u32 nn, .int .i64 v, .int .i64 w, encL 5 encX l]] (· = .bool (zd3 l && zan op nn v w l.length)) := by
  refine fn_x zbO rfl ?_
  unfold zbr
  have hB := hBig
  (repeat first | simp (disch := try exact dis1) only [evD, Nat.reduceBEq, Nat.reduceAdd, Nat.reduceLeDiff, dT, dF, fldP, zaq, zak] | with_reducible intro _ | ((with_reducible apply And.intro); omega))
  exact ⟨_, .bool _ _, congrArg AV.bool (by rw [show zan op nn v w l.length = false from by unfold zan; exact dF (by omega), Bool.and_false])⟩
theorem zsF {op nn v w : Int} {l : List Ex} (h0 : 19 < op) (hp : PredE (.fn (.func zaX) []) l (fun x => !zgH x)) : zaj Tryz.prog zba [.agg [.int .i64 op, .int .u32 nn, .int .i64 v, .int .i64 w, encL 5 encX l]] (· = .bool (zd3 l && zan op nn v w l.length)) := by
  refine fn_x zbO rfl ?_
  unfold zbr
  have hB := hBig
  (repeat first | simp (disch := try exact dis1) only [evD, Nat.reduceBEq, Nat.reduceAdd, Nat.reduceLeDiff, dT, dF, fldP, zaq, zak] | with_reducible intro _ | ((with_reducible apply And.intro); omega))
  exact ⟨_, .bool _ _, congrArg AV.bool (by rw [show zan op nn v w l.length = false from by unfold zan; exact dF (by omega), Bool.and_false])⟩
theorem zqB : ∀ (k : Nat) (e : Ex), zgL e ≤ k → zaj Tryz.prog zba [.agg (encX e)] (· = .bool (zgH e)) := by
  intro k
  induction k with
  | zero => intro e h; obtain ⟨_, _, _, _, l⟩ := e; rw [zgL] at h; omega
  | succ k ih =>
  intro e hk
  obtain ⟨op, nn, v, w, l⟩ := e
  rw [zgL] at hk
  rw [zhg, zgH]
  have hp : PredE (.fn (.func zaX) []) l (fun x => !zgH x) := by
    refine ⟨_, _, rfl, by kernel_rfl, rfl, fun s hs => ?_⟩
    have hm := zhI hs
    refine fn_x zoB rfl ?_
    unfold zkt
    have hB := hBig
    (repeat first | simp (disch := try exact dis1) only [evD, Nat.reduceBEq, Nat.reduceAdd, Nat.reduceLeDiff, zbS, zaq, zbh, encP] | with_reducible intro _ | ((with_reducible apply And.intro); omega))
    refine zae (zah (ih s (by omega)) (flX rfl)) ?_
    (repeat first | simp (disch := try exact dis1) only [evD, Nat.reduceBEq, Nat.reduceAdd, Nat.reduceLeDiff, zkl] | with_reducible intro _ | ((with_reducible apply And.intro); omega))
    exact ⟨_, .bool _ _, rfl⟩
  by_cases h1 : op = 1
  · exact zru h1 hp
  by_cases h2 : op = 2
  · exact zqL h2 hp
  by_cases h3 : 3 ≤ op ∧ op ≤ 15
  · exact zrF h3.1 h3.2 hp
  by_cases h16 : op = 16
  · exact zqf h16 hp
  by_cases h17 : op = 17
  · exact zpL h17 hp
  by_cases h18 : op = 18
  · exact zqb h18 hp
  by_cases h19 : op = 19
  · by_cases w1 : w = 1
    · exact zoy h19 w1 hp
    by_cases w2 : w = 2
    · exact zoL h19 w2 hp
    exact zoO h19 w1 w2 hp
  by_cases h0 : op < 1
  · exact zsn h0 hp
  exact zsF (by omega) hp
theorem zeC (e : Ex) : zaj Tryz.prog zdG [.agg (encX e)] (· = .int .i64 (zfQ e)) := by
  refine fn_x znw rfl ?_
  unfold zjt zfQ
  have hB := hBig
  (repeat first | simp (disch := try exact dis1) only [evD, Nat.reduceBEq, Nat.reduceAdd, Nat.reduceLeDiff, zbS, zaq, zbh] | with_reducible intro _ | ((with_reducible apply And.intro); omega))
  refine zae (zah (zpk (zgL e) e 64 (Nat.le_refl _) (by omega) (by omega)) (flX rfl)) ?_
  cases znT e 64 with
  | true =>
    (repeat first | simp (disch := try exact dis1) only [evD, Nat.reduceBEq, Nat.reduceAdd, Nat.reduceLeDiff, zen] | with_reducible intro _ | ((with_reducible apply And.intro); omega))
    exact ⟨_, .int _ _ _, rfl⟩
  | false =>
    (repeat first | simp (disch := try exact dis1) only [evD, Nat.reduceBEq, Nat.reduceAdd, Nat.reduceLeDiff, zbS, zaq, zbh] | with_reducible intro _ | ((with_reducible apply And.intro); omega))
    refine zae (zah (zqB (zgL e) e (Nat.le_refl _)) (flX rfl)) ?_
    cases zgH e with
    | true =>
      (repeat first | simp (disch := try exact dis1) only [evD, Nat.reduceBEq, Nat.reduceAdd, Nat.reduceLeDiff, zen] | with_reducible intro _ | ((with_reducible apply And.intro); omega))
      exact ⟨_, .int _ _ _, rfl⟩
    | false =>
      (repeat first | simp (disch := try exact dis1) only [evD, Nat.reduceBEq, Nat.reduceAdd, Nat.reduceLeDiff, zen] | with_reducible intro _ | ((with_reducible apply And.intro); omega))
      exact ⟨_, .int _ _ _, rfl⟩
end Go.Ab
