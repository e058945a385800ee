/-
  Part 9 of the proof: how the calls of this program run, over values instead of memory, and what each function computes.
-/
import Derived.Test.YtpinnphfnmnjlaaKh
set_option linter.unusedVariables false
set_option linter.unusedSimpArgs false
set_option linter.unnecessarySimpa false
set_option linter.unusedSectionVars false

namespace Go.Ab
open Go.RowKit Go.Proofs

set_option maxRecDepth 20000 in
theorem R05_SameSections_ok (l m : List Sec) : PureFn Try.prog f_R05_SameSections [encL 5 Sec.cells l, encL 5 Sec.cells m] (· = .bool (eqL eqS l m)) := by
  refine fn_x cf_R05_SameSections rfl ?_
  unfold ac_R05_SameSections
  have hB : big = 9223372036854775807 := rfl
  have c3 : ∀ s : Sec, s.cells.getD 3 .undef = .bool s.wr := fun _ => rfl
  (repeat (first | (simp (disch := (first | omega | (simp only [evF, evL, implies_true, and_self]; done) | fail)) only [evS, evZ, evX, evK, evB, evL, evR, Nat.reduceBEq, Nat.reduceAdd, Nat.reduceLeDiff, boxR, rboxR, allocR, fldR, binI, unR, pickR, mknilR, mkslR, buildSlR, buildR, extR, convI, eqB, evU, wrap64]) | (with_reducible intro _) | ((with_reducible apply And.intro); omega)))
  by_cases hlm : l.length = m.length
  case neg =>
    rw [eqL_nol hlm]
    (repeat (first | (simp (disch := (first | omega | (simp only [evF, evL, implies_true, and_self]; done) | fail)) only [evS, evZ, evX, evK, evB, evL, evR, Nat.reduceBEq, Nat.reduceAdd, Nat.reduceLeDiff, boxR, rboxR, allocR, fldR, binI, unR, pickR, mknilR, mkslR, buildSlR, buildR, extR, convI, eqB, evU, wrap64, dT, rs_R05_SameSections]) | (with_reducible intro _) | ((with_reducible apply And.intro); omega)))
    exact ⟨_, .bool _ _, rfl⟩
  (repeat (first | (simp (disch := (first | omega | (simp only [evF, evL, implies_true, and_self]; done) | fail)) only [evS, evZ, evX, evK, evB, evL, evR, Nat.reduceBEq, Nat.reduceAdd, Nat.reduceLeDiff, boxR, rboxR, allocR, fldR, binI, unR, pickR, mknilR, mkslR, buildSlR, buildR, extR, convI, eqB, evU, wrap64, dF]) | (with_reducible intro _) | ((with_reducible apply And.intro); omega)))
  refine loopX_intro (fun i : Nat => ([(0, encL 5 Sec.cells l), (1, encL 5 Sec.cells m), (5, .int .i64 i)], [])) 0 (fun i => i ≤ l.length ∧ eqTo1 eqS l m i) (fun i => l.length - i) 0 ⟨Nat.zero_le _, eqTo_zero⟩ (Ent.keep rfl (by (try simp [subK, Kn.get, beq_eq]) <;> (repeat' with_reducible apply And.intro) <;> first | rfl | omega | (simp; done))) ?_
  rintro i ⟨hi, hq⟩ wf
  unfold ac_R05_SameSections_l0
  (repeat (first | (simp (disch := (first | omega | (simp only [evF, evL, implies_true, and_self]; done) | fail)) only [evS, evZ, evX, evK, evB, evL, evR, Nat.reduceBEq, Nat.reduceAdd, Nat.reduceLeDiff, boxR, rboxR, allocR, fldR, binI, unR, pickR, mknilR, mkslR, buildSlR, buildR, extR, convI, eqB, evU, wrap64]) | (with_reducible intro _) | ((with_reducible apply And.intro); omega)))
  (refine condX_intro (fun h => ?_) (fun h => ?_)) <;> (try simp only [decide_eq_true_eq, decide_eq_false_iff_not, Bool.not_eq_true', Bool.not_eq_false', Bool.and_eq_true, Bool.or_eq_true, not_true_eq_false, not_false_eq_true] at h)
  · have h1 : i < l.length := by omega
    have h2 : i < m.length := by omega
    have hs := eqTo_succ h1 h2 hq
    have hn := eqL_no (p := eqS) h1 h2
    have no : eqS l[i] m[i] = false → eqL eqS l m = false := hn
    (repeat (first | (simp (disch := (first | omega | (simp only [evF, evL, implies_true, and_self]; done) | fail)) only [evS, evZ, evX, evK, evB, evL, evR, Nat.reduceBEq, Nat.reduceAdd, Nat.reduceLeDiff, boxR, rboxR, allocR, fldR, binI, unR, pickR, mknilR, mkslR, buildSlR, buildR, extR, convI, eqB, evU, wrap64, getD_map h1, getD_map h2, Sec.c0, Sec.len]) | (with_reducible intro _) | ((with_reducible apply And.intro); omega)))
    by_cases n1 : l[i].name = m[i].name
    case neg =>
      rw [no (by rw [eqS, decide_eq_false n1]; simp)]
      have d1 : decide (l[i].name = m[i].name) = false := decide_eq_false n1
      (repeat (first | (simp (disch := (first | omega | (simp only [evF, evL, implies_true, and_self]; done) | fail)) only [evS, evZ, evX, evK, evB, evL, evR, Nat.reduceBEq, Nat.reduceAdd, Nat.reduceLeDiff, boxR, rboxR, allocR, fldR, binI, unR, pickR, mknilR, mkslR, buildSlR, buildR, extR, convI, eqB, evU, wrap64, d1, Bool.not_false, getD_map h1, getD_map h2, Sec.len, rs_R05_SameSections]) | (with_reducible intro _) | ((with_reducible apply And.intro); omega)))
      exact ⟨_, .bool _ _, rfl⟩
    have d1 : decide (l[i].name = m[i].name) = true := decide_eq_true n1
    (repeat (first | (simp (disch := (first | omega | (simp only [evF, evL, implies_true, and_self]; done) | fail)) only [evS, evZ, evX, evK, evB, evL, evR, Nat.reduceBEq, Nat.reduceAdd, Nat.reduceLeDiff, boxR, rboxR, allocR, fldR, binI, unR, pickR, mknilR, mkslR, buildSlR, buildR, extR, convI, eqB, evU, wrap64, d1, Bool.not_true, getD_map h1, getD_map h2, Sec.c1, Sec.len]) | (with_reducible intro _) | ((with_reducible apply And.intro); omega)))
    by_cases n2 : (l[i].addr.toNat : Int) = m[i].addr.toNat
    case neg =>
      rw [no (by rw [eqS, decide_eq_false n2]; simp)]
      have d2 : decide ((l[i].addr.toNat : Int) ≠ m[i].addr.toNat) = true := decide_eq_true n2
      (repeat (first | (simp (disch := (first | omega | (simp only [evF, evL, implies_true, and_self]; done) | fail)) only [evS, evZ, evX, evK, evB, evL, evR, Nat.reduceBEq, Nat.reduceAdd, Nat.reduceLeDiff, boxR, rboxR, allocR, fldR, binI, unR, pickR, mknilR, mkslR, buildSlR, buildR, extR, convI, eqB, evU, wrap64, d2, Bool.not_true, getD_map h1, getD_map h2, Sec.len, rs_R05_SameSections]) | (with_reducible intro _) | ((with_reducible apply And.intro); omega)))
      exact ⟨_, .bool _ _, rfl⟩
    have d2 : decide ((l[i].addr.toNat : Int) ≠ m[i].addr.toNat) = false := decide_eq_false (fun h => h n2)
    (repeat (first | (simp (disch := (first | omega | (simp only [evF, evL, implies_true, and_self]; done) | fail)) only [evS, evZ, evX, evK, evB, evL, evR, Nat.reduceBEq, Nat.reduceAdd, Nat.reduceLeDiff, boxR, rboxR, allocR, fldR, binI, unR, pickR, mknilR, mkslR, buildSlR, buildR, extR, convI, eqB, evU, wrap64, d2, Bool.not_false, getD_map h1, getD_map h2, c3, Sec.len]) | (with_reducible intro _) | ((with_reducible apply And.intro); omega)))
    by_cases n3 : l[i].wr = m[i].wr
    case neg =>
      have d3 : (l[i].wr != m[i].wr) = true := by simp [n3]
      rw [no (by rw [eqS, show (l[i].wr == m[i].wr) = false by simp [n3]]; simp)]
      (repeat (first | (simp (disch := (first | omega | (simp only [evF, evL, implies_true, and_self]; done) | fail)) only [evS, evZ, evX, evK, evB, evL, evR, Nat.reduceBEq, Nat.reduceAdd, Nat.reduceLeDiff, boxR, rboxR, allocR, fldR, binI, unR, pickR, mknilR, mkslR, buildSlR, buildR, extR, convI, eqB, evU, wrap64, d3, Bool.not_true, getD_map h1, getD_map h2, Sec.len, rs_R05_SameSections]) | (with_reducible intro _) | ((with_reducible apply And.intro); omega)))
      exact ⟨_, .bool _ _, rfl⟩
    have d3 : (l[i].wr != m[i].wr) = false := by simp [n3]
    (repeat (first | (simp (disch := (first | omega | (simp only [evF, evL, implies_true, and_self]; done) | fail)) only [evS, evZ, evX, evK, evB, evL, evR, Nat.reduceBEq, Nat.reduceAdd, Nat.reduceLeDiff, boxR, rboxR, allocR, fldR, binI, unR, pickR, mknilR, mkslR, buildSlR, buildR, extR, convI, eqB, evU, wrap64, d3, Bool.not_false, getD_map h1, getD_map h2, Sec.c4, Sec.len]) | (with_reducible intro _) | ((with_reducible apply And.intro); omega)))
    by_cases n4 : l[i].ex = m[i].ex
    case neg =>
      have d4 : (l[i].ex != m[i].ex) = true := by simp [n4]
      rw [no (by rw [eqS, show (l[i].ex == m[i].ex) = false by simp [n4]]; simp)]
      (repeat (first | (simp (disch := (first | omega | (simp only [evF, evL, implies_true, and_self]; done) | fail)) only [evS, evZ, evX, evK, evB, evL, evR, Nat.reduceBEq, Nat.reduceAdd, Nat.reduceLeDiff, boxR, rboxR, allocR, fldR, binI, unR, pickR, mknilR, mkslR, buildSlR, buildR, extR, convI, eqB, evU, wrap64, d4, Bool.not_true, getD_map h1, getD_map h2, Sec.len, rs_R05_SameSections]) | (with_reducible intro _) | ((with_reducible apply And.intro); omega)))
      exact ⟨_, .bool _ _, rfl⟩
    have d4 : (l[i].ex != m[i].ex) = false := by simp [n4]
    (repeat (first | (simp (disch := (first | omega | (simp only [evF, evL, implies_true, and_self]; done) | fail)) only [evS, evZ, evX, evK, evB, evL, evR, Nat.reduceBEq, Nat.reduceAdd, Nat.reduceLeDiff, boxR, rboxR, allocR, fldR, binI, unR, pickR, mknilR, mkslR, buildSlR, buildR, extR, convI, eqB, evU, wrap64, d4, Bool.not_false, getD_map h1, getD_map h2, Sec.c2, Sec.len]) | (with_reducible intro _) | ((with_reducible apply And.intro); omega)))
    refine callqX_fix (call_flat (R05_SameBytes_ok l[i].data m[i].data) rfl) ?_
    cases hv : eqL eqB1 l[i].data m[i].data with
    | false =>
      rw [no (by rw [eqS, hv]; simp)]
      (repeat (first | (simp (disch := (first | omega | (simp only [evF, evL, implies_true, and_self]; done) | fail)) only [evS, evZ, evX, evK, evB, evL, evR, Nat.reduceBEq, Nat.reduceAdd, Nat.reduceLeDiff, boxR, rboxR, allocR, fldR, binI, unR, pickR, mknilR, mkslR, buildSlR, buildR, extR, convI, eqB, evU, wrap64, rs_R05_SameSections]) | (with_reducible intro _) | ((with_reducible apply And.intro); omega)))
      exact ⟨_, .bool _ _, rfl⟩
    | true =>
      (repeat (first | (simp (disch := (first | omega | (simp only [evF, evL, implies_true, and_self]; done) | fail)) only [evS, evZ, evX, evK, evB, evL, evR, Nat.reduceBEq, Nat.reduceAdd, Nat.reduceLeDiff, boxR, rboxR, allocR, fldR, binI, unR, pickR, mknilR, mkslR, buildSlR, buildR, extR, convI, eqB, evU, wrap64]) | (with_reducible intro _) | ((with_reducible apply And.intro); omega)))
      exact ⟨i + 1, ⟨by omega, hs (by rw [eqS, hv, decide_eq_true n1, decide_eq_true n2, n3, n4]; simp)⟩, by omega, Ent.keep rfl (by (try simp [subK, Kn.get, beq_eq]) <;> (repeat' with_reducible apply And.intro) <;> first | rfl | omega | (simp; done))⟩
  · rw [eqL_end hlm hq (by omega)]
    unfold ac_R05_SameSections_k1
    (repeat (first | (simp (disch := (first | omega | (simp only [evF, evL, implies_true, and_self]; done) | fail)) only [evS, evZ, evX, evK, evB, evL, evR, Nat.reduceBEq, Nat.reduceAdd, Nat.reduceLeDiff, boxR, rboxR, allocR, fldR, binI, unR, pickR, mknilR, mkslR, buildSlR, buildR, extR, convI, eqB, evU, wrap64, rs_R05_SameSections]) | (with_reducible intro _) | ((with_reducible apply And.intro); omega)))
    exact ⟨_, .bool _ _, rfl⟩

/-- Same, in the reference's order. -/
theorem R08_Same_ok (a b : Bin) : PureFn Try.prog f_R08_Same [.agg a.cells, .agg b.cells] (· = .bool (sameO a b)) := by
  refine fn_x cf_R08_Same rfl ?_
  unfold ac_R08_Same
  have hB : big = 9223372036854775807 := rfl
  (repeat (first | (simp (disch := (first | omega | (simp only [evF, evL, implies_true, and_self]; done) | fail)) only [evS, evZ, evX, evK, evB, evL, evR, Nat.reduceBEq, Nat.reduceAdd, Nat.reduceLeDiff, boxR, rboxR, allocR, fldR, binI, unR, pickR, mknilR, mkslR, buildSlR, buildR, extR, convI, eqB, evU, wrap64, Bin.len, Bin.flat]) | (with_reducible intro _) | ((with_reducible apply And.intro); omega)))
  by_cases n1 : (a.entry.toNat : Int) = b.entry.toNat
  case neg =>
    have hno : sameO a b = false := by rw [sameO, decide_eq_false n1]; simp
    rw [hno]
    (repeat (first | (simp (disch := (first | omega | (simp only [evF, evL, implies_true, and_self]; done) | fail)) only [evS, evZ, evX, evK, evB, evL, evR, Nat.reduceBEq, Nat.reduceAdd, Nat.reduceLeDiff, boxR, rboxR, allocR, fldR, binI, unR, pickR, mknilR, mkslR, buildSlR, buildR, extR, convI, eqB, evU, wrap64, Bin.c0, Bin.len, dT, rs_R08_Same]) | (with_reducible intro _) | ((with_reducible apply And.intro); omega)))
    exact ⟨_, .bool _ _, rfl⟩
  have d1 : decide ((a.entry.toNat : Int) ≠ b.entry.toNat) = false := decide_eq_false (fun h => h n1)
  (repeat (first | (simp (disch := (first | omega | (simp only [evF, evL, implies_true, and_self]; done) | fail)) only [evS, evZ, evX, evK, evB, evL, evR, Nat.reduceBEq, Nat.reduceAdd, Nat.reduceLeDiff, boxR, rboxR, allocR, fldR, binI, unR, pickR, mknilR, mkslR, buildSlR, buildR, extR, convI, eqB, evU, wrap64, Bin.c0, Bin.len, d1, Bin.c1]) | (with_reducible intro _) | ((with_reducible apply And.intro); omega)))
  refine callX_fix (call_flat (R05_SameSections_ok a.secs b.secs) rfl) ?_
  have hval : sameO a b = (eqL eqS a.secs b.secs && true && eqL eqY a.syms b.syms && eqL eqRl a.rels b.rels) := by rw [sameO, decide_eq_true n1]
  rw [hval]
  clear hval
  cases eqL eqS a.secs b.secs with
  | false =>
    (repeat (first | (simp (disch := (first | omega | (simp only [evF, evL, implies_true, and_self]; done) | fail)) only [evS, evZ, evX, evK, evB, evL, evR, Nat.reduceBEq, Nat.reduceAdd, Nat.reduceLeDiff, boxR, rboxR, allocR, fldR, binI, unR, pickR, mknilR, mkslR, buildSlR, buildR, extR, convI, eqB, evU, wrap64, rs_R08_Same]) | (with_reducible intro _) | ((with_reducible apply And.intro); omega)))
    exact ⟨_, .bool _ _, rfl⟩
  | true =>
    simp only [Bool.true_and]
    by_cases n2 : a.syms.length = b.syms.length
    case neg =>
      rw [eqL_nol (p := eqY) n2]
      (repeat (first | (simp (disch := (first | omega | (simp only [evF, evL, implies_true, and_self]; done) | fail)) only [evS, evZ, evX, evK, evB, evL, evR, Nat.reduceBEq, Nat.reduceAdd, Nat.reduceLeDiff, boxR, rboxR, allocR, fldR, binI, unR, pickR, mknilR, mkslR, buildSlR, buildR, extR, convI, eqB, evU, wrap64, Bin.c2, Bin.len, dT, rs_R08_Same]) | (with_reducible intro _) | ((with_reducible apply And.intro); omega)))
      exact ⟨_, .bool _ _, rfl⟩
    (repeat (first | (simp (disch := (first | omega | (simp only [evF, evL, implies_true, and_self]; done) | fail)) only [evS, evZ, evX, evK, evB, evL, evR, Nat.reduceBEq, Nat.reduceAdd, Nat.reduceLeDiff, boxR, rboxR, allocR, fldR, binI, unR, pickR, mknilR, mkslR, buildSlR, buildR, extR, convI, eqB, evU, wrap64, Bin.c2, Bin.len, dF, Bin.c3]) | (with_reducible intro _) | ((with_reducible apply And.intro); omega)))
    by_cases n3 : a.rels.length = b.rels.length
    case neg =>
      rw [eqL_nol (p := eqRl) n3, Bool.and_false]
      (repeat (first | (simp (disch := (first | omega | (simp only [evF, evL, implies_true, and_self]; done) | fail)) only [evS, evZ, evX, evK, evB, evL, evR, Nat.reduceBEq, Nat.reduceAdd, Nat.reduceLeDiff, boxR, rboxR, allocR, fldR, binI, unR, pickR, mknilR, mkslR, buildSlR, buildR, extR, convI, eqB, evU, wrap64, Bin.c2, Bin.c3, Bin.len, dT, dF, rs_R08_Same]) | (with_reducible intro _) | ((with_reducible apply And.intro); omega)))
      exact ⟨_, .bool _ _, rfl⟩
    (repeat (first | (simp (disch := (first | omega | (simp only [evF, evL, implies_true, and_self]; done) | fail)) only [evS, evZ, evX, evK, evB, evL, evR, Nat.reduceBEq, Nat.reduceAdd, Nat.reduceLeDiff, boxR, rboxR, allocR, fldR, binI, unR, pickR, mknilR, mkslR, buildSlR, buildR, extR, convI, eqB, evU, wrap64, Bin.c2, Bin.c3, Bin.len, dF]) | (with_reducible intro _) | ((with_reducible apply And.intro); omega)))
    refine loopX_intro (fun i : Nat => ([(2, encP 4 a.cells), (3, encP 4 b.cells), (5, .int .i64 i)], [])) 0 (fun i => i ≤ a.syms.length ∧ eqTo1 eqY a.syms b.syms i) (fun i => a.syms.length - i) 0 ⟨Nat.zero_le _, eqTo_zero⟩ (Ent.keep rfl (by (try simp [subK, Kn.get, beq_eq]) <;> (repeat' with_reducible apply And.intro) <;> first | rfl | omega | (simp; done))) ?_
    rintro i ⟨hi, hq⟩ wf
    unfold ac_R08_Same_l0
    (repeat (first | (simp (disch := (first | omega | (simp only [evF, evL, implies_true, and_self]; done) | fail)) only [evS, evZ, evX, evK, evB, evL, evR, Nat.reduceBEq, Nat.reduceAdd, Nat.reduceLeDiff, boxR, rboxR, allocR, fldR, binI, unR, pickR, mknilR, mkslR, buildSlR, buildR, extR, convI, eqB, evU, wrap64, fldP, Bin.c2, Bin.len]) | (with_reducible intro _) | ((with_reducible apply And.intro); omega)))
    (refine condX_intro (fun h => ?_) (fun h => ?_)) <;> (try simp only [decide_eq_true_eq, decide_eq_false_iff_not, Bool.not_eq_true', Bool.not_eq_false', Bool.and_eq_true, Bool.or_eq_true, not_true_eq_false, not_false_eq_true] at h)
    · have h1 : i < a.syms.length := by omega
      have h2 : i < b.syms.length := by omega
      have hs := eqTo_succ h1 h2 hq
      have hn := eqL_no (p := eqY) h1 h2
      have he2 : ∀ {H : AH} {nx : Nat}, xopR (.eqs true [1, 0, 0]) [.agg (a.syms[i]).cells, .agg (b.syms[i]).cells] H nx = ⟨True, True, .bool (!eqY a.syms[i] b.syms[i]), H, nx⟩ := fun {H nx} => rfl
      (repeat (first | (simp (disch := (first | omega | (simp only [evF, evL, implies_true, and_self]; done) | fail)) only [evS, evZ, evX, evK, evB, evL, evR, Nat.reduceBEq, Nat.reduceAdd, Nat.reduceLeDiff, boxR, rboxR, allocR, fldR, binI, unR, pickR, mknilR, mkslR, buildSlR, buildR, extR, convI, eqB, evU, wrap64, fldP, Bin.c2, Bin.len, getD_map h1, getD_map h2, Sym.three, Sym.len, Sym.flat, he2]) | (with_reducible intro _) | ((with_reducible apply And.intro); omega)))
      cases hv : eqY a.syms[i] b.syms[i] with
      | false =>
        rw [hn hv, Bool.false_and]
        (repeat (first | (simp (disch := (first | omega | (simp only [evF, evL, implies_true, and_self]; done) | fail)) only [evS, evZ, evX, evK, evB, evL, evR, Nat.reduceBEq, Nat.reduceAdd, Nat.reduceLeDiff, boxR, rboxR, allocR, fldR, binI, unR, pickR, mknilR, mkslR, buildSlR, buildR, extR, convI, eqB, evU, wrap64, rs_R08_Same]) | (with_reducible intro _) | ((with_reducible apply And.intro); omega)))
        exact ⟨_, .bool _ _, rfl⟩
      | true =>
        (repeat (first | (simp (disch := (first | omega | (simp only [evF, evL, implies_true, and_self]; done) | fail)) only [evS, evZ, evX, evK, evB, evL, evR, Nat.reduceBEq, Nat.reduceAdd, Nat.reduceLeDiff, boxR, rboxR, allocR, fldR, binI, unR, pickR, mknilR, mkslR, buildSlR, buildR, extR, convI, eqB, evU, wrap64]) | (with_reducible intro _) | ((with_reducible apply And.intro); omega)))
        exact ⟨i + 1, ⟨by omega, hs hv⟩, by omega, Ent.keep rfl (by (try simp [subK, Kn.get, beq_eq]) <;> (repeat' with_reducible apply And.intro) <;> first | rfl | omega | (simp; done))⟩
    · rw [eqL_end n2 hq (by omega), Bool.true_and]
      unfold ac_R08_Same_k3
      (repeat (first | (simp (disch := (first | omega | (simp only [evF, evL, implies_true, and_self]; done) | fail)) only [evS, evZ, evX, evK, evB, evL, evR, Nat.reduceBEq, Nat.reduceAdd, Nat.reduceLeDiff, boxR, rboxR, allocR, fldR, binI, unR, pickR, mknilR, mkslR, buildSlR, buildR, extR, convI, eqB, evU, wrap64]) | (with_reducible intro _) | ((with_reducible apply And.intro); omega)))
      refine loopX_intro (fun i : Nat => ([(2, encP 4 a.cells), (3, encP 4 b.cells), (6, .int .i64 i)], [])) 0 (fun i => i ≤ a.rels.length ∧ eqTo1 eqRl a.rels b.rels i) (fun i => a.rels.length - i) 0 ⟨Nat.zero_le _, eqTo_zero⟩ (Ent.keep rfl (by (try simp [subK, Kn.get, beq_eq]) <;> (repeat' with_reducible apply And.intro) <;> first | rfl | omega | (simp; done))) ?_
      rintro i ⟨hi, hq⟩ wf
      unfold ac_R08_Same_l1
      (repeat (first | (simp (disch := (first | omega | (simp only [evF, evL, implies_true, and_self]; done) | fail)) only [evS, evZ, evX, evK, evB, evL, evR, Nat.reduceBEq, Nat.reduceAdd, Nat.reduceLeDiff, boxR, rboxR, allocR, fldR, binI, unR, pickR, mknilR, mkslR, buildSlR, buildR, extR, convI, eqB, evU, wrap64, fldP, Bin.c3, Bin.len]) | (with_reducible intro _) | ((with_reducible apply And.intro); omega)))
      (refine condX_intro (fun h => ?_) (fun h => ?_)) <;> (try simp only [decide_eq_true_eq, decide_eq_false_iff_not, Bool.not_eq_true', Bool.not_eq_false', Bool.and_eq_true, Bool.or_eq_true, not_true_eq_false, not_false_eq_true] at h)
      · have h1 : i < a.rels.length := by omega
        have h2 : i < b.rels.length := by omega
        have hs := eqTo_succ h1 h2 hq
        have hn := eqL_no (p := eqRl) h1 h2
        have he2 : ∀ {H : AH} {nx : Nat}, xopR (.eqs true [0, 0, 0, 1, 0]) [.agg (a.rels[i]).cells, .agg (b.rels[i]).cells] H nx = ⟨True, True, .bool (!eqRl a.rels[i] b.rels[i]), H, nx⟩ := fun {H nx} => rfl
        (repeat (first | (simp (disch := (first | omega | (simp only [evF, evL, implies_true, and_self]; done) | fail)) only [evS, evZ, evX, evK, evB, evL, evR, Nat.reduceBEq, Nat.reduceAdd, Nat.reduceLeDiff, boxR, rboxR, allocR, fldR, binI, unR, pickR, mknilR, mkslR, buildSlR, buildR, extR, convI, eqB, evU, wrap64, fldP, Bin.c3, Bin.len, getD_map h1, getD_map h2, Rel.five, Rel.len, Rel.flat, he2]) | (with_reducible intro _) | ((with_reducible apply And.intro); omega)))
        cases hv : eqRl a.rels[i] b.rels[i] with
        | false =>
          rw [hn hv]
          (repeat (first | (simp (disch := (first | omega | (simp only [evF, evL, implies_true, and_self]; done) | fail)) only [evS, evZ, evX, evK, evB, evL, evR, Nat.reduceBEq, Nat.reduceAdd, Nat.reduceLeDiff, boxR, rboxR, allocR, fldR, binI, unR, pickR, mknilR, mkslR, buildSlR, buildR, extR, convI, eqB, evU, wrap64, rs_R08_Same]) | (with_reducible intro _) | ((with_reducible apply And.intro); omega)))
          exact ⟨_, .bool _ _, rfl⟩
        | true =>
          (repeat (first | (simp (disch := (first | omega | (simp only [evF, evL, implies_true, and_self]; done) | fail)) only [evS, evZ, evX, evK, evB, evL, evR, Nat.reduceBEq, Nat.reduceAdd, Nat.reduceLeDiff, boxR, rboxR, allocR, fldR, binI, unR, pickR, mknilR, mkslR, buildSlR, buildR, extR, convI, eqB, evU, wrap64]) | (with_reducible intro _) | ((with_reducible apply And.intro); omega)))
          exact ⟨i + 1, ⟨by omega, hs hv⟩, by omega, Ent.keep rfl (by (try simp [subK, Kn.get, beq_eq]) <;> (repeat' with_reducible apply And.intro) <;> first | rfl | omega | (simp; done))⟩
      · rw [eqL_end n3 hq (by omega)]
        unfold ac_R08_Same_k2
        (repeat (first | (simp (disch := (first | omega | (simp only [evF, evL, implies_true, and_self]; done) | fail)) only [evS, evZ, evX, evK, evB, evL, evR, Nat.reduceBEq, Nat.reduceAdd, Nat.reduceLeDiff, boxR, rboxR, allocR, fldR, binI, unR, pickR, mknilR, mkslR, buildSlR, buildR, extR, convI, eqB, evU, wrap64, rs_R08_Same]) | (with_reducible intro _) | ((with_reducible apply And.intro); omega)))
        exact ⟨_, .bool _ _, rfl⟩

theorem dec_comm {α : Type} {x y : α} {i1 : Decidable (x = y)} {i2 : Decidable (y = x)} : @decide (x = y) i1 = @decide (y = x) i2 := decide_eq_decide.2 ⟨Eq.symm, Eq.symm⟩
theorem eqB1_symm (a b : UInt8) : eqB1 a b = eqB1 b a := dec_comm
theorem beq_comm' (a b : Bool) : (a == b) = (b == a) := by cases a <;> cases b <;> rfl
theorem eqS_symm (a b : Sec) : eqS a b = eqS b a := by
  unfold eqS
  rw [eqL_symm eqB1_symm, beq_comm' a.wr, beq_comm' a.ex, dec_comm (x := a.name), dec_comm (x := (a.addr.toNat : Int))]
theorem eqY_symm (a b : Sym) : eqY a b = eqY b a := by
  unfold eqY
  rw [dec_comm (x := a.name), dec_comm (x := (a.addr.toNat : Int)), dec_comm (x := a.kind)]
theorem eqRl_symm (a b : Rel) : eqRl a b = eqRl b a := by
  unfold eqRl
  rw [dec_comm (x := a.sec), dec_comm (x := a.off), dec_comm (x := a.kind), dec_comm (x := a.sym), dec_comm (x := a.add)]
theorem eqS_refl (a : Sec) : eqS a a = true := by
  unfold eqS
  rw [eqL_refl (p := eqB1) (fun a => decide_eq_true rfl)]
  simp
theorem eqY_refl (a : Sym) : eqY a a = true := by simp [eqY]
theorem eqRl_refl (a : Rel) : eqRl a a = true := by simp [eqRl]
theorem sameO_symm (a b : Bin) : sameO a b = sameO b a := by
  unfold sameO
  rw [eqL_symm eqS_symm, eqL_symm eqY_symm, eqL_symm eqRl_symm, dec_comm (x := (a.entry.toNat : Int))]
theorem sameO_refl (a : Bin) : sameO a a = true := by
  unfold sameO
  rw [eqL_refl eqS_refl, eqL_refl eqY_refl, eqL_refl eqRl_refl]
  simp

theorem L08_ObjectSame_ok (a b : Bin) : PureFn Try.prog f_L08_ObjectSame [.agg a.cells, .agg b.cells] (· = .bool true) := by
  refine fn_x cf_L08_ObjectSame rfl ?_
  unfold ac_L08_ObjectSame
  have hB : big = 9223372036854775807 := rfl
  (repeat (first | (simp (disch := (first | omega | (simp only [evF, evL, implies_true, and_self]; done) | fail)) only [evS, evZ, evX, evK, evB, evL, evR, Nat.reduceBEq, Nat.reduceAdd, Nat.reduceLeDiff, boxR, rboxR, allocR, fldR, binI, unR, pickR, mknilR, mkslR, buildSlR, buildR, extR, convI, eqB, evU, wrap64, Bin.len, Bin.flat, Bin.four]) | (with_reducible intro _) | ((with_reducible apply And.intro); omega)))
  refine callX_fix (call_flat (L08_large_ok a) rfl) ?_
  cases hl : largeO a with
  | true =>
    (repeat (first | (simp (disch := (first | omega | (simp only [evF, evL, implies_true, and_self]; done) | fail)) only [evS, evZ, evX, evK, evB, evL, evR, Nat.reduceBEq, Nat.reduceAdd, Nat.reduceLeDiff, boxR, rboxR, allocR, fldR, binI, unR, pickR, mknilR, mkslR, buildSlR, buildR, extR, convI, eqB, evU, wrap64]) | (with_reducible intro _) | ((with_reducible apply And.intro); omega)))
    refine callX_fix (call_flat L08_exampleHolds_ok rfl) ?_
    (repeat (first | (simp (disch := (first | omega | (simp only [evF, evL, implies_true, and_self]; done) | fail)) only [evS, evZ, evX, evK, evB, evL, evR, Nat.reduceBEq, Nat.reduceAdd, Nat.reduceLeDiff, boxR, rboxR, allocR, fldR, binI, unR, pickR, mknilR, mkslR, buildSlR, buildR, extR, convI, eqB, evU, wrap64, rs_L08_ObjectSame]) | (with_reducible intro _) | ((with_reducible apply And.intro); omega)))
    exact ⟨_, .bool _ _, rfl⟩
  | false =>
    (repeat (first | (simp (disch := (first | omega | (simp only [evF, evL, implies_true, and_self]; done) | fail)) only [evS, evZ, evX, evK, evB, evL, evR, Nat.reduceBEq, Nat.reduceAdd, Nat.reduceLeDiff, boxR, rboxR, allocR, fldR, binI, unR, pickR, mknilR, mkslR, buildSlR, buildR, extR, convI, eqB, evU, wrap64, Bin.len, Bin.flat, Bin.four]) | (with_reducible intro _) | ((with_reducible apply And.intro); omega)))
    refine callX_fix (call_flat (L08_large_ok b) rfl) ?_
    cases hm : largeO b with
    | true =>
      (repeat (first | (simp (disch := (first | omega | (simp only [evF, evL, implies_true, and_self]; done) | fail)) only [evS, evZ, evX, evK, evB, evL, evR, Nat.reduceBEq, Nat.reduceAdd, Nat.reduceLeDiff, boxR, rboxR, allocR, fldR, binI, unR, pickR, mknilR, mkslR, buildSlR, buildR, extR, convI, eqB, evU, wrap64]) | (with_reducible intro _) | ((with_reducible apply And.intro); omega)))
      refine callX_fix (call_flat L08_exampleHolds_ok rfl) ?_
      (repeat (first | (simp (disch := (first | omega | (simp only [evF, evL, implies_true, and_self]; done) | fail)) only [evS, evZ, evX, evK, evB, evL, evR, Nat.reduceBEq, Nat.reduceAdd, Nat.reduceLeDiff, boxR, rboxR, allocR, fldR, binI, unR, pickR, mknilR, mkslR, buildSlR, buildR, extR, convI, eqB, evU, wrap64, rs_L08_ObjectSame]) | (with_reducible intro _) | ((with_reducible apply And.intro); omega)))
      exact ⟨_, .bool _ _, rfl⟩
    | false =>
      have hs := object_Same_ok b a
      rw [sameO_symm b a] at hs
      have hr := object_Same_ok a a
      rw [sameO_refl] at hr
      have h1 := object_Same_ok a b
      have h2 := R08_Same_ok a b
      generalize sameO a b = e at hs h1 h2
      have hee : (e == e) = true := by simp
      (repeat (first | (simp (disch := (first | omega | (simp only [evF, evL, implies_true, and_self]; done) | fail)) only [evS, evZ, evX, evK, evB, evL, evR, Nat.reduceBEq, Nat.reduceAdd, Nat.reduceLeDiff, boxR, rboxR, allocR, fldR, binI, unR, pickR, mknilR, mkslR, buildSlR, buildR, extR, convI, eqB, evU, wrap64, Bin.len, Bin.flat, Bin.four]) | (with_reducible intro _) | ((with_reducible apply And.intro); omega)))
      refine callX_fix (call_flat h1 rfl) ?_
      (repeat (first | (simp (disch := (first | omega | (simp only [evF, evL, implies_true, and_self]; done) | fail)) only [evS, evZ, evX, evK, evB, evL, evR, Nat.reduceBEq, Nat.reduceAdd, Nat.reduceLeDiff, boxR, rboxR, allocR, fldR, binI, unR, pickR, mknilR, mkslR, buildSlR, buildR, extR, convI, eqB, evU, wrap64, Bin.len, Bin.flat, Bin.four]) | (with_reducible intro _) | ((with_reducible apply And.intro); omega)))
      refine callX_fix (call_flat h2 rfl) ?_
      (repeat (first | (simp (disch := (first | omega | (simp only [evF, evL, implies_true, and_self]; done) | fail)) only [evS, evZ, evX, evK, evB, evL, evR, Nat.reduceBEq, Nat.reduceAdd, Nat.reduceLeDiff, boxR, rboxR, allocR, fldR, binI, unR, pickR, mknilR, mkslR, buildSlR, buildR, extR, convI, eqB, evU, wrap64, hee, Bin.len, Bin.flat, Bin.four]) | (with_reducible intro _) | ((with_reducible apply And.intro); omega)))
      refine callX_fix (call_flat hs rfl) ?_
      (repeat (first | (simp (disch := (first | omega | (simp only [evF, evL, implies_true, and_self]; done) | fail)) only [evS, evZ, evX, evK, evB, evL, evR, Nat.reduceBEq, Nat.reduceAdd, Nat.reduceLeDiff, boxR, rboxR, allocR, fldR, binI, unR, pickR, mknilR, mkslR, buildSlR, buildR, extR, convI, eqB, evU, wrap64, hee, Bin.len, Bin.flat, Bin.four]) | (with_reducible intro _) | ((with_reducible apply And.intro); omega)))
      refine callX_fix (call_flat hr rfl) ?_
      (repeat (first | (simp (disch := (first | omega | (simp only [evF, evL, implies_true, and_self]; done) | fail)) only [evS, evZ, evX, evK, evB, evL, evR, Nat.reduceBEq, Nat.reduceAdd, Nat.reduceLeDiff, boxR, rboxR, allocR, fldR, binI, unR, pickR, mknilR, mkslR, buildSlR, buildR, extR, convI, eqB, evU, wrap64]) | (with_reducible intro _) | ((with_reducible apply And.intro); omega)))
      refine callX_fix (call_flat L08_exampleHolds_ok rfl) ?_
      (repeat (first | (simp (disch := (first | omega | (simp only [evF, evL, implies_true, and_self]; done) | fail)) only [evS, evZ, evX, evK, evB, evL, evR, Nat.reduceBEq, Nat.reduceAdd, Nat.reduceLeDiff, boxR, rboxR, allocR, fldR, binI, unR, pickR, mknilR, mkslR, buildSlR, buildR, extR, convI, eqB, evU, wrap64, rs_L08_ObjectSame]) | (with_reducible intro _) | ((with_reducible apply And.intro); omega)))
      exact ⟨_, .bool _ _, rfl⟩

end Go.Ab
