/-
  Part 7 of the proof: how the calls of this program run, over values instead of memory, and what each function computes.
-/
import Derived.Test.YtpinnphfnmnjlaaKf
set_option linter.unusedVariables false
set_option linter.unusedSimpArgs false
set_option linter.unnecessarySimpa false
set_option linter.unusedSectionVars false

namespace Go.Ab
open Go.RowKit Go.Proofs

def restR (o : Bin) : Int := if 256 < o.rels.length then 6 else thenE (firstE (oneR o) o.rels o.rels.length 0) (firstE lapR o.rels o.rels.length 0)
theorem checkR_eq (o : Bin) : checkR o = thenE (checkS o.secs) (thenE (checkY o.syms) (restR o)) := rfl
theorem thenE_0 (b : Int) : thenE 0 b = b := rfl
theorem thenE_no {a b : Int} (h : a ≠ 0) : thenE a b = a := if_pos h

theorem thenE_zero {a b : Int} (h : thenE a b = 0) : a = 0 ∧ b = 0 := by
  by_cases ha : a = 0
  · subst ha; exact ⟨rfl, h⟩
  · rw [thenE_no ha] at h; exact absurd h ha

theorem fldP {off n m : Nat} {c : List AV} {H : AH} {nx : Nat} : fldaddrR off n (encP m c) H nx = ⟨off + n ≤ m, True, .iptr n (fun j => c.getD (off + j) .undef), H, nx⟩ := rfl
theorem loadP {n m : Nat} {c : List AV} {H : AH} {nx : Nat} : loadR true n (encP m c) H nx = ⟨n ≤ m, (AV.agg (tab (fun j => c.getD j .undef) n 0)).wf, .agg (tab (fun j => c.getD j .undef) n 0), H, nx⟩ := rfl

theorem reloc_Check_ok (o : Bin) (hoN : o.okN) : PureFn Try.prog f_reloc_Check [.agg o.cells] (· = .int .i64 (checkR o)) := by
  refine fn_x cf_reloc_Check rfl ?_
  unfold ac_reloc_Check
  have hB : big = 9223372036854775807 := rfl
  rw [checkR_eq]
  have hcS := section_Check_ok o.secs hoN.secs
  have hcY := symbol_Check_ok o.syms hoN.syms
  have hokS : checkS o.secs = 0 → o.ok := Bin.okOf hoN
  generalize checkS o.secs = eS at hcS hokS ⊢
  generalize checkY o.syms = eY at hcY ⊢
  have hlR := hoN.lR
  (repeat (first | (simp (disch := (first | omega | (simp only [evF, evL, implies_true, and_self]; done) | fail)) only [evS, evZ, evX, evK, evB, evL, evR, Nat.reduceBEq, Nat.reduceAdd, Nat.reduceLeDiff, boxR, rboxR, allocR, fldR, binI, unR, pickR, mknilR, mkslR, buildSlR, buildR, extR, convI, eqB, evU, wrap64, Bin.len, Bin.flat, Bin.c1]) | (with_reducible intro _) | ((with_reducible apply And.intro); omega)))
  refine callX_fix (call_flat hcS rfl) ?_
  by_cases h1 : eS = 0
  case neg =>
    rw [thenE_no h1]
    (repeat (first | (simp (disch := (first | omega | (simp only [evF, evL, implies_true, and_self]; done) | fail)) only [evS, evZ, evX, evK, evB, evL, evR, Nat.reduceBEq, Nat.reduceAdd, Nat.reduceLeDiff, boxR, rboxR, allocR, fldR, binI, unR, pickR, mknilR, mkslR, buildSlR, buildR, extR, convI, eqB, evU, wrap64, dT, dF, rs_reloc_Check]) | (with_reducible intro _) | ((with_reducible apply And.intro); omega)))
    exact ⟨_, .int _ _ _, rfl⟩
  have ho := hokS h1
  subst h1
  rw [thenE_0]
  (repeat (first | (simp (disch := (first | omega | (simp only [evF, evL, implies_true, and_self]; done) | fail)) only [evS, evZ, evX, evK, evB, evL, evR, Nat.reduceBEq, Nat.reduceAdd, Nat.reduceLeDiff, boxR, rboxR, allocR, fldR, binI, unR, pickR, mknilR, mkslR, buildSlR, buildR, extR, convI, eqB, evU, wrap64, dT, dF, Bin.c2, Bin.len]) | (with_reducible intro _) | ((with_reducible apply And.intro); omega)))
  refine callX_fix (call_flat hcY rfl) ?_
  by_cases h1 : eY = 0
  case neg =>
    rw [thenE_no h1]
    (repeat (first | (simp (disch := (first | omega | (simp only [evF, evL, implies_true, and_self]; done) | fail)) only [evS, evZ, evX, evK, evB, evL, evR, Nat.reduceBEq, Nat.reduceAdd, Nat.reduceLeDiff, boxR, rboxR, allocR, fldR, binI, unR, pickR, mknilR, mkslR, buildSlR, buildR, extR, convI, eqB, evU, wrap64, dT, dF, rs_reloc_Check]) | (with_reducible intro _) | ((with_reducible apply And.intro); omega)))
    exact ⟨_, .int _ _ _, rfl⟩
  subst h1
  rw [thenE_0]
  by_cases h6 : 256 < o.rels.length
  · rw [restR, if_pos h6]
    (repeat (first | (simp (disch := (first | omega | (simp only [evF, evL, implies_true, and_self]; done) | fail)) only [evS, evZ, evX, evK, evB, evL, evR, Nat.reduceBEq, Nat.reduceAdd, Nat.reduceLeDiff, boxR, rboxR, allocR, fldR, binI, unR, pickR, mknilR, mkslR, buildSlR, buildR, extR, convI, eqB, evU, wrap64, dT, dF, Bin.c3, Bin.len, rs_reloc_Check]) | (with_reducible intro _) | ((with_reducible apply And.intro); omega)))
    exact ⟨_, .int _ _ _, rfl⟩
  rw [restR, if_neg h6]
  generalize hR : firstE (oneR o) o.rels o.rels.length 0 = R
  (repeat (first | (simp (disch := (first | omega | (simp only [evF, evL, implies_true, and_self]; done) | fail)) only [evS, evZ, evX, evK, evB, evL, evR, Nat.reduceBEq, Nat.reduceAdd, Nat.reduceLeDiff, boxR, rboxR, allocR, fldR, binI, unR, pickR, mknilR, mkslR, buildSlR, buildR, extR, convI, eqB, evU, wrap64, dT, dF, Bin.c3, Bin.len]) | (with_reducible intro _) | ((with_reducible apply And.intro); omega)))
  refine loopX_intro (fun i : Nat => ([(1, encP 4 o.cells), (25, encL 5 Rel.cells o.rels), (26, .int .i64 o.rels.length), (27, .int .i64 i)], [])) 0 (fun i => i ≤ o.rels.length ∧ firstE (oneR o) o.rels (o.rels.length - i) i = R) (fun i => o.rels.length - i) 0 ⟨Nat.zero_le _, hR⟩ (Ent.keep rfl (by (try simp [subK, Kn.get, beq_eq]) <;> (repeat' with_reducible apply And.intro) <;> first | rfl | omega | (simp; done))) ?_
  rintro i ⟨hi, hgo⟩ wf
  unfold ac_reloc_Check_l0
  (repeat (first | (simp (disch := (first | omega | (simp only [evF, evL, implies_true, and_self]; done) | fail)) only [evS, evZ, evX, evK, evB, evL, evR, Nat.reduceBEq, Nat.reduceAdd, Nat.reduceLeDiff, boxR, rboxR, allocR, fldR, binI, unR, pickR, mknilR, mkslR, buildSlR, buildR, extR, convI, eqB, evU, wrap64]) | (with_reducible intro _) | ((with_reducible apply And.intro); omega)))
  (refine condX_intro (fun h2 => ?_) (fun h2 => ?_)) <;> (try simp only [decide_eq_true_eq, decide_eq_false_iff_not, Bool.not_eq_true', Bool.not_eq_false', Bool.and_eq_true, Bool.or_eq_true, not_true_eq_false, not_false_eq_true] at h2)
  · have hi' : i < o.rels.length := by omega
    rw [show o.rels.length - i = (o.rels.length - (i + 1)) + 1 by omega, firstE_step hi'] at hgo
    (repeat (first | (simp (disch := (first | omega | (simp only [evF, evL, implies_true, and_self]; done) | fail)) only [evS, evZ, evX, evK, evB, evL, evR, Nat.reduceBEq, Nat.reduceAdd, Nat.reduceLeDiff, boxR, rboxR, allocR, fldR, binI, unR, pickR, mknilR, mkslR, buildSlR, buildR, extR, convI, eqB, evU, wrap64, getD_map hi', Rel.five, Rel.len, Rel.flat, Bin.four, Bin.len, Bin.flat, loadP]) | (with_reducible intro _) | ((with_reducible apply And.intro); omega)))
    refine callX_fix (call_flat (reloc_one_ok o ho o.rels[i] (o.rels.take i)) rfl) ?_
    generalize oneR o (o.rels.take i) o.rels[i] = e at hgo ⊢
    by_cases h3 : e = 0
    · subst h3
      rw [if_neg (by decide)] at hgo
      (repeat (first | (simp (disch := (first | omega | (simp only [evF, evL, implies_true, and_self]; done) | fail)) only [evS, evZ, evX, evK, evB, evL, evR, Nat.reduceBEq, Nat.reduceAdd, Nat.reduceLeDiff, boxR, rboxR, allocR, fldR, binI, unR, pickR, mknilR, mkslR, buildSlR, buildR, extR, convI, eqB, evU, wrap64, dT, dF]) | (with_reducible intro _) | ((with_reducible apply And.intro); omega)))
      exact ⟨i + 1, ⟨by omega, hgo⟩, by omega, (Ent.tab [] [] rfl (by (try simp only [evW, evK, evB, evL, Nat.reduceBEq, Nat.reduceAdd, Nat.reduceSub, Nat.reduceLeDiff, Nat.reduceLT, implies_true, and_self, Int.natCast_zero, Int.natCast_one, Int.cast_ofNat_Int, evV, encInts, encNats, encBools, encP]) <;> (repeat' with_reducible apply And.intro) <;> first | omega | exact vw_nats rfl rfl (by omega) | exact vw_ints rfl rfl (by omega) | exact vw_bools rfl rfl (by omega) | exact rowV_flat (by repeat' first | exact bytes_flat | exact flat1 | refine flat_app ?_ ?_) | exact rowV_fe (fun _ => rfl) | exact rowV_fe_start (c := cN) (fun _ => rfl) rfl | exact rowsV_fam (fun _ => rfl) (by decide) ⟨rfl, rfl⟩ trivial | exact rowsV_fam (fun _ => rfl) (by decide) (fun _ _ => ⟨rfl, rfl⟩) trivial | (simp; done)) (by (try simp only [evW, evK, evB, evL, Nat.reduceBEq, Nat.reduceAdd, Nat.reduceSub, Nat.reduceLeDiff, Nat.reduceLT, implies_true, and_self, Int.natCast_zero, Int.natCast_one, Int.cast_ofNat_Int, evV, encInts, encNats, encBools, encP]) <;> (repeat' with_reducible apply And.intro) <;> first | omega | exact vw_nats rfl rfl (by omega) | exact vw_ints rfl rfl (by omega) | exact vw_bools rfl rfl (by omega) | exact rowV_flat (by repeat' first | exact bytes_flat | exact flat1 | refine flat_app ?_ ?_) | exact rowV_fe (fun _ => rfl) | exact rowV_fe_start (c := cN) (fun _ => rfl) rfl | exact rowsV_fam (fun _ => rfl) (by decide) ⟨rfl, rfl⟩ trivial | exact rowsV_fam (fun _ => rfl) (by decide) (fun _ _ => ⟨rfl, rfl⟩) trivial | (simp; done)))⟩
    · rw [if_pos h3] at hgo
      rw [← hgo, thenE_no h3]
      (repeat (first | (simp (disch := (first | omega | (simp only [evF, evL, implies_true, and_self]; done) | fail)) only [evS, evZ, evX, evK, evB, evL, evR, Nat.reduceBEq, Nat.reduceAdd, Nat.reduceLeDiff, boxR, rboxR, allocR, fldR, binI, unR, pickR, mknilR, mkslR, buildSlR, buildR, extR, convI, eqB, evU, wrap64, dT, dF, rs_reloc_Check]) | (with_reducible intro _) | ((with_reducible apply And.intro); omega)))
      exact ⟨_, .int _ _ _, rfl⟩
  · rw [firstE_end (by omega)] at hgo
    rw [← hgo, thenE_0]
    unfold ac_reloc_Check_k1
    (repeat (first | (simp (disch := (first | omega | (simp only [evF, evL, implies_true, and_self]; done) | fail)) only [evS, evZ, evX, evK, evB, evL, evR, Nat.reduceBEq, Nat.reduceAdd, Nat.reduceLeDiff, boxR, rboxR, allocR, fldR, binI, unR, pickR, mknilR, mkslR, buildSlR, buildR, extR, convI, eqB, evU, wrap64, fldP, Bin.c3, Bin.len]) | (with_reducible intro _) | ((with_reducible apply And.intro); omega)))
    refine callX_fix (call_flat (reloc_shared_ok o.rels ho.lR (relsIn ho (hR.trans hgo.symm))) rfl) ?_
    rcases lapR_08 (l := o.rels) (n := o.rels.length) (i := 0) with h8 | h8
    · rw [h8]
      have e0 : decide ((0 : Int) ≠ 0) = false := rfl
      (repeat (first | (simp (disch := (first | omega | (simp only [evF, evL, implies_true, and_self]; done) | fail)) only [evS, evZ, evX, evK, evB, evL, evR, Nat.reduceBEq, Nat.reduceAdd, Nat.reduceLeDiff, boxR, rboxR, allocR, fldR, binI, unR, pickR, mknilR, mkslR, buildSlR, buildR, extR, convI, eqB, evU, wrap64, e0, rs_reloc_Check]) | (with_reducible intro _) | ((with_reducible apply And.intro); omega)))
      exact ⟨_, .int _ _ _, rfl⟩
    · rw [h8]
      have e0 : decide ((10 : Int) ≠ 0) = true := rfl
      (repeat (first | (simp (disch := (first | omega | (simp only [evF, evL, implies_true, and_self]; done) | fail)) only [evS, evZ, evX, evK, evB, evL, evR, Nat.reduceBEq, Nat.reduceAdd, Nat.reduceLeDiff, boxR, rboxR, allocR, fldR, binI, unR, pickR, mknilR, mkslR, buildSlR, buildR, extR, convI, eqB, evU, wrap64, e0, rs_reloc_Check]) | (with_reducible intro _) | ((with_reducible apply And.intro); omega)))
      exact ⟨_, .int _ _ _, rfl⟩

theorem R07_Check_ok (o : Bin) (hoN : o.okN) : PureFn Try.prog f_R07_Check [.agg o.cells] (· = .int .i64 (checkR o)) := by
  refine fn_x cf_R07_Check rfl ?_
  unfold ac_R07_Check
  have hB : big = 9223372036854775807 := rfl
  rw [checkR_eq]
  have hcS := R05_Check_ok o.secs hoN.secs
  have hcY := R06_Check_ok o.syms hoN.syms
  have hokS : checkS o.secs = 0 → o.ok := Bin.okOf hoN
  generalize checkS o.secs = eS at hcS hokS ⊢
  generalize checkY o.syms = eY at hcY ⊢
  have hlR := hoN.lR
  (repeat (first | (simp (disch := (first | omega | (simp only [evF, evL, implies_true, and_self]; done) | fail)) only [evS, evZ, evX, evK, evB, evL, evR, Nat.reduceBEq, Nat.reduceAdd, Nat.reduceLeDiff, boxR, rboxR, allocR, fldR, binI, unR, pickR, mknilR, mkslR, buildSlR, buildR, extR, convI, eqB, evU, wrap64, Bin.len, Bin.flat, Bin.c1]) | (with_reducible intro _) | ((with_reducible apply And.intro); omega)))
  refine callX_fix (call_flat hcS rfl) ?_
  by_cases h1 : eS = 0
  case neg =>
    rw [thenE_no h1]
    (repeat (first | (simp (disch := (first | omega | (simp only [evF, evL, implies_true, and_self]; done) | fail)) only [evS, evZ, evX, evK, evB, evL, evR, Nat.reduceBEq, Nat.reduceAdd, Nat.reduceLeDiff, boxR, rboxR, allocR, fldR, binI, unR, pickR, mknilR, mkslR, buildSlR, buildR, extR, convI, eqB, evU, wrap64, dT, dF, rs_R07_Check]) | (with_reducible intro _) | ((with_reducible apply And.intro); omega)))
    exact ⟨_, .int _ _ _, rfl⟩
  have ho := hokS h1
  subst h1
  rw [thenE_0]
  (repeat (first | (simp (disch := (first | omega | (simp only [evF, evL, implies_true, and_self]; done) | fail)) only [evS, evZ, evX, evK, evB, evL, evR, Nat.reduceBEq, Nat.reduceAdd, Nat.reduceLeDiff, boxR, rboxR, allocR, fldR, binI, unR, pickR, mknilR, mkslR, buildSlR, buildR, extR, convI, eqB, evU, wrap64, dT, dF, Bin.c2, Bin.len]) | (with_reducible intro _) | ((with_reducible apply And.intro); omega)))
  refine callX_fix (call_flat hcY rfl) ?_
  by_cases h1 : eY = 0
  case neg =>
    rw [thenE_no h1]
    (repeat (first | (simp (disch := (first | omega | (simp only [evF, evL, implies_true, and_self]; done) | fail)) only [evS, evZ, evX, evK, evB, evL, evR, Nat.reduceBEq, Nat.reduceAdd, Nat.reduceLeDiff, boxR, rboxR, allocR, fldR, binI, unR, pickR, mknilR, mkslR, buildSlR, buildR, extR, convI, eqB, evU, wrap64, dT, dF, rs_R07_Check]) | (with_reducible intro _) | ((with_reducible apply And.intro); omega)))
    exact ⟨_, .int _ _ _, rfl⟩
  subst h1
  rw [thenE_0]
  by_cases h6 : 256 < o.rels.length
  · rw [restR, if_pos h6]
    (repeat (first | (simp (disch := (first | omega | (simp only [evF, evL, implies_true, and_self]; done) | fail)) only [evS, evZ, evX, evK, evB, evL, evR, Nat.reduceBEq, Nat.reduceAdd, Nat.reduceLeDiff, boxR, rboxR, allocR, fldR, binI, unR, pickR, mknilR, mkslR, buildSlR, buildR, extR, convI, eqB, evU, wrap64, dT, dF, Bin.c3, Bin.len, rs_R07_Check]) | (with_reducible intro _) | ((with_reducible apply And.intro); omega)))
    exact ⟨_, .int _ _ _, rfl⟩
  rw [restR, if_neg h6]
  generalize hR : firstE (oneR o) o.rels o.rels.length 0 = R
  generalize hR2 : firstE lapR o.rels o.rels.length 0 = R2
  (repeat (first | (simp (disch := (first | omega | (simp only [evF, evL, implies_true, and_self]; done) | fail)) only [evS, evZ, evX, evK, evB, evL, evR, Nat.reduceBEq, Nat.reduceAdd, Nat.reduceLeDiff, boxR, rboxR, allocR, fldR, binI, unR, pickR, mknilR, mkslR, buildSlR, buildR, extR, convI, eqB, evU, wrap64, dT, dF, Bin.c3, Bin.len]) | (with_reducible intro _) | ((with_reducible apply And.intro); omega)))
  refine loopX_intro (fun i : Nat => ([(1, encP 4 o.cells), (4, .int .i64 i)], [])) 0 (fun i => i ≤ o.rels.length ∧ firstE (oneR o) o.rels (o.rels.length - i) i = R) (fun i => o.rels.length - i) 0 ⟨Nat.zero_le _, hR⟩ (Ent.keep rfl (by (try simp [subK, Kn.get, beq_eq]) <;> (repeat' with_reducible apply And.intro) <;> first | rfl | omega | (simp; done))) ?_
  rintro i ⟨hi, hgo⟩ wf
  unfold ac_R07_Check_l0
  (repeat (first | (simp (disch := (first | omega | (simp only [evF, evL, implies_true, and_self]; done) | fail)) only [evS, evZ, evX, evK, evB, evL, evR, Nat.reduceBEq, Nat.reduceAdd, Nat.reduceLeDiff, boxR, rboxR, allocR, fldR, binI, unR, pickR, mknilR, mkslR, buildSlR, buildR, extR, convI, eqB, evU, wrap64, fldP, Bin.c3, Bin.len]) | (with_reducible intro _) | ((with_reducible apply And.intro); omega)))
  (refine condX_intro (fun h2 => ?_) (fun h2 => ?_)) <;> (try simp only [decide_eq_true_eq, decide_eq_false_iff_not, Bool.not_eq_true', Bool.not_eq_false', Bool.and_eq_true, Bool.or_eq_true, not_true_eq_false, not_false_eq_true] at h2)
  · have hi' : i < o.rels.length := by omega
    rw [show o.rels.length - i = (o.rels.length - (i + 1)) + 1 by omega, firstE_step hi'] at hgo
    (repeat (first | (simp (disch := (first | omega | (simp only [evF, evL, implies_true, and_self]; done) | fail)) only [evS, evZ, evX, evK, evB, evL, evR, Nat.reduceBEq, Nat.reduceAdd, Nat.reduceLeDiff, boxR, rboxR, allocR, fldR, binI, unR, pickR, mknilR, mkslR, buildSlR, buildR, extR, convI, eqB, evU, wrap64, getD_map hi', Rel.five, Rel.len, Rel.flat, Bin.four, Bin.len, Bin.flat, fldP, loadP, Bin.c3]) | (with_reducible intro _) | ((with_reducible apply And.intro); omega)))
    refine callqX_fix (call_flat (R07_checkOne_ok o ho o.rels[i] (o.rels.take i)) rfl) ?_
    generalize oneR o (o.rels.take i) o.rels[i] = e at hgo ⊢
    by_cases h3 : e = 0
    · subst h3
      rw [if_neg (by decide)] at hgo
      (repeat (first | (simp (disch := (first | omega | (simp only [evF, evL, implies_true, and_self]; done) | fail)) only [evS, evZ, evX, evK, evB, evL, evR, Nat.reduceBEq, Nat.reduceAdd, Nat.reduceLeDiff, boxR, rboxR, allocR, fldR, binI, unR, pickR, mknilR, mkslR, buildSlR, buildR, extR, convI, eqB, evU, wrap64, dT, dF]) | (with_reducible intro _) | ((with_reducible apply And.intro); omega)))
      exact ⟨i + 1, ⟨by omega, hgo⟩, by omega, Ent.keep rfl (by (try simp [subK, Kn.get, beq_eq]) <;> (repeat' with_reducible apply And.intro) <;> first | rfl | omega | (simp; done))⟩
    · rw [if_pos h3] at hgo
      rw [← hgo, thenE_no h3]
      (repeat (first | (simp (disch := (first | omega | (simp only [evF, evL, implies_true, and_self]; done) | fail)) only [evS, evZ, evX, evK, evB, evL, evR, Nat.reduceBEq, Nat.reduceAdd, Nat.reduceLeDiff, boxR, rboxR, allocR, fldR, binI, unR, pickR, mknilR, mkslR, buildSlR, buildR, extR, convI, eqB, evU, wrap64, dT, dF, rs_R07_Check]) | (with_reducible intro _) | ((with_reducible apply And.intro); omega)))
      exact ⟨_, .int _ _ _, rfl⟩
  rw [firstE_end (by omega)] at hgo
  rw [← hgo, thenE_0]
  have hin := relsIn ho (hR.trans hgo.symm)
  unfold ac_R07_Check_k5
  (repeat (first | (simp (disch := (first | omega | (simp only [evF, evL, implies_true, and_self]; done) | fail)) only [evS, evZ, evX, evK, evB, evL, evR, Nat.reduceBEq, Nat.reduceAdd, Nat.reduceLeDiff, boxR, rboxR, allocR, fldR, binI, unR, pickR, mknilR, mkslR, buildSlR, buildR, extR, convI, eqB, evU, wrap64]) | (with_reducible intro _) | ((with_reducible apply And.intro); omega)))
  refine loopX_intro (fun i : Nat => ([(1, encP 4 o.cells), (5, .int .i64 i)], [])) 0 (fun i => i ≤ o.rels.length ∧ firstE lapR o.rels (o.rels.length - i) i = R2) (fun i => o.rels.length - i) 0 ⟨Nat.zero_le _, hR2⟩ (Ent.keep rfl (by (try simp [subK, Kn.get, beq_eq]) <;> (repeat' with_reducible apply And.intro) <;> first | rfl | omega | (simp; done))) ?_
  rintro i ⟨hi, hgo⟩ wf
  unfold ac_R07_Check_l3
  (repeat (first | (simp (disch := (first | omega | (simp only [evF, evL, implies_true, and_self]; done) | fail)) only [evS, evZ, evX, evK, evB, evL, evR, Nat.reduceBEq, Nat.reduceAdd, Nat.reduceLeDiff, boxR, rboxR, allocR, fldR, binI, unR, pickR, mknilR, mkslR, buildSlR, buildR, extR, convI, eqB, evU, wrap64, fldP, Bin.c3, Bin.len]) | (with_reducible intro _) | ((with_reducible apply And.intro); omega)))
  (refine condX_intro (fun h2 => ?_) (fun h2 => ?_)) <;> (try simp only [decide_eq_true_eq, decide_eq_false_iff_not, Bool.not_eq_true', Bool.not_eq_false', Bool.and_eq_true, Bool.or_eq_true, not_true_eq_false, not_false_eq_true] at h2)
  · have hi' : i < o.rels.length := by omega
    have hri := hin _ (List.getElem_mem hi')
    rw [show o.rels.length - i = (o.rels.length - (i + 1)) + 1 by omega, firstE_step hi'] at hgo
    (repeat (first | (simp (disch := (first | omega | (simp only [evF, evL, implies_true, and_self]; done) | fail)) only [evS, evZ, evX, evK, evB, evL, evR, Nat.reduceBEq, Nat.reduceAdd, Nat.reduceLeDiff, boxR, rboxR, allocR, fldR, binI, unR, pickR, mknilR, mkslR, buildSlR, buildR, extR, convI, eqB, evU, wrap64]) | (with_reducible intro _) | ((with_reducible apply And.intro); omega)))
    refine loopX_intro (fun k : Nat => ([(1, encP 4 o.cells), (5, .int .i64 i), (6, .int .i64 k)], [])) 0 (fun k => k ≤ i ∧ (o.rels.take k).any (fun x => nearR o.rels[i] x) = false) (fun k => i - k) 0 ⟨Nat.zero_le _, rfl⟩ (Ent.keep rfl (by (try simp [subK, Kn.get, beq_eq]) <;> (repeat' with_reducible apply And.intro) <;> first | rfl | omega | (simp; done))) ?_
    rintro k ⟨hk, hno⟩ wf
    unfold ac_R07_Check_l1
    (repeat (first | (simp (disch := (first | omega | (simp only [evF, evL, implies_true, and_self]; done) | fail)) only [evS, evZ, evX, evK, evB, evL, evR, Nat.reduceBEq, Nat.reduceAdd, Nat.reduceLeDiff, boxR, rboxR, allocR, fldR, binI, unR, pickR, mknilR, mkslR, buildSlR, buildR, extR, convI, eqB, evU, wrap64]) | (with_reducible intro _) | ((with_reducible apply And.intro); omega)))
    (refine condX_intro (fun h2 => ?_) (fun h2 => ?_)) <;> (try simp only [decide_eq_true_eq, decide_eq_false_iff_not, Bool.not_eq_true', Bool.not_eq_false', Bool.and_eq_true, Bool.or_eq_true, not_true_eq_false, not_false_eq_true] at h2)
    · have hk' : k < o.rels.length := by omega
      have hst := any_take_succ (p := fun x : Rel => nearR o.rels[i] x) hk'
      have hrk := hin _ (List.getElem_mem hk')
      (repeat (first | (simp (disch := (first | omega | (simp only [evF, evL, implies_true, and_self]; done) | fail)) only [evS, evZ, evX, evK, evB, evL, evR, Nat.reduceBEq, Nat.reduceAdd, Nat.reduceLeDiff, boxR, rboxR, allocR, fldR, binI, unR, pickR, mknilR, mkslR, buildSlR, buildR, extR, convI, eqB, evU, wrap64, getD_map hi', getD_map hk', Rel.five, Rel.len, Rel.flat, fldP, loadP, Bin.c3, Bin.len]) | (with_reducible intro _) | ((with_reducible apply And.intro); omega)))
      refine callqX_fix (call_flat (R07_share_ok o.rels[i] o.rels[k] hri hrk) rfl) ?_
      cases hn : nearR o.rels[i] o.rels[k] with
      | true =>
        have hany : ((o.rels.take i).any fun x => nearR o.rels[i] x) = true := by
          refine any_hit (i := k) (by rw [List.length_take]; omega) ?_
          rw [List.getElem_take]
          exact hn
        have h10 : lapR (o.rels.take i) o.rels[i] = 10 := by unfold lapR; rw [if_pos hany]
        rw [h10, if_pos (by decide)] at hgo
        (repeat (first | (simp (disch := (first | omega | (simp only [evF, evL, implies_true, and_self]; done) | fail)) only [evS, evZ, evX, evK, evB, evL, evR, Nat.reduceBEq, Nat.reduceAdd, Nat.reduceLeDiff, boxR, rboxR, allocR, fldR, binI, unR, pickR, mknilR, mkslR, buildSlR, buildR, extR, convI, eqB, evU, wrap64, rs_R07_Check]) | (with_reducible intro _) | ((with_reducible apply And.intro); omega)))
        rw [← hgo]
        exact ⟨_, .int _ _ _, rfl⟩
      | false =>
        (repeat (first | (simp (disch := (first | omega | (simp only [evF, evL, implies_true, and_self]; done) | fail)) only [evS, evZ, evX, evK, evB, evL, evR, Nat.reduceBEq, Nat.reduceAdd, Nat.reduceLeDiff, boxR, rboxR, allocR, fldR, binI, unR, pickR, mknilR, mkslR, buildSlR, buildR, extR, convI, eqB, evU, wrap64]) | (with_reducible intro _) | ((with_reducible apply And.intro); omega)))
        exact ⟨k + 1, ⟨by omega, by rw [hst, hno, hn]; rfl⟩, by omega, Ent.keep rfl (by (try simp [subK, Kn.get, beq_eq]) <;> (repeat' with_reducible apply And.intro) <;> first | rfl | omega | (simp; done))⟩
    · have hki : k = i := by omega
      subst hki
      have h0 : lapR (o.rels.take k) o.rels[k] = 0 := by unfold lapR; rw [if_neg (by rw [hno]; decide)]
      rw [h0, if_neg (by decide)] at hgo
      unfold ac_R07_Check_k2
      (repeat (first | (simp (disch := (first | omega | (simp only [evF, evL, implies_true, and_self]; done) | fail)) only [evS, evZ, evX, evK, evB, evL, evR, Nat.reduceBEq, Nat.reduceAdd, Nat.reduceLeDiff, boxR, rboxR, allocR, fldR, binI, unR, pickR, mknilR, mkslR, buildSlR, buildR, extR, convI, eqB, evU, wrap64]) | (with_reducible intro _) | ((with_reducible apply And.intro); omega)))
      exact ⟨k + 1, ⟨by omega, hgo⟩, by omega, Ent.keep rfl (by (try simp [subK, Kn.get, beq_eq]) <;> (repeat' with_reducible apply And.intro) <;> first | rfl | omega | (simp; done))⟩
  · rw [firstE_end (by omega)] at hgo
    unfold ac_R07_Check_k4
    (repeat (first | (simp (disch := (first | omega | (simp only [evF, evL, implies_true, and_self]; done) | fail)) only [evS, evZ, evX, evK, evB, evL, evR, Nat.reduceBEq, Nat.reduceAdd, Nat.reduceLeDiff, boxR, rboxR, allocR, fldR, binI, unR, pickR, mknilR, mkslR, buildSlR, buildR, extR, convI, eqB, evU, wrap64, rs_R07_Check]) | (with_reducible intro _) | ((with_reducible apply And.intro); omega)))
    rw [← hgo]
    exact ⟨_, .int _ _ _, rfl⟩

def endO (o : Bin) : Int := match findS o.secs o.entry with
  | some k => match o.secs[k]? with
    | some s => if s.ex then 0 else 11
    | none => 11
  | none => 11
theorem checkO_eq (o : Bin) : checkO o = thenE (checkR o) (endO o) := rfl

theorem findS_lt {l : List Sec} {a : UInt32} {k : Nat} (h : findS l a = some k) : k < l.length := (List.findIdx?_eq_some_iff_getElem.1 h).1

theorem object_Check_ok (o : Bin) (hoN : o.okN) : PureFn Try.prog f_object_Check [.agg o.cells] (· = .int .i64 (checkO o)) := by
  refine fn_x cf_object_Check rfl ?_
  unfold ac_object_Check
  have hB : big = 9223372036854775807 := rfl
  rw [checkO_eq]
  have hc := reloc_Check_ok o hoN
  have hokS : checkR o = 0 → o.ok := fun h => Bin.okOf hoN (by rw [checkR_eq] at h; exact (thenE_zero h).1)
  generalize checkR o = eR at hc hokS ⊢
  (repeat (first | (simp (disch := (first | omega | (simp only [evF, evL, implies_true, and_self]; done) | fail)) only [evS, evZ, evX, evK, evB, evL, evR, Nat.reduceBEq, Nat.reduceAdd, Nat.reduceLeDiff, boxR, rboxR, allocR, fldR, binI, unR, pickR, mknilR, mkslR, buildSlR, buildR, extR, convI, eqB, evU, wrap64, Bin.len, Bin.flat, Bin.four]) | (with_reducible intro _) | ((with_reducible apply And.intro); omega)))
  refine callX_fix (call_flat hc rfl) ?_
  by_cases h1 : eR = 0
  case neg =>
    rw [thenE_no h1]
    (repeat (first | (simp (disch := (first | omega | (simp only [evF, evL, implies_true, and_self]; done) | fail)) only [evS, evZ, evX, evK, evB, evL, evR, Nat.reduceBEq, Nat.reduceAdd, Nat.reduceLeDiff, boxR, rboxR, allocR, fldR, binI, unR, pickR, mknilR, mkslR, buildSlR, buildR, extR, convI, eqB, evU, wrap64, dT, dF, rs_object_Check]) | (with_reducible intro _) | ((with_reducible apply And.intro); omega)))
    exact ⟨_, .int _ _ _, rfl⟩
  have ho := hokS h1
  subst h1
  rw [thenE_0]
  (repeat (first | (simp (disch := (first | omega | (simp only [evF, evL, implies_true, and_self]; done) | fail)) only [evS, evZ, evX, evK, evB, evL, evR, Nat.reduceBEq, Nat.reduceAdd, Nat.reduceLeDiff, boxR, rboxR, allocR, fldR, binI, unR, pickR, mknilR, mkslR, buildSlR, buildR, extR, convI, eqB, evU, wrap64, dT, dF, Bin.c1, Bin.c0, Bin.len]) | (with_reducible intro _) | ((with_reducible apply And.intro); omega)))
  refine callX_fix (call_flat (section_Find_ok o.secs ho.secs o.entry) rfl) ?_
  unfold endO
  cases hf : findS o.secs o.entry with
  | none =>
    (repeat (first | (simp (disch := (first | omega | (simp only [evF, evL, implies_true, and_self]; done) | fail)) only [evS, evZ, evX, evK, evB, evL, evR, Nat.reduceBEq, Nat.reduceAdd, Nat.reduceLeDiff, boxR, rboxR, allocR, fldR, binI, unR, pickR, mknilR, mkslR, buildSlR, buildR, extR, convI, eqB, evU, wrap64, idxI, dT, dF, Bin.c1, Bin.c0, Bin.len, rs_object_Check]) | (with_reducible intro _) | ((with_reducible apply And.intro); omega)))
    exact ⟨_, .int _ _ _, rfl⟩
  | some k =>
    have hk := findS_lt hf
    simp only [List.getElem?_eq_getElem hk]
    cases hx : o.secs[k].ex with
    | true =>
      (repeat (first | (simp (disch := (first | omega | (simp only [evF, evL, implies_true, and_self]; done) | fail)) only [evS, evZ, evX, evK, evB, evL, evR, Nat.reduceBEq, Nat.reduceAdd, Nat.reduceLeDiff, boxR, rboxR, allocR, fldR, binI, unR, pickR, mknilR, mkslR, buildSlR, buildR, extR, convI, eqB, evU, wrap64, idxI, dT, dF, Bin.c1, Bin.c0, Bin.len, getD_map hk, Sec.c4, Sec.len, hx, rs_object_Check]) | (with_reducible intro _) | ((with_reducible apply And.intro); omega)))
      exact ⟨_, .int _ _ _, rfl⟩
    | false =>
      (repeat (first | (simp (disch := (first | omega | (simp only [evF, evL, implies_true, and_self]; done) | fail)) only [evS, evZ, evX, evK, evB, evL, evR, Nat.reduceBEq, Nat.reduceAdd, Nat.reduceLeDiff, boxR, rboxR, allocR, fldR, binI, unR, pickR, mknilR, mkslR, buildSlR, buildR, extR, convI, eqB, evU, wrap64, idxI, dT, dF, Bin.c1, Bin.c0, Bin.len, getD_map hk, Sec.c4, Sec.len, hx, rs_object_Check]) | (with_reducible intro _) | ((with_reducible apply And.intro); omega)))
      exact ⟨_, .int _ _ _, rfl⟩

theorem R08_Check_ok (o : Bin) (hoN : o.okN) : PureFn Try.prog f_R08_Check [.agg o.cells] (· = .int .i64 (checkO o)) := by
  refine fn_x cf_R08_Check rfl ?_
  unfold ac_R08_Check
  have hB : big = 9223372036854775807 := rfl
  rw [checkO_eq]
  have hc := R07_Check_ok o hoN
  have hokS : checkR o = 0 → o.ok := fun h => Bin.okOf hoN (by rw [checkR_eq] at h; exact (thenE_zero h).1)
  generalize checkR o = eR at hc hokS ⊢
  (repeat (first | (simp (disch := (first | omega | (simp only [evF, evL, implies_true, and_self]; done) | fail)) only [evS, evZ, evX, evK, evB, evL, evR, Nat.reduceBEq, Nat.reduceAdd, Nat.reduceLeDiff, boxR, rboxR, allocR, fldR, binI, unR, pickR, mknilR, mkslR, buildSlR, buildR, extR, convI, eqB, evU, wrap64, Bin.len, Bin.flat, Bin.four]) | (with_reducible intro _) | ((with_reducible apply And.intro); omega)))
  refine callX_fix (call_flat hc rfl) ?_
  by_cases h1 : eR = 0
  case neg =>
    rw [thenE_no h1]
    (repeat (first | (simp (disch := (first | omega | (simp only [evF, evL, implies_true, and_self]; done) | fail)) only [evS, evZ, evX, evK, evB, evL, evR, Nat.reduceBEq, Nat.reduceAdd, Nat.reduceLeDiff, boxR, rboxR, allocR, fldR, binI, unR, pickR, mknilR, mkslR, buildSlR, buildR, extR, convI, eqB, evU, wrap64, dT, dF, rs_R08_Check]) | (with_reducible intro _) | ((with_reducible apply And.intro); omega)))
    exact ⟨_, .int _ _ _, rfl⟩
  have ho := hokS h1
  subst h1
  rw [thenE_0]
  (repeat (first | (simp (disch := (first | omega | (simp only [evF, evL, implies_true, and_self]; done) | fail)) only [evS, evZ, evX, evK, evB, evL, evR, Nat.reduceBEq, Nat.reduceAdd, Nat.reduceLeDiff, boxR, rboxR, allocR, fldR, binI, unR, pickR, mknilR, mkslR, buildSlR, buildR, extR, convI, eqB, evU, wrap64, dT, dF, Bin.c1, Bin.c0, Bin.len]) | (with_reducible intro _) | ((with_reducible apply And.intro); omega)))
  refine callX_fix (call_flat (R05_Find_ok o.secs ho.secs o.entry) rfl) ?_
  unfold endO
  cases hf : findS o.secs o.entry with
  | none =>
    (repeat (first | (simp (disch := (first | omega | (simp only [evF, evL, implies_true, and_self]; done) | fail)) only [evS, evZ, evX, evK, evB, evL, evR, Nat.reduceBEq, Nat.reduceAdd, Nat.reduceLeDiff, boxR, rboxR, allocR, fldR, binI, unR, pickR, mknilR, mkslR, buildSlR, buildR, extR, convI, eqB, evU, wrap64, idxI, dT, dF, Bin.c1, Bin.c0, Bin.len, rs_R08_Check]) | (with_reducible intro _) | ((with_reducible apply And.intro); omega)))
    exact ⟨_, .int _ _ _, rfl⟩
  | some k =>
    have hk := findS_lt hf
    simp only [List.getElem?_eq_getElem hk]
    cases hx : o.secs[k].ex with
    | true =>
      (repeat (first | (simp (disch := (first | omega | (simp only [evF, evL, implies_true, and_self]; done) | fail)) only [evS, evZ, evX, evK, evB, evL, evR, Nat.reduceBEq, Nat.reduceAdd, Nat.reduceLeDiff, boxR, rboxR, allocR, fldR, binI, unR, pickR, mknilR, mkslR, buildSlR, buildR, extR, convI, eqB, evU, wrap64, idxI, dT, dF, Bin.c1, Bin.c0, Bin.len, getD_map hk, Sec.c4, Sec.len, hx, rs_R08_Check]) | (with_reducible intro _) | ((with_reducible apply And.intro); omega)))
      exact ⟨_, .int _ _ _, rfl⟩
    | false =>
      (repeat (first | (simp (disch := (first | omega | (simp only [evF, evL, implies_true, and_self]; done) | fail)) only [evS, evZ, evX, evK, evB, evL, evR, Nat.reduceBEq, Nat.reduceAdd, Nat.reduceLeDiff, boxR, rboxR, allocR, fldR, binI, unR, pickR, mknilR, mkslR, buildSlR, buildR, extR, convI, eqB, evU, wrap64, idxI, dT, dF, Bin.c1, Bin.c0, Bin.len, getD_map hk, Sec.c4, Sec.len, hx, rs_R08_Check]) | (with_reducible intro _) | ((with_reducible apply And.intro); omega)))
      exact ⟨_, .int _ _ _, rfl⟩

end Go.Ab

namespace Go.Ab
open Go.RowKit Go.Proofs

theorem takeB {l : List UInt8} : (l.map cByte).take l.length = l.map cByte := by rw [List.take_of_length_le (by simp)]

theorem bytes_ren {ρ : Nat → Nat} {l : List UInt8} {s g : Nat} : AObj.ren ρ (.row s (l.map cByte) g) = .row s (l.map cByte) g := by
  simp only [AObj.ren, List.map_map]
  congr 1
  exact List.map_congr_left fun _ _ => by simp [cByte, AV.ren]

theorem bytesV {H HH : AH} {σ : Nat → Nat → Option (Nat × Nat × Nat)} {D : Nat → Nat → Prop} {l : List UInt8} : RowV H HH σ D (l.map cByte) (l.map cByte) = True :=
  rowV_refl_iff (fun c hc => by obtain ⟨b, _, rfl⟩ := List.mem_map.1 hc; rfl)

theorem bytes_flat {l : List UInt8} : FlatRows (l.map cByte) := fun c hc => by obtain ⟨b, _, rfl⟩ := List.mem_map.1 hc; rfl

theorem flat1 {k : IntKind} {x : Int} : FlatRows [[.int k x]] := fun c hc => by rw [List.mem_singleton.1 hc]; rfl
theorem flat_app {a b : List (List AV)} (h1 : FlatRows a) (h2 : FlatRows b) : FlatRows (a ++ b) := by rw [flatRows_append]; exact ⟨h1, h2⟩
theorem nil_own {r q g o n : Nat} (h : 0 < n) : nilB false (.own r q g o n) = some (some false) := by
  have hn : Nat.beq n 0 = false := by cases e : Nat.beq n 0 with | false => rfl | true => exact absurd (Nat.eq_of_beq_eq_true e) (by omega)
  simp only [nilB, hn, cond_false]

theorem slices_Clone_own (l : List UInt8) (g : Nat) (h0 : 0 < l.length) (h1 : l.length ≤ 100000000) : CallOk Try.prog f_slices_Clone_byte_byte [.own 0 0 g 0 l.length] [(0, .row 1 (l.map cByte) g)] 1
    (fun v H nx => v = .own 2 0 1 0 l.length ∧ H = [(0, .row 1 (l.map cByte) g), (1, .row 1 [] 0), (2, .row 1 (l.map cByte) 1)] ∧ nx = 3) := by
  refine fn_x cf_slices_Clone_byte_byte rfl ?_
  unfold ac_slices_Clone_byte_byte
  have hB : big = 9223372036854775807 := rfl
  (repeat (first | (simp (disch := (first | omega | (simp only [evF, evL, implies_true, and_self]; done) | fail)) only [evS, evZ, evX, evK, evB, evL, evR, Nat.reduceBEq, Nat.reduceAdd, Nat.reduceLeDiff, boxR, rboxR, allocR, fldR, binI, unR, pickR, mknilR, mkslR, buildSlR, buildR, extR, convI, eqB, evU, wrap64, nil_own h0, takeB, rs_slices_Clone_byte_byte]) | (with_reducible intro _) | ((with_reducible apply And.intro); omega)))
  omega

def ac2_image_own : ACode := match ac_image_own with
  | .seq a (.seq b c) => .seq a (.seq b (.mark 0 c))
  | x => x

theorem image_own_own (l : List UInt8) (g : Nat) (h0 : 0 < l.length) (h1 : l.length ≤ 100000000) : CallOk Try.prog f_image_own [.own 0 0 g 0 l.length] [(0, .row 1 (l.map cByte) g)] 1
    (fun v H nx => v = .own 1 0 0 0 l.length ∧ H = [(1, .row 1 (l.map cByte) 0)] ∧ nx = 2) := by
  refine fn_x (ac := ac2_image_own) cf_image_own rfl ?_
  unfold ac2_image_own ac_image_own
  have hB : big = 9223372036854775807 := rfl
  (repeat (first | (simp (disch := (first | omega | (simp only [evF, evL, implies_true, and_self]; done) | fail)) only [evS, evZ, evX, evK, evB, evL, evR, Nat.reduceBEq, Nat.reduceAdd, Nat.reduceLeDiff, boxR, rboxR, allocR, fldR, binI, unR, pickR, mknilR, mkslR, buildSlR, buildR, extR, convI, eqB, evU, wrap64]) | (with_reducible intro _) | ((with_reducible apply And.intro); omega)))
  refine call_own [(0, 0, 0)] 1 _ (slices_Clone_own l g h0 h1) rfl rfl (by (try simp only [evW, evK, evB, evL, Nat.reduceBEq, Nat.reduceAdd, Nat.reduceSub, Nat.reduceLeDiff, Nat.reduceLT, implies_true, and_self, Int.natCast_zero, Int.natCast_one, Int.cast_ofNat_Int, evV, encInts, encNats, encBools, encP, bytesV]) <;> (repeat' with_reducible apply And.intro) <;> first | omega | exact vw_nats rfl rfl (by omega) | exact vw_ints rfl rfl (by omega) | exact vw_bools rfl rfl (by omega) | exact rowV_flat (by repeat' first | exact bytes_flat | exact flat1 | refine flat_app ?_ ?_) | exact rowV_fe (fun _ => rfl) | exact rowV_fe_start (c := cN) (fun _ => rfl) rfl | exact rowsV_fam (fun _ => rfl) (by decide) ⟨rfl, rfl⟩ trivial | exact rowsV_fam (fun _ => rfl) (by decide) (fun _ _ => ⟨rfl, rfl⟩) trivial | (simp; done)) (by (try simp only [evW, evK, evB, evL, Nat.reduceBEq, Nat.reduceAdd, Nat.reduceSub, Nat.reduceLeDiff, Nat.reduceLT, implies_true, and_self, Int.natCast_zero, Int.natCast_one, Int.cast_ofNat_Int, evV, encInts, encNats, encBools, encP, bytesV]) <;> (repeat' with_reducible apply And.intro) <;> first | omega | exact vw_nats rfl rfl (by omega) | exact vw_ints rfl rfl (by omega) | exact vw_bools rfl rfl (by omega) | exact rowV_flat (by repeat' first | exact bytes_flat | exact flat1 | refine flat_app ?_ ?_) | exact rowV_fe (fun _ => rfl) | exact rowV_fe_start (c := cN) (fun _ => rfl) rfl | exact rowsV_fam (fun _ => rfl) (by decide) ⟨rfl, rfl⟩ trivial | exact rowsV_fam (fun _ => rfl) (by decide) (fun _ _ => ⟨rfl, rfl⟩) trivial | (simp; done)) ?_
  rintro v H' nx' ⟨rfl, rfl, rfl⟩
  (repeat (first | (simp (disch := (first | omega | (simp only [evF, evL, implies_true, and_self]; done) | fail)) only [evS, evZ, evX, evK, evB, evL, evR, Nat.reduceBEq, Nat.reduceAdd, Nat.reduceLeDiff, boxR, rboxR, allocR, fldR, binI, unR, pickR, mknilR, mkslR, buildSlR, buildR, extR, convI, eqB, evU, wrap64, bytes_ren]) | (with_reducible intro _) | ((with_reducible apply And.intro); omega)))
  refine markX_intro [(3, .own 1 0 0 0 l.length)] [(1, .row 1 (l.map cByte) 0)] 2 fun _ => ⟨(Ent.tabB [(0, 0, 0), (1, 4, 1)] [] rfl rfl rfl (by (try simp only [evW, evK, evB, evL, Nat.reduceBEq, Nat.reduceAdd, Nat.reduceSub, Nat.reduceLeDiff, Nat.reduceLT, implies_true, and_self, Int.natCast_zero, Int.natCast_one, Int.cast_ofNat_Int, evV, encInts, encNats, encBools, encP, bytesV]) <;> (repeat' with_reducible apply And.intro) <;> first | omega | exact vw_nats rfl rfl (by omega) | exact vw_ints rfl rfl (by omega) | exact vw_bools rfl rfl (by omega) | exact rowV_flat (by repeat' first | exact bytes_flat | exact flat1 | refine flat_app ?_ ?_) | exact rowV_fe (fun _ => rfl) | exact rowV_fe_start (c := cN) (fun _ => rfl) rfl | exact rowsV_fam (fun _ => rfl) (by decide) ⟨rfl, rfl⟩ trivial | exact rowsV_fam (fun _ => rfl) (by decide) (fun _ _ => ⟨rfl, rfl⟩) trivial | (simp; done)) (by (try simp only [evW, evK, evB, evL, Nat.reduceBEq, Nat.reduceAdd, Nat.reduceSub, Nat.reduceLeDiff, Nat.reduceLT, implies_true, and_self, Int.natCast_zero, Int.natCast_one, Int.cast_ofNat_Int, evV, encInts, encNats, encBools, encP, bytesV]) <;> (repeat' with_reducible apply And.intro) <;> first | omega | exact vw_nats rfl rfl (by omega) | exact vw_ints rfl rfl (by omega) | exact vw_bools rfl rfl (by omega) | exact rowV_flat (by repeat' first | exact bytes_flat | exact flat1 | refine flat_app ?_ ?_) | exact rowV_fe (fun _ => rfl) | exact rowV_fe_start (c := cN) (fun _ => rfl) rfl | exact rowsV_fam (fun _ => rfl) (by decide) ⟨rfl, rfl⟩ trivial | exact rowsV_fam (fun _ => rfl) (by decide) (fun _ _ => ⟨rfl, rfl⟩) trivial | (simp; done))), ?_⟩
  (repeat (first | (simp (disch := (first | omega | (simp only [evF, evL, implies_true, and_self]; done) | fail)) only [evS, evZ, evX, evK, evB, evL, evR, Nat.reduceBEq, Nat.reduceAdd, Nat.reduceLeDiff, boxR, rboxR, allocR, fldR, binI, unR, pickR, mknilR, mkslR, buildSlR, buildR, extR, convI, eqB, evU, wrap64, rs_image_own]) | (with_reducible intro _) | ((with_reducible apply And.intro); omega)))
  omega

theorem image_valid_ok (w : Int) : PureFn Try.prog f_image_valid [.int .i64 w] (· = .bool (decide (w = 1) || decide (w = 2) || decide (w = 4))) := by
  refine fn_x cf_image_valid rfl ?_
  unfold ac_image_valid
  have hB : big = 9223372036854775807 := rfl
  by_cases h1 : w = 1
  · subst h1
    (repeat (first | (simp (disch := (first | omega | (simp only [evF, evL, implies_true, and_self]; done) | fail)) only [evS, evZ, evX, evK, evB, evL, evR, Nat.reduceBEq, Nat.reduceAdd, Nat.reduceLeDiff, boxR, rboxR, allocR, fldR, binI, unR, pickR, mknilR, mkslR, buildSlR, buildR, extR, convI, eqB, evU, wrap64, dT, dF, rs_image_valid]) | (with_reducible intro _) | ((with_reducible apply And.intro); omega)))
    exact ⟨_, .bool _ _, rfl⟩
  by_cases h2 : w = 2
  · subst h2
    (repeat (first | (simp (disch := (first | omega | (simp only [evF, evL, implies_true, and_self]; done) | fail)) only [evS, evZ, evX, evK, evB, evL, evR, Nat.reduceBEq, Nat.reduceAdd, Nat.reduceLeDiff, boxR, rboxR, allocR, fldR, binI, unR, pickR, mknilR, mkslR, buildSlR, buildR, extR, convI, eqB, evU, wrap64, dT, dF, rs_image_valid]) | (with_reducible intro _) | ((with_reducible apply And.intro); omega)))
    exact ⟨_, .bool _ _, rfl⟩
  by_cases h4 : w = 4
  · subst h4
    (repeat (first | (simp (disch := (first | omega | (simp only [evF, evL, implies_true, and_self]; done) | fail)) only [evS, evZ, evX, evK, evB, evL, evR, Nat.reduceBEq, Nat.reduceAdd, Nat.reduceLeDiff, boxR, rboxR, allocR, fldR, binI, unR, pickR, mknilR, mkslR, buildSlR, buildR, extR, convI, eqB, evU, wrap64, dT, dF, rs_image_valid]) | (with_reducible intro _) | ((with_reducible apply And.intro); omega)))
    exact ⟨_, .bool _ _, rfl⟩
  (repeat (first | (simp (disch := (first | omega | (simp only [evF, evL, implies_true, and_self]; done) | fail)) only [evS, evZ, evX, evK, evB, evL, evR, Nat.reduceBEq, Nat.reduceAdd, Nat.reduceLeDiff, boxR, rboxR, allocR, fldR, binI, unR, pickR, mknilR, mkslR, buildSlR, buildR, extR, convI, eqB, evU, wrap64, dF, rs_image_valid]) | (with_reducible intro _) | ((with_reducible apply And.intro); omega)))
  exact ⟨_, .bool _ _, rfl⟩


/-- The byte of a number. -/
def byteOf (n : Nat) : UInt8 := UInt8.ofNat (n % 256)
theorem byteOf_val (n : Nat) : (byteOf n).toNat = n % 256 := by
  unfold byteOf
  rw [UInt8.toNat_ofNat']
  exact Nat.mod_mod_of_dvd n (by decide)
theorem wrapB (n : Nat) : IntKind.u8.wrap (n : Int) = ((byteOf n).toNat : Int) := by
  rw [byteOf_val]
  show (n : Int) % 256 = _
  omega

/-- A number in w bytes, the smallest first. -/
def leB (v : Nat) (w : Nat) : List UInt8 := (List.range w).map fun i => byteOf (v / 256 ^ i)
theorem leB_len {v w : Nat} : (leB v w).length = w := by simp [leB]
theorem leB_zero {v : Nat} : leB v 0 = [] := rfl
theorem leB_succ {v w : Nat} : leB v (w + 1) = leB v w ++ [byteOf (v / 256 ^ w)] := by
  unfold leB
  rw [List.range_succ, List.map_append]
  rfl

theorem image_Put_own (l : List UInt8) (g v w : Nat) (h0 : 0 < l.length) (h1 : l.length ≤ 10000000) (hv : v < 4294967296) (hw : w = 1 ∨ w = 2 ∨ w = 4) :
    CallOk Try.prog f_image_Put [.own 0 0 g 0 l.length, .int .u32 v, .int .i64 w] [(0, .row 1 (l.map cByte) g)] 1
      (fun a H nx => a = .own 1 0 w 0 (l ++ leB v w).length ∧ H = [(1, .row 1 ((l ++ leB v w).map cByte) w)] ∧ nx = 2) := by
  refine fn_x cf_image_Put rfl ?_
  unfold ac_image_Put
  have hB : big = 9223372036854775807 := rfl
  (repeat (first | (simp (disch := (first | omega | (simp only [evF, evL, implies_true, and_self]; done) | fail)) only [evS, evZ, evX, evK, evB, evL, evR, Nat.reduceBEq, Nat.reduceAdd, Nat.reduceLeDiff, boxR, rboxR, allocR, fldR, binI, unR, pickR, mknilR, mkslR, buildSlR, buildR, extR, convI, eqB, evU, wrap64]) | (with_reducible intro _) | ((with_reducible apply And.intro); omega)))
  refine call_own [(0, 0, 0)] 1 _ (image_own_own l g h0 (by omega)) rfl rfl (by (try simp only [evW, evK, evB, evL, Nat.reduceBEq, Nat.reduceAdd, Nat.reduceSub, Nat.reduceLeDiff, Nat.reduceLT, implies_true, and_self, Int.natCast_zero, Int.natCast_one, Int.cast_ofNat_Int, evV, encInts, encNats, encBools, encP, bytesV]) <;> (repeat' with_reducible apply And.intro) <;> first | omega | exact vw_nats rfl rfl (by omega) | exact vw_ints rfl rfl (by omega) | exact vw_bools rfl rfl (by omega) | exact rowV_flat (by repeat' first | exact bytes_flat | exact flat1 | refine flat_app ?_ ?_) | exact rowV_fe (fun _ => rfl) | exact rowV_fe_start (c := cN) (fun _ => rfl) rfl | exact rowsV_fam (fun _ => rfl) (by decide) ⟨rfl, rfl⟩ trivial | exact rowsV_fam (fun _ => rfl) (by decide) (fun _ _ => ⟨rfl, rfl⟩) trivial | (simp; done)) (by (try simp only [evW, evK, evB, evL, Nat.reduceBEq, Nat.reduceAdd, Nat.reduceSub, Nat.reduceLeDiff, Nat.reduceLT, implies_true, and_self, Int.natCast_zero, Int.natCast_one, Int.cast_ofNat_Int, evV, encInts, encNats, encBools, encP, bytesV]) <;> (repeat' with_reducible apply And.intro) <;> first | omega | exact vw_nats rfl rfl (by omega) | exact vw_ints rfl rfl (by omega) | exact vw_bools rfl rfl (by omega) | exact rowV_flat (by repeat' first | exact bytes_flat | exact flat1 | refine flat_app ?_ ?_) | exact rowV_fe (fun _ => rfl) | exact rowV_fe_start (c := cN) (fun _ => rfl) rfl | exact rowsV_fam (fun _ => rfl) (by decide) ⟨rfl, rfl⟩ trivial | exact rowsV_fam (fun _ => rfl) (by decide) (fun _ _ => ⟨rfl, rfl⟩) trivial | (simp; done)) ?_
  rintro v' H' nx' ⟨rfl, rfl, rfl⟩
  (repeat (first | (simp (disch := (first | omega | (simp only [evF, evL, implies_true, and_self]; done) | fail)) only [evS, evZ, evX, evK, evB, evL, evR, Nat.reduceBEq, Nat.reduceAdd, Nat.reduceLeDiff, boxR, rboxR, allocR, fldR, binI, unR, pickR, mknilR, mkslR, buildSlR, buildR, extR, convI, eqB, evU, wrap64, bytes_ren]) | (with_reducible intro _) | ((with_reducible apply And.intro); omega)))
  refine callX_fix (call_flat (image_valid_ok w) rfl) ?_
  have hvw : (decide ((w : Int) = 1) || decide ((w : Int) = 2) || decide ((w : Int) = 4)) = true := by
    rcases hw with h | h | h <;> subst h <;> rfl
  rw [hvw]
  (repeat (first | (simp (disch := (first | omega | (simp only [evF, evL, implies_true, and_self]; done) | fail)) only [evS, evZ, evX, evK, evB, evL, evR, Nat.reduceBEq, Nat.reduceAdd, Nat.reduceLeDiff, boxR, rboxR, allocR, fldR, binI, unR, pickR, mknilR, mkslR, buildSlR, buildR, extR, convI, eqB, evU, wrap64, bytes_ren]) | (with_reducible intro _) | ((with_reducible apply And.intro); omega)))
  refine loopX_intro (fun i : Nat => ([(1, .int .u32 v), (7, .own 1 0 i 0 (l ++ leB v i).length), (15, .int .i64 w), (16, .int .i64 i)], [(1, .row 1 ((l ++ leB v i).map cByte) i)])) 2 (fun i => i ≤ w) (fun i => w - i) 0 (Nat.zero_le _) (Ent.tabB [(0, 0, 0), (1, 3, 0)] [] rfl rfl rfl (by (try simp only [evW, evK, evB, evL, Nat.reduceBEq, Nat.reduceAdd, Nat.reduceSub, Nat.reduceLeDiff, Nat.reduceLT, implies_true, and_self, Int.natCast_zero, Int.natCast_one, Int.cast_ofNat_Int, evV, encInts, encNats, encBools, encP, bytesV, leB_zero, List.append_nil]) <;> (repeat' with_reducible apply And.intro) <;> first | omega | exact vw_nats rfl rfl (by omega) | exact vw_ints rfl rfl (by omega) | exact vw_bools rfl rfl (by omega) | exact rowV_flat (by repeat' first | exact bytes_flat | exact flat1 | refine flat_app ?_ ?_) | exact rowV_fe (fun _ => rfl) | exact rowV_fe_start (c := cN) (fun _ => rfl) rfl | exact rowsV_fam (fun _ => rfl) (by decide) ⟨rfl, rfl⟩ trivial | exact rowsV_fam (fun _ => rfl) (by decide) (fun _ _ => ⟨rfl, rfl⟩) trivial | (simp; done)) (by (try simp only [evW, evK, evB, evL, Nat.reduceBEq, Nat.reduceAdd, Nat.reduceSub, Nat.reduceLeDiff, Nat.reduceLT, implies_true, and_self, Int.natCast_zero, Int.natCast_one, Int.cast_ofNat_Int, evV, encInts, encNats, encBools, encP, bytesV, leB_zero, List.append_nil]) <;> (repeat' with_reducible apply And.intro) <;> first | omega | exact vw_nats rfl rfl (by omega) | exact vw_ints rfl rfl (by omega) | exact vw_bools rfl rfl (by omega) | exact rowV_flat (by repeat' first | exact bytes_flat | exact flat1 | refine flat_app ?_ ?_) | exact rowV_fe (fun _ => rfl) | exact rowV_fe_start (c := cN) (fun _ => rfl) rfl | exact rowsV_fam (fun _ => rfl) (by decide) ⟨rfl, rfl⟩ trivial | exact rowsV_fam (fun _ => rfl) (by decide) (fun _ _ => ⟨rfl, rfl⟩) trivial | (simp; done))) ?_
  intro i hi wf
  have hw4 : w ≤ 4 := by omega
  have hlen : (l ++ leB v i).length = l.length + i := by rw [List.length_append, leB_len]
  have hlen2 : (l ++ leB v (i + 1)).length = l.length + i + 1 := by rw [List.length_append, leB_len]; omega
  unfold ac_image_Put_l0
  (repeat (first | (simp (disch := (first | omega | (simp only [evF, evL, implies_true, and_self]; done) | fail)) only [evS, evZ, evX, evK, evB, evL, evR, Nat.reduceBEq, Nat.reduceAdd, Nat.reduceLeDiff, boxR, rboxR, allocR, fldR, binI, unR, pickR, mknilR, mkslR, buildSlR, buildR, extR, convI, eqB, evU, wrap64]) | (with_reducible intro _) | ((with_reducible apply And.intro); omega)))
  (refine condX_intro (fun h => ?_) (fun h => ?_)) <;> (try simp only [decide_eq_true_eq, decide_eq_false_iff_not, Bool.not_eq_true', Bool.not_eq_false', Bool.and_eq_true, Bool.or_eq_true, not_true_eq_false, not_false_eq_true] at h)
  · have hi' : i < w := by omega
    have hx : IntKind.u8.wrap ((v : Int).fdiv (2 ^ min ((8 : Int) * (i : Int)).toNat IntKind.u32.bits)) = ((byteOf (v / 256 ^ i)).toNat : Int) := by
      rw [← wrapB]
      congr 1
      have : i = 0 ∨ i = 1 ∨ i = 2 ∨ i = 3 := by omega
      rcases this with rfl | rfl | rfl | rfl
      all_goals
        rw [Int.fdiv_eq_ediv_of_nonneg _ (by decide)]
        rfl
    have hsn : (l ++ leB v (i + 1)).map cByte = (l ++ leB v i).map cByte ++ [[.int .u8 ((byteOf (v / 256 ^ i)).toNat : Int)]] := by
      rw [leB_succ, ← List.append_assoc, List.map_append]
      rfl
    (repeat (first | (simp (disch := (first | omega | (simp only [evF, evL, implies_true, and_self]; done) | fail)) only [evS, evZ, evX, evK, evB, evL, evR, Nat.reduceBEq, Nat.reduceAdd, Nat.reduceLeDiff, boxR, rboxR, allocR, fldR, binI, unR, pickR, mknilR, mkslR, buildSlR, buildR, extR, convI, eqB, evU, wrap64, takeB, hx]) | (with_reducible intro _) | ((with_reducible apply And.intro); omega)))
    exact ⟨i + 1, by omega, by omega, (Ent.tabB [(0, 0, 0), (1, 1, 0)] [] rfl rfl rfl (by (try simp only [evW, evK, evB, evL, Nat.reduceBEq, Nat.reduceAdd, Nat.reduceSub, Nat.reduceLeDiff, Nat.reduceLT, implies_true, and_self, Int.natCast_zero, Int.natCast_one, Int.cast_ofNat_Int, evV, encInts, encNats, encBools, encP, hsn, hlen, hlen2]) <;> (repeat' with_reducible apply And.intro) <;> first | omega | exact vw_nats rfl rfl (by omega) | exact vw_ints rfl rfl (by omega) | exact vw_bools rfl rfl (by omega) | exact rowV_flat (by repeat' first | exact bytes_flat | exact flat1 | refine flat_app ?_ ?_) | exact rowV_fe (fun _ => rfl) | exact rowV_fe_start (c := cN) (fun _ => rfl) rfl | exact rowsV_fam (fun _ => rfl) (by decide) ⟨rfl, rfl⟩ trivial | exact rowsV_fam (fun _ => rfl) (by decide) (fun _ _ => ⟨rfl, rfl⟩) trivial | (simp; done)) (by (try simp only [evW, evK, evB, evL, Nat.reduceBEq, Nat.reduceAdd, Nat.reduceSub, Nat.reduceLeDiff, Nat.reduceLT, implies_true, and_self, Int.natCast_zero, Int.natCast_one, Int.cast_ofNat_Int, evV, encInts, encNats, encBools, encP, hsn, hlen, hlen2]) <;> (repeat' with_reducible apply And.intro) <;> first | omega | exact vw_nats rfl rfl (by omega) | exact vw_ints rfl rfl (by omega) | exact vw_bools rfl rfl (by omega) | exact rowV_flat (by repeat' first | exact bytes_flat | exact flat1 | refine flat_app ?_ ?_) | exact rowV_fe (fun _ => rfl) | exact rowV_fe_start (c := cN) (fun _ => rfl) rfl | exact rowsV_fam (fun _ => rfl) (by decide) ⟨rfl, rfl⟩ trivial | exact rowsV_fam (fun _ => rfl) (by decide) (fun _ _ => ⟨rfl, rfl⟩) trivial | (simp; done)))⟩
  · have hiw : i = w := by omega
    subst hiw
    unfold ac_image_Put_k1
    (repeat (first | (simp (disch := (first | omega | (simp only [evF, evL, implies_true, and_self]; done) | fail)) only [evS, evZ, evX, evK, evB, evL, evR, Nat.reduceBEq, Nat.reduceAdd, Nat.reduceLeDiff, boxR, rboxR, allocR, fldR, binI, unR, pickR, mknilR, mkslR, buildSlR, buildR, extR, convI, eqB, evU, wrap64, rs_image_Put]) | (with_reducible intro _) | ((with_reducible apply And.intro); omega)))

end Go.Ab

namespace Go.Ab
open Go.RowKit Go.Proofs

/-- A text of at most 32 bytes, behind its length. -/
def txB (s : ByteArray) : List UInt8 := byteOf s.size :: s.data.toList
theorem txB_len {s : ByteArray} : (txB s).length = s.size + 1 := by rw [txB, List.length_cons, str_len]

theorem flatStr {l : List UInt8} : FlatRows (l.map cByte) := bytes_flat

def ac2_image_PutText : ACode := match ac_image_PutText with
  | .seq a (.seq b (.seq c d)) => .seq a (.seq b (.seq c (.mark 0 d)))
  | x => x

theorem image_PutText_own (l : List UInt8) (g : Nat) (s : ByteArray) (h0 : 0 < l.length) (h1 : l.length ≤ 10000000) (hs : s.size ≤ 32) :
    CallOk Try.prog f_image_PutText [.own 0 0 g 0 l.length, .str s] [(0, .row 1 (l.map cByte) g)] 1
      (fun a H nx => a = .tup [.own 1 0 2 0 (l ++ txB s).length, .int .i64 0] ∧ H = [(1, .row 1 ((l ++ txB s).map cByte) 2)] ∧ nx = 2) := by
  refine fn_x (ac := ac2_image_PutText) cf_image_PutText rfl ?_
  unfold ac2_image_PutText ac_image_PutText
  have hB : big = 9223372036854775807 := rfl
  have hlen : (l ++ txB s).length = l.length + 1 + s.size := by rw [List.length_append, txB_len]; omega
  have hsn : (l ++ txB s).map cByte = l.map cByte ++ [[.int .u8 ((byteOf s.size).toNat : Int)]] ++ s.data.toList.map cByte := by
    rw [List.map_append, List.append_assoc]
    rfl
  have hx : IntKind.u8.wrap (s.size : Int) = ((byteOf s.size).toNat : Int) := wrapB _
  have htk : ∀ x : List AV, (l.map cByte ++ [x]).take (l.length + 1) = l.map cByte ++ [x] := fun x => List.take_of_length_le (by simp)
  (repeat (first | (simp (disch := (first | omega | (simp only [evF, evL, implies_true, and_self]; done) | fail)) only [evS, evZ, evX, evK, evB, evL, evR, Nat.reduceBEq, Nat.reduceAdd, Nat.reduceLeDiff, boxR, rboxR, allocR, fldR, binI, unR, pickR, mknilR, mkslR, buildSlR, buildR, extR, convI, eqB, evU, wrap64, dF]) | (with_reducible intro _) | ((with_reducible apply And.intro); omega)))
  refine call_own [(0, 0, 0)] 1 _ (image_own_own l g h0 (by omega)) rfl rfl (by (try simp only [evW, evK, evB, evL, Nat.reduceBEq, Nat.reduceAdd, Nat.reduceSub, Nat.reduceLeDiff, Nat.reduceLT, implies_true, and_self, Int.natCast_zero, Int.natCast_one, Int.cast_ofNat_Int, evV, encInts, encNats, encBools, encP, bytesV]) <;> (repeat' with_reducible apply And.intro) <;> first | omega | exact vw_nats rfl rfl (by omega) | exact vw_ints rfl rfl (by omega) | exact vw_bools rfl rfl (by omega) | exact rowV_flat (by repeat' first | exact bytes_flat | exact flat1 | refine flat_app ?_ ?_) | exact rowV_fe (fun _ => rfl) | exact rowV_fe_start (c := cN) (fun _ => rfl) rfl | exact rowsV_fam (fun _ => rfl) (by decide) ⟨rfl, rfl⟩ trivial | exact rowsV_fam (fun _ => rfl) (by decide) (fun _ _ => ⟨rfl, rfl⟩) trivial | (simp; done)) (by (try simp only [evW, evK, evB, evL, Nat.reduceBEq, Nat.reduceAdd, Nat.reduceSub, Nat.reduceLeDiff, Nat.reduceLT, implies_true, and_self, Int.natCast_zero, Int.natCast_one, Int.cast_ofNat_Int, evV, encInts, encNats, encBools, encP, bytesV]) <;> (repeat' with_reducible apply And.intro) <;> first | omega | exact vw_nats rfl rfl (by omega) | exact vw_ints rfl rfl (by omega) | exact vw_bools rfl rfl (by omega) | exact rowV_flat (by repeat' first | exact bytes_flat | exact flat1 | refine flat_app ?_ ?_) | exact rowV_fe (fun _ => rfl) | exact rowV_fe_start (c := cN) (fun _ => rfl) rfl | exact rowsV_fam (fun _ => rfl) (by decide) ⟨rfl, rfl⟩ trivial | exact rowsV_fam (fun _ => rfl) (by decide) (fun _ _ => ⟨rfl, rfl⟩) trivial | (simp; done)) ?_
  rintro v' H' nx' ⟨rfl, rfl, rfl⟩
  (repeat (first | (simp (disch := (first | omega | (simp only [evF, evL, implies_true, and_self]; done) | fail)) only [evS, evZ, evX, evK, evB, evL, evR, Nat.reduceBEq, Nat.reduceAdd, Nat.reduceLeDiff, boxR, rboxR, allocR, fldR, binI, unR, pickR, mknilR, mkslR, buildSlR, buildR, extR, convI, eqB, evU, wrap64, bytes_ren, hx, takeB, htk]) | (with_reducible intro _) | ((with_reducible apply And.intro); omega)))
  refine ⟨⟨by simp, by omega⟩, ?_⟩
  refine markX_intro [(4, .own 1 0 2 0 (l ++ txB s).length), (5, .int .i64 0)] [(1, .row 1 ((l ++ txB s).map cByte) 2)] 2 fun _ => ⟨(Ent.tabB [(0, 0, 0), (1, 3, 0)] [] rfl rfl rfl (by (try simp only [evW, evK, evB, evL, Nat.reduceBEq, Nat.reduceAdd, Nat.reduceSub, Nat.reduceLeDiff, Nat.reduceLT, implies_true, and_self, Int.natCast_zero, Int.natCast_one, Int.cast_ofNat_Int, evV, encInts, encNats, encBools, encP, hsn, hlen]) <;> (repeat' with_reducible apply And.intro) <;> first | omega | exact vw_nats rfl rfl (by omega) | exact vw_ints rfl rfl (by omega) | exact vw_bools rfl rfl (by omega) | exact rowV_flat (by repeat' first | exact bytes_flat | exact flat1 | refine flat_app ?_ ?_) | exact rowV_fe (fun _ => rfl) | exact rowV_fe_start (c := cN) (fun _ => rfl) rfl | exact rowsV_fam (fun _ => rfl) (by decide) ⟨rfl, rfl⟩ trivial | exact rowsV_fam (fun _ => rfl) (by decide) (fun _ _ => ⟨rfl, rfl⟩) trivial | (simp; done)) (by (try simp only [evW, evK, evB, evL, Nat.reduceBEq, Nat.reduceAdd, Nat.reduceSub, Nat.reduceLeDiff, Nat.reduceLT, implies_true, and_self, Int.natCast_zero, Int.natCast_one, Int.cast_ofNat_Int, evV, encInts, encNats, encBools, encP, hsn, hlen]) <;> (repeat' with_reducible apply And.intro) <;> first | omega | exact vw_nats rfl rfl (by omega) | exact vw_ints rfl rfl (by omega) | exact vw_bools rfl rfl (by omega) | exact rowV_flat (by repeat' first | exact bytes_flat | exact flat1 | refine flat_app ?_ ?_) | exact rowV_fe (fun _ => rfl) | exact rowV_fe_start (c := cN) (fun _ => rfl) rfl | exact rowsV_fam (fun _ => rfl) (by decide) ⟨rfl, rfl⟩ trivial | exact rowsV_fam (fun _ => rfl) (by decide) (fun _ _ => ⟨rfl, rfl⟩) trivial | (simp; done))), ?_⟩
  (repeat (first | (simp (disch := (first | omega | (simp only [evF, evL, implies_true, and_self]; done) | fail)) only [evS, evZ, evX, evK, evB, evL, evR, Nat.reduceBEq, Nat.reduceAdd, Nat.reduceLeDiff, boxR, rboxR, allocR, fldR, binI, unR, pickR, mknilR, mkslR, buildSlR, buildR, extR, convI, eqB, evU, wrap64, rs_image_PutText]) | (with_reducible intro _) | ((with_reducible apply And.intro); omega)))

theorem object_Encode_1_own (l : List UInt8) (g v w : Nat) (h0 : 0 < l.length) (h1 : l.length ≤ 10000000) (hv : v < 4294967296) (hw : w = 1 ∨ w = 2 ∨ w = 4) :
    CallOk Try.prog f_object_Encode_1 [.int .u32 v, .int .i64 w, .ptr 0 0 0 0 0] [(0, .row 1 [[.own 1 0 g 0 l.length]] 0), (1, .row 1 (l.map cByte) g)] 2
      (fun _ H nx => H = [(0, .row 1 [[.own 3 0 w 0 (l ++ leB v w).length]] 0), (3, .row 1 ((l ++ leB v w).map cByte) w)] ∧ nx = 4) := by
  refine fn_x cf_object_Encode_1 rfl ?_
  unfold ac_object_Encode_1
  have hB : big = 9223372036854775807 := rfl
  (repeat (first | (simp (disch := (first | omega | (simp only [evF, evL, implies_true, and_self]; done) | fail)) only [evS, evZ, evX, evK, evB, evL, evR, Nat.reduceBEq, Nat.reduceAdd, Nat.reduceLeDiff, boxR, rboxR, allocR, fldR, binI, unR, pickR, mknilR, mkslR, buildSlR, buildR, extR, convI, eqB, evU, wrap64]) | (with_reducible intro _) | ((with_reducible apply And.intro); omega)))
  refine call_own [(0, 1, 0)] 1 _ (image_Put_own l g v w h0 h1 hv hw) rfl rfl (by (try simp only [evW, evK, evB, evL, Nat.reduceBEq, Nat.reduceAdd, Nat.reduceSub, Nat.reduceLeDiff, Nat.reduceLT, implies_true, and_self, Int.natCast_zero, Int.natCast_one, Int.cast_ofNat_Int, evV, encInts, encNats, encBools, encP, bytesV]) <;> (repeat' with_reducible apply And.intro) <;> first | omega | exact vw_nats rfl rfl (by omega) | exact vw_ints rfl rfl (by omega) | exact vw_bools rfl rfl (by omega) | exact rowV_flat (by repeat' first | exact bytes_flat | exact flat1 | refine flat_app ?_ ?_) | exact rowV_fe (fun _ => rfl) | exact rowV_fe_start (c := cN) (fun _ => rfl) rfl | exact rowsV_fam (fun _ => rfl) (by decide) ⟨rfl, rfl⟩ trivial | exact rowsV_fam (fun _ => rfl) (by decide) (fun _ _ => ⟨rfl, rfl⟩) trivial | (simp; done)) (by (try simp only [evW, evK, evB, evL, Nat.reduceBEq, Nat.reduceAdd, Nat.reduceSub, Nat.reduceLeDiff, Nat.reduceLT, implies_true, and_self, Int.natCast_zero, Int.natCast_one, Int.cast_ofNat_Int, evV, encInts, encNats, encBools, encP, bytesV]) <;> (repeat' with_reducible apply And.intro) <;> first | omega | exact vw_nats rfl rfl (by omega) | exact vw_ints rfl rfl (by omega) | exact vw_bools rfl rfl (by omega) | exact rowV_flat (by repeat' first | exact bytes_flat | exact flat1 | refine flat_app ?_ ?_) | exact rowV_fe (fun _ => rfl) | exact rowV_fe_start (c := cN) (fun _ => rfl) rfl | exact rowsV_fam (fun _ => rfl) (by decide) ⟨rfl, rfl⟩ trivial | exact rowsV_fam (fun _ => rfl) (by decide) (fun _ _ => ⟨rfl, rfl⟩) trivial | (simp; done)) ?_
  rintro v' H' nx' ⟨rfl, rfl, rfl⟩
  (repeat (first | (simp (disch := (first | omega | (simp only [evF, evL, implies_true, and_self]; done) | fail)) only [evS, evZ, evX, evK, evB, evL, evR, Nat.reduceBEq, Nat.reduceAdd, Nat.reduceLeDiff, boxR, rboxR, allocR, fldR, binI, unR, pickR, mknilR, mkslR, buildSlR, buildR, extR, convI, eqB, evU, wrap64, bytes_ren, rs_object_Encode_1]) | (with_reducible intro _) | ((with_reducible apply And.intro); omega)))

theorem object_Encode_2_own (l : List UInt8) (g : Nat) (s : ByteArray) (h0 : 0 < l.length) (h1 : l.length ≤ 10000000) (hs : s.size ≤ 32) :
    CallOk Try.prog f_object_Encode_2 [.str s, .ptr 0 0 0 0 0] [(0, .row 1 [[.own 1 0 g 0 l.length]] 0), (1, .row 1 (l.map cByte) g)] 2
      (fun _ H nx => H = [(0, .row 1 [[.own 3 0 2 0 (l ++ txB s).length]] 0), (3, .row 1 ((l ++ txB s).map cByte) 2)] ∧ nx = 4) := by
  refine fn_x cf_object_Encode_2 rfl ?_
  unfold ac_object_Encode_2
  have hB : big = 9223372036854775807 := rfl
  (repeat (first | (simp (disch := (first | omega | (simp only [evF, evL, implies_true, and_self]; done) | fail)) only [evS, evZ, evX, evK, evB, evL, evR, Nat.reduceBEq, Nat.reduceAdd, Nat.reduceLeDiff, boxR, rboxR, allocR, fldR, binI, unR, pickR, mknilR, mkslR, buildSlR, buildR, extR, convI, eqB, evU, wrap64]) | (with_reducible intro _) | ((with_reducible apply And.intro); omega)))
  refine call_own [(0, 1, 0)] 1 _ (image_PutText_own l g s h0 h1 hs) rfl rfl (by (try simp only [evW, evK, evB, evL, Nat.reduceBEq, Nat.reduceAdd, Nat.reduceSub, Nat.reduceLeDiff, Nat.reduceLT, implies_true, and_self, Int.natCast_zero, Int.natCast_one, Int.cast_ofNat_Int, evV, encInts, encNats, encBools, encP, bytesV]) <;> (repeat' with_reducible apply And.intro) <;> first | omega | exact vw_nats rfl rfl (by omega) | exact vw_ints rfl rfl (by omega) | exact vw_bools rfl rfl (by omega) | exact rowV_flat (by repeat' first | exact bytes_flat | exact flat1 | refine flat_app ?_ ?_) | exact rowV_fe (fun _ => rfl) | exact rowV_fe_start (c := cN) (fun _ => rfl) rfl | exact rowsV_fam (fun _ => rfl) (by decide) ⟨rfl, rfl⟩ trivial | exact rowsV_fam (fun _ => rfl) (by decide) (fun _ _ => ⟨rfl, rfl⟩) trivial | (simp; done)) (by (try simp only [evW, evK, evB, evL, Nat.reduceBEq, Nat.reduceAdd, Nat.reduceSub, Nat.reduceLeDiff, Nat.reduceLT, implies_true, and_self, Int.natCast_zero, Int.natCast_one, Int.cast_ofNat_Int, evV, encInts, encNats, encBools, encP, bytesV]) <;> (repeat' with_reducible apply And.intro) <;> first | omega | exact vw_nats rfl rfl (by omega) | exact vw_ints rfl rfl (by omega) | exact vw_bools rfl rfl (by omega) | exact rowV_flat (by repeat' first | exact bytes_flat | exact flat1 | refine flat_app ?_ ?_) | exact rowV_fe (fun _ => rfl) | exact rowV_fe_start (c := cN) (fun _ => rfl) rfl | exact rowsV_fam (fun _ => rfl) (by decide) ⟨rfl, rfl⟩ trivial | exact rowsV_fam (fun _ => rfl) (by decide) (fun _ _ => ⟨rfl, rfl⟩) trivial | (simp; done)) ?_
  rintro v' H' nx' ⟨rfl, rfl, rfl⟩
  (repeat (first | (simp (disch := (first | omega | (simp only [evF, evL, implies_true, and_self]; done) | fail)) only [evS, evZ, evX, evK, evB, evL, evR, Nat.reduceBEq, Nat.reduceAdd, Nat.reduceLeDiff, boxR, rboxR, allocR, fldR, binI, unR, pickR, mknilR, mkslR, buildSlR, buildR, extR, convI, eqB, evU, wrap64, bytes_ren, rs_object_Encode_2]) | (with_reducible intro _) | ((with_reducible apply And.intro); omega)))
  decide

end Go.Ab

namespace Go.Ab
open Go.RowKit Go.Proofs

/-- The checksum of the first k bytes. -/
def sumK (l : List UInt8) : Nat → Int
  | 0 => 0
  | k + 1 => IntKind.u32.wrap (sumK l k + IntKind.u32.wrap (IntKind.u32.wrap ((l.getD k 0).toNat : Int) * IntKind.u32.wrap ((k : Int) + 1)))

theorem wrapU32_lt (n : Int) : 0 ≤ IntKind.u32.wrap n ∧ IntKind.u32.wrap n < 4294967296 := by
  have h : IntKind.u32.wrap n = n % 4294967296 := rfl
  rw [h]
  omega

theorem sumK_nat (l : List UInt8) (k : Nat) : ∃ v : Nat, v < 4294967296 ∧ sumK l k = (v : Int) := by
  cases k with
  | zero => exact ⟨0, by decide, rfl⟩
  | succ k =>
    have h : ∀ n : Int, ∃ v : Nat, v < 4294967296 ∧ IntKind.u32.wrap n = (v : Int) := fun n => by
      obtain ⟨h1, h2⟩ := wrapU32_lt n
      exact ⟨(IntKind.u32.wrap n).toNat, by omega, by omega⟩
    exact h _

theorem byte_cell {l : List UInt8} {k : Nat} (h : k < l.length) : ((l.map cByte).getD k []).getD 0 .undef = .int .u8 ((l.getD k 0).toNat : Int) := by
  rw [getD_map h, show l.getD k 0 = l[k] by rw [List.getD_eq_getElem?_getD, List.getElem?_eq_getElem h]; rfl]
  rfl

theorem object_Checksum_ok (l : List UInt8) (h1 : l.length ≤ 100000000) : PureFn Try.prog f_object_Checksum [encB l] (· = .int .u32 (sumK l l.length)) := by
  refine fn_x cf_object_Checksum rfl ?_
  unfold ac_object_Checksum
  have hB : big = 9223372036854775807 := rfl
  (repeat (first | (simp (disch := (first | omega | (simp only [evF, evL, implies_true, and_self]; done) | fail)) only [evS, evZ, evX, evK, evB, evL, evR, Nat.reduceBEq, Nat.reduceAdd, Nat.reduceLeDiff, boxR, rboxR, allocR, fldR, binI, unR, pickR, mknilR, mkslR, buildSlR, buildR, extR, convI, eqB, evU, wrap64, encB]) | (with_reducible intro _) | ((with_reducible apply And.intro); omega)))
  refine loopX_intro (fun k : Nat => ([(3, .int .u32 (sumK l k)), (6, encL 1 cByte l), (7, .int .i64 l.length), (8, .int .i64 k)], [])) 0 (fun k => k ≤ l.length) (fun k => l.length - k) 0 (Nat.zero_le _) (Ent.keep rfl (by (try simp [subK, Kn.get, beq_eq]) <;> (repeat' with_reducible apply And.intro) <;> first | rfl | omega | (simp; done))) ?_
  rintro k hk wf
  unfold ac_object_Checksum_l0
  (repeat (first | (simp (disch := (first | omega | (simp only [evF, evL, implies_true, and_self]; done) | fail)) only [evS, evZ, evX, evK, evB, evL, evR, Nat.reduceBEq, Nat.reduceAdd, Nat.reduceLeDiff, boxR, rboxR, allocR, fldR, binI, unR, pickR, mknilR, mkslR, buildSlR, buildR, extR, convI, eqB, evU, wrap64]) | (with_reducible intro _) | ((with_reducible apply And.intro); omega)))
  (refine condX_intro (fun h => ?_) (fun h => ?_)) <;> (try simp only [decide_eq_true_eq, decide_eq_false_iff_not, Bool.not_eq_true', Bool.not_eq_false', Bool.and_eq_true, Bool.or_eq_true, not_true_eq_false, not_false_eq_true] at h)
  · have hk' : k < l.length := by omega
    (repeat (first | (simp (disch := (first | omega | (simp only [evF, evL, implies_true, and_self]; done) | fail)) only [evS, evZ, evX, evK, evB, evL, evR, Nat.reduceBEq, Nat.reduceAdd, Nat.reduceLeDiff, boxR, rboxR, allocR, fldR, binI, unR, pickR, mknilR, mkslR, buildSlR, buildR, extR, convI, eqB, evU, wrap64, byte_cell hk']) | (with_reducible intro _) | ((with_reducible apply And.intro); omega)))
    exact ⟨k + 1, by omega, by omega, Ent.keep rfl (by (try simp [subK, Kn.get, beq_eq]) <;> (repeat' with_reducible apply And.intro) <;> first | rfl | omega | (simp; done))⟩
  · rw [show l.length = k by omega]
    unfold ac_object_Checksum_k1
    (repeat (first | (simp (disch := (first | omega | (simp only [evF, evL, implies_true, and_self]; done) | fail)) only [evS, evZ, evX, evK, evB, evL, evR, Nat.reduceBEq, Nat.reduceAdd, Nat.reduceLeDiff, boxR, rboxR, allocR, fldR, binI, unR, pickR, mknilR, mkslR, buildSlR, buildR, extR, convI, eqB, evU, wrap64, rs_object_Checksum]) | (with_reducible intro _) | ((with_reducible apply And.intro); omega)))
    exact ⟨_, .int _ _ _, rfl⟩

theorem R08_Checksum_ok (l : List UInt8) (h1 : l.length ≤ 100000000) : PureFn Try.prog f_R08_Checksum [encB l] (· = .int .u32 (sumK l l.length)) := by
  refine fn_x cf_R08_Checksum rfl ?_
  unfold ac_R08_Checksum
  have hB : big = 9223372036854775807 := rfl
  (repeat (first | (simp (disch := (first | omega | (simp only [evF, evL, implies_true, and_self]; done) | fail)) only [evS, evZ, evX, evK, evB, evL, evR, Nat.reduceBEq, Nat.reduceAdd, Nat.reduceLeDiff, boxR, rboxR, allocR, fldR, binI, unR, pickR, mknilR, mkslR, buildSlR, buildR, extR, convI, eqB, evU, wrap64, encB]) | (with_reducible intro _) | ((with_reducible apply And.intro); omega)))
  refine loopX_intro (fun k : Nat => ([(0, encL 1 cByte l), (3, .int .u32 (sumK l k)), (4, .int .i64 k)], [])) 0 (fun k => k ≤ l.length) (fun k => l.length - k) 0 (Nat.zero_le _) (Ent.keep rfl (by (try simp [subK, Kn.get, beq_eq]) <;> (repeat' with_reducible apply And.intro) <;> first | rfl | omega | (simp; done))) ?_
  rintro k hk wf
  unfold ac_R08_Checksum_l0
  (repeat (first | (simp (disch := (first | omega | (simp only [evF, evL, implies_true, and_self]; done) | fail)) only [evS, evZ, evX, evK, evB, evL, evR, Nat.reduceBEq, Nat.reduceAdd, Nat.reduceLeDiff, boxR, rboxR, allocR, fldR, binI, unR, pickR, mknilR, mkslR, buildSlR, buildR, extR, convI, eqB, evU, wrap64]) | (with_reducible intro _) | ((with_reducible apply And.intro); omega)))
  (refine condX_intro (fun h => ?_) (fun h => ?_)) <;> (try simp only [decide_eq_true_eq, decide_eq_false_iff_not, Bool.not_eq_true', Bool.not_eq_false', Bool.and_eq_true, Bool.or_eq_true, not_true_eq_false, not_false_eq_true] at h)
  · have hk' : k < l.length := by omega
    (repeat (first | (simp (disch := (first | omega | (simp only [evF, evL, implies_true, and_self]; done) | fail)) only [evS, evZ, evX, evK, evB, evL, evR, Nat.reduceBEq, Nat.reduceAdd, Nat.reduceLeDiff, boxR, rboxR, allocR, fldR, binI, unR, pickR, mknilR, mkslR, buildSlR, buildR, extR, convI, eqB, evU, wrap64, byte_cell hk']) | (with_reducible intro _) | ((with_reducible apply And.intro); omega)))
    exact ⟨k + 1, by omega, by omega, Ent.keep rfl (by (try simp [subK, Kn.get, beq_eq]) <;> (repeat' with_reducible apply And.intro) <;> first | rfl | omega | (simp; done))⟩
  · rw [show l.length = k by omega]
    unfold ac_R08_Checksum_k1
    (repeat (first | (simp (disch := (first | omega | (simp only [evF, evL, implies_true, and_self]; done) | fail)) only [evS, evZ, evX, evK, evB, evL, evR, Nat.reduceBEq, Nat.reduceAdd, Nat.reduceLeDiff, boxR, rboxR, allocR, fldR, binI, unR, pickR, mknilR, mkslR, buildSlR, buildR, extR, convI, eqB, evU, wrap64, rs_R08_Checksum]) | (with_reducible intro _) | ((with_reducible apply And.intro); omega)))
    exact ⟨_, .int _ _ _, rfl⟩

def flagsN (s : Sec) : Nat := (if s.wr then 1 else 0) + (if s.ex then 2 else 0)

theorem object_truth_ok (b : Bool) : PureFn Try.prog f_object_truth [.bool b] (· = .int .u32 (if b then 1 else 0)) := by
  refine fn_x cf_object_truth rfl ?_
  unfold ac_object_truth
  cases b with
  | true =>
    (repeat (first | (simp (disch := (first | omega | (simp only [evF, evL, implies_true, and_self]; done) | fail)) only [evS, evZ, evX, evK, evB, evL, evR, Nat.reduceBEq, Nat.reduceAdd, Nat.reduceLeDiff, boxR, rboxR, allocR, fldR, binI, unR, pickR, mknilR, mkslR, buildSlR, buildR, extR, convI, eqB, evU, wrap64, rs_object_truth]) | (with_reducible intro _) | ((with_reducible apply And.intro); omega)))
    exact ⟨_, .int _ _ _, rfl⟩
  | false =>
    (repeat (first | (simp (disch := (first | omega | (simp only [evF, evL, implies_true, and_self]; done) | fail)) only [evS, evZ, evX, evK, evB, evL, evR, Nat.reduceBEq, Nat.reduceAdd, Nat.reduceLeDiff, boxR, rboxR, allocR, fldR, binI, unR, pickR, mknilR, mkslR, buildSlR, buildR, extR, convI, eqB, evU, wrap64, rs_object_truth]) | (with_reducible intro _) | ((with_reducible apply And.intro); omega)))
    exact ⟨_, .int _ _ _, rfl⟩

theorem R08_flags_ok (s : Sec) : PureFn Try.prog f_R08_flags [.agg s.cells] (· = .int .u32 (flagsN s : Nat)) := by
  refine fn_x cf_R08_flags rfl ?_
  unfold ac_R08_flags flagsN
  have c3 : s.cells.getD 3 .undef = .bool s.wr := rfl
  have w0 : IntKind.u32.wrap (0 + 1) = 1 := rfl
  have w1 : IntKind.u32.wrap (0 + 2) = 2 := rfl
  have w2 : IntKind.u32.wrap (1 + 2) = 3 := rfl
  cases hw : s.wr <;> cases hx : s.ex
  all_goals
    (repeat (first | (simp (disch := (first | omega | (simp only [evF, evL, implies_true, and_self]; done) | fail)) only [evS, evZ, evX, evK, evB, evL, evR, Nat.reduceBEq, Nat.reduceAdd, Nat.reduceLeDiff, boxR, rboxR, allocR, fldR, binI, unR, pickR, mknilR, mkslR, buildSlR, buildR, extR, convI, eqB, evU, wrap64, Sec.len, Sec.flat, c3, Sec.c4, hw, hx, w0, w1, w2, rs_R08_flags]) | (with_reducible intro _) | ((with_reducible apply And.intro); omega)))
    exact ⟨_, .int _ _ _, rfl⟩

theorem R02_Put_own (l : List UInt8) (g v w : Nat) (h0 : 0 < l.length) (h1 : l.length ≤ 10000000) (hv : v < 4294967296) (hw : w = 1 ∨ w = 2 ∨ w = 4) :
    CallOk Try.prog f_R02_Put [.own 0 0 g 0 l.length, .int .u32 v, .int .i64 w] [(0, .row 1 (l.map cByte) g)] 1
      (fun a H nx => a = .own 1 0 w 0 (l ++ leB v w).length ∧ H = [(1, .row 1 ((l ++ leB v w).map cByte) w)] ∧ nx = 2) := by
  refine fn_x cf_R02_Put rfl ?_
  unfold ac_R02_Put
  have hB : big = 9223372036854775807 := rfl
  (repeat (first | (simp (disch := (first | omega | (simp only [evF, evL, implies_true, and_self]; done) | fail)) only [evS, evZ, evX, evK, evB, evL, evR, Nat.reduceBEq, Nat.reduceAdd, Nat.reduceLeDiff, boxR, rboxR, allocR, fldR, binI, unR, pickR, mknilR, mkslR, buildSlR, buildR, extR, convI, eqB, evU, wrap64, takeB]) | (with_reducible intro _) | ((with_reducible apply And.intro); omega)))
  rcases hw with hw | hw | hw
  all_goals
    (repeat (first | (simp (disch := (first | omega | (simp only [evF, evL, implies_true, and_self]; done) | fail)) only [evS, evZ, evX, evK, evB, evL, evR, Nat.reduceBEq, Nat.reduceAdd, Nat.reduceLeDiff, boxR, rboxR, allocR, fldR, binI, unR, pickR, mknilR, mkslR, buildSlR, buildR, extR, convI, eqB, evU, wrap64, dT, dF]) | (with_reducible intro _) | ((with_reducible apply And.intro); omega)))
    refine loopX_intro (fun i : Nat => ([(1, .int .u32 ((v / 256 ^ i : Nat) : Int)), (2, .int .i64 w), (7, .own 1 0 i 0 (l ++ leB v i).length), (8, .int .i64 i)], [(1, .row 1 ((l ++ leB v i).map cByte) i)])) 2 (fun i => i ≤ w) (fun i => w - i) 0 (Nat.zero_le _) (Ent.tabB [(0, 0, 0), (1, 2, 1)] [] rfl rfl rfl (by (try simp only [evW, evK, evB, evL, Nat.reduceBEq, Nat.reduceAdd, Nat.reduceSub, Nat.reduceLeDiff, Nat.reduceLT, implies_true, and_self, Int.natCast_zero, Int.natCast_one, Int.cast_ofNat_Int, evV, encInts, encNats, encBools, encP, bytesV, leB_zero, List.append_nil, Nat.pow_zero, Nat.div_one]) <;> (repeat' with_reducible apply And.intro) <;> first | omega | exact vw_nats rfl rfl (by omega) | exact vw_ints rfl rfl (by omega) | exact vw_bools rfl rfl (by omega) | exact rowV_flat (by repeat' first | exact bytes_flat | exact flat1 | refine flat_app ?_ ?_) | exact rowV_fe (fun _ => rfl) | exact rowV_fe_start (c := cN) (fun _ => rfl) rfl | exact rowsV_fam (fun _ => rfl) (by decide) ⟨rfl, rfl⟩ trivial | exact rowsV_fam (fun _ => rfl) (by decide) (fun _ _ => ⟨rfl, rfl⟩) trivial | (simp; done)) (by (try simp only [evW, evK, evB, evL, Nat.reduceBEq, Nat.reduceAdd, Nat.reduceSub, Nat.reduceLeDiff, Nat.reduceLT, implies_true, and_self, Int.natCast_zero, Int.natCast_one, Int.cast_ofNat_Int, evV, encInts, encNats, encBools, encP, bytesV, leB_zero, List.append_nil, Nat.pow_zero, Nat.div_one]) <;> (repeat' with_reducible apply And.intro) <;> first | omega | exact vw_nats rfl rfl (by omega) | exact vw_ints rfl rfl (by omega) | exact vw_bools rfl rfl (by omega) | exact rowV_flat (by repeat' first | exact bytes_flat | exact flat1 | refine flat_app ?_ ?_) | exact rowV_fe (fun _ => rfl) | exact rowV_fe_start (c := cN) (fun _ => rfl) rfl | exact rowsV_fam (fun _ => rfl) (by decide) ⟨rfl, rfl⟩ trivial | exact rowsV_fam (fun _ => rfl) (by decide) (fun _ _ => ⟨rfl, rfl⟩) trivial | (simp; done))) ?_
    intro i hi wf
    have hlen : (l ++ leB v i).length = l.length + i := by rw [List.length_append, leB_len]
    have hlen2 : (l ++ leB v (i + 1)).length = l.length + i + 1 := by rw [List.length_append, leB_len]; omega
    unfold ac_R02_Put_l0
    (repeat (first | (simp (disch := (first | omega | (simp only [evF, evL, implies_true, and_self]; done) | fail)) only [evS, evZ, evX, evK, evB, evL, evR, Nat.reduceBEq, Nat.reduceAdd, Nat.reduceLeDiff, boxR, rboxR, allocR, fldR, binI, unR, pickR, mknilR, mkslR, buildSlR, buildR, extR, convI, eqB, evU, wrap64]) | (with_reducible intro _) | ((with_reducible apply And.intro); omega)))
    (refine condX_intro (fun h => ?_) (fun h => ?_)) <;> (try simp only [decide_eq_true_eq, decide_eq_false_iff_not, Bool.not_eq_true', Bool.not_eq_false', Bool.and_eq_true, Bool.or_eq_true, not_true_eq_false, not_false_eq_true] at h)
    · have hi' : i < w := by omega
      have hd := Nat.div_le_self v (256 ^ i)
      have hx : IntKind.u8.wrap (Int.tmod ((v / 256 ^ i : Nat) : Int) 256) = ((byteOf (v / 256 ^ i)).toNat : Int) := by
        rw [byteOf_val]
        show IntKind.u8.wrap ((v / 256 ^ i % 256 : Nat) : Int) = _
        show ((v / 256 ^ i % 256 : Nat) : Int) % 256 = _
        omega
      have hq : IntKind.u32.wrap (Int.tdiv ((v / 256 ^ i : Nat) : Int) 256) = ((v / 256 ^ (i + 1) : Nat) : Int) := by
        rw [Nat.pow_succ, ← Nat.div_div_eq_div_mul]
        show IntKind.u32.wrap ((v / 256 ^ i / 256 : Nat) : Int) = _
        show ((v / 256 ^ i / 256 : Nat) : Int) % 4294967296 = _
        generalize v / 256 ^ i = x at hd
        omega
      have hsn : (l ++ leB v (i + 1)).map cByte = (l ++ leB v i).map cByte ++ [[.int .u8 ((byteOf (v / 256 ^ i)).toNat : Int)]] := by
        rw [leB_succ, ← List.append_assoc, List.map_append]
        rfl
      (repeat (first | (simp (disch := (first | omega | (simp only [evF, evL, implies_true, and_self]; done) | fail)) only [evS, evZ, evX, evK, evB, evL, evR, Nat.reduceBEq, Nat.reduceAdd, Nat.reduceLeDiff, boxR, rboxR, allocR, fldR, binI, unR, pickR, mknilR, mkslR, buildSlR, buildR, extR, convI, eqB, evU, wrap64, takeB, hx, hq]) | (with_reducible intro _) | ((with_reducible apply And.intro); omega)))
      exact ⟨i + 1, by omega, by omega, (Ent.tabB [(0, 0, 0), (1, 1, 0)] [] rfl rfl rfl (by (try simp only [evW, evK, evB, evL, Nat.reduceBEq, Nat.reduceAdd, Nat.reduceSub, Nat.reduceLeDiff, Nat.reduceLT, implies_true, and_self, Int.natCast_zero, Int.natCast_one, Int.cast_ofNat_Int, evV, encInts, encNats, encBools, encP, hsn, hlen, hlen2]) <;> (repeat' with_reducible apply And.intro) <;> first | omega | exact vw_nats rfl rfl (by omega) | exact vw_ints rfl rfl (by omega) | exact vw_bools rfl rfl (by omega) | exact rowV_flat (by repeat' first | exact bytes_flat | exact flat1 | refine flat_app ?_ ?_) | exact rowV_fe (fun _ => rfl) | exact rowV_fe_start (c := cN) (fun _ => rfl) rfl | exact rowsV_fam (fun _ => rfl) (by decide) ⟨rfl, rfl⟩ trivial | exact rowsV_fam (fun _ => rfl) (by decide) (fun _ _ => ⟨rfl, rfl⟩) trivial | (simp; done)) (by (try simp only [evW, evK, evB, evL, Nat.reduceBEq, Nat.reduceAdd, Nat.reduceSub, Nat.reduceLeDiff, Nat.reduceLT, implies_true, and_self, Int.natCast_zero, Int.natCast_one, Int.cast_ofNat_Int, evV, encInts, encNats, encBools, encP, hsn, hlen, hlen2]) <;> (repeat' with_reducible apply And.intro) <;> first | omega | exact vw_nats rfl rfl (by omega) | exact vw_ints rfl rfl (by omega) | exact vw_bools rfl rfl (by omega) | exact rowV_flat (by repeat' first | exact bytes_flat | exact flat1 | refine flat_app ?_ ?_) | exact rowV_fe (fun _ => rfl) | exact rowV_fe_start (c := cN) (fun _ => rfl) rfl | exact rowsV_fam (fun _ => rfl) (by decide) ⟨rfl, rfl⟩ trivial | exact rowsV_fam (fun _ => rfl) (by decide) (fun _ _ => ⟨rfl, rfl⟩) trivial | (simp; done)))⟩
    · have hiw : i = w := by omega
      subst hiw
      unfold ac_R02_Put_k1
      (repeat (first | (simp (disch := (first | omega | (simp only [evF, evL, implies_true, and_self]; done) | fail)) only [evS, evZ, evX, evK, evB, evL, evR, Nat.reduceBEq, Nat.reduceAdd, Nat.reduceLeDiff, boxR, rboxR, allocR, fldR, binI, unR, pickR, mknilR, mkslR, buildSlR, buildR, extR, convI, eqB, evU, wrap64, rs_R02_Put]) | (with_reducible intro _) | ((with_reducible apply And.intro); omega)))

/-- The first bytes of a text. -/
def txK (s : ByteArray) (k : Nat) : List UInt8 := byteOf s.size :: s.data.toList.take k
theorem txK_end (s : ByteArray) : txK s s.size = txB s := by
  unfold txK txB
  rw [List.take_of_length_le (by rw [str_len]; exact Nat.le_refl _)]
theorem txK_len {s : ByteArray} {k : Nat} (h : k ≤ s.size) : (txK s k).length = k + 1 := by
  rw [txK, List.length_cons, List.length_take, str_len]
  omega

theorem R02_PutText_own (l : List UInt8) (g : Nat) (s : ByteArray) (h0 : 0 < l.length) (h1 : l.length ≤ 10000000 - 50) (hs : s.size ≤ 32) :
    CallOk Try.prog f_R02_PutText [.own 0 0 g 0 l.length, .str s] [(0, .row 1 (l.map cByte) g)] 1
      (fun a H nx => a = .tup [.own 1 0 (s.size + 1) 0 (l ++ txB s).length, .int .i64 0] ∧ H = [(1, .row 1 ((l ++ txB s).map cByte) (s.size + 1))] ∧ nx = 2) := by
  refine fn_x cf_R02_PutText rfl ?_
  unfold ac_R02_PutText
  have hB : big = 9223372036854775807 := rfl
  have hx : IntKind.u32.wrap (s.size : Int) = (s.size : Int) := wrapU32 (by omega) (by omega)
  (repeat (first | (simp (disch := (first | omega | (simp only [evF, evL, implies_true, and_self]; done) | fail)) only [evS, evZ, evX, evK, evB, evL, evR, Nat.reduceBEq, Nat.reduceAdd, Nat.reduceLeDiff, boxR, rboxR, allocR, fldR, binI, unR, pickR, mknilR, mkslR, buildSlR, buildR, extR, convI, eqB, evU, wrap64, dF, hx]) | (with_reducible intro _) | ((with_reducible apply And.intro); omega)))
  refine call_own [(0, 0, 0)] 1 _ (R02_Put_own l g s.size 1 h0 (by omega) (by omega) (.inl rfl)) rfl rfl (by (try simp only [evW, evK, evB, evL, Nat.reduceBEq, Nat.reduceAdd, Nat.reduceSub, Nat.reduceLeDiff, Nat.reduceLT, implies_true, and_self, Int.natCast_zero, Int.natCast_one, Int.cast_ofNat_Int, evV, encInts, encNats, encBools, encP, bytesV]) <;> (repeat' with_reducible apply And.intro) <;> first | omega | exact vw_nats rfl rfl (by omega) | exact vw_ints rfl rfl (by omega) | exact vw_bools rfl rfl (by omega) | exact rowV_flat (by repeat' first | exact bytes_flat | exact flat1 | refine flat_app ?_ ?_) | exact rowV_fe (fun _ => rfl) | exact rowV_fe_start (c := cN) (fun _ => rfl) rfl | exact rowsV_fam (fun _ => rfl) (by decide) ⟨rfl, rfl⟩ trivial | exact rowsV_fam (fun _ => rfl) (by decide) (fun _ _ => ⟨rfl, rfl⟩) trivial | (simp; done)) (by (try simp only [evW, evK, evB, evL, Nat.reduceBEq, Nat.reduceAdd, Nat.reduceSub, Nat.reduceLeDiff, Nat.reduceLT, implies_true, and_self, Int.natCast_zero, Int.natCast_one, Int.cast_ofNat_Int, evV, encInts, encNats, encBools, encP, bytesV]) <;> (repeat' with_reducible apply And.intro) <;> first | omega | exact vw_nats rfl rfl (by omega) | exact vw_ints rfl rfl (by omega) | exact vw_bools rfl rfl (by omega) | exact rowV_flat (by repeat' first | exact bytes_flat | exact flat1 | refine flat_app ?_ ?_) | exact rowV_fe (fun _ => rfl) | exact rowV_fe_start (c := cN) (fun _ => rfl) rfl | exact rowsV_fam (fun _ => rfl) (by decide) ⟨rfl, rfl⟩ trivial | exact rowsV_fam (fun _ => rfl) (by decide) (fun _ _ => ⟨rfl, rfl⟩) trivial | (simp; done)) ?_
  rintro v' H' nx' ⟨rfl, rfl, rfl⟩
  have e1 : l ++ leB s.size 1 = l ++ txK s 0 := by
    unfold leB txK
    simp
  rw [e1]
  (repeat (first | (simp (disch := (first | omega | (simp only [evF, evL, implies_true, and_self]; done) | fail)) only [evS, evZ, evX, evK, evB, evL, evR, Nat.reduceBEq, Nat.reduceAdd, Nat.reduceLeDiff, boxR, rboxR, allocR, fldR, binI, unR, pickR, mknilR, mkslR, buildSlR, buildR, extR, convI, eqB, evU, wrap64, bytes_ren]) | (with_reducible intro _) | ((with_reducible apply And.intro); omega)))
  refine loopX_intro (fun i : Nat => ([(1, .str s), (6, .own 1 0 (i + 1) 0 (l ++ txK s i).length), (7, .int .i64 i)], [(1, .row 1 ((l ++ txK s i).map cByte) (i + 1))])) 2 (fun i => i ≤ s.size) (fun i => s.size - i) 0 (Nat.zero_le _) (Ent.tabB [(0, 0, 0), (1, 3, 0)] [] rfl rfl rfl (by (try simp only [evW, evK, evB, evL, Nat.reduceBEq, Nat.reduceAdd, Nat.reduceSub, Nat.reduceLeDiff, Nat.reduceLT, implies_true, and_self, Int.natCast_zero, Int.natCast_one, Int.cast_ofNat_Int, evV, encInts, encNats, encBools, encP, bytesV]) <;> (repeat' with_reducible apply And.intro) <;> first | omega | exact vw_nats rfl rfl (by omega) | exact vw_ints rfl rfl (by omega) | exact vw_bools rfl rfl (by omega) | exact rowV_flat (by repeat' first | exact bytes_flat | exact flat1 | refine flat_app ?_ ?_) | exact rowV_fe (fun _ => rfl) | exact rowV_fe_start (c := cN) (fun _ => rfl) rfl | exact rowsV_fam (fun _ => rfl) (by decide) ⟨rfl, rfl⟩ trivial | exact rowsV_fam (fun _ => rfl) (by decide) (fun _ _ => ⟨rfl, rfl⟩) trivial | (simp; done)) (by (try simp only [evW, evK, evB, evL, Nat.reduceBEq, Nat.reduceAdd, Nat.reduceSub, Nat.reduceLeDiff, Nat.reduceLT, implies_true, and_self, Int.natCast_zero, Int.natCast_one, Int.cast_ofNat_Int, evV, encInts, encNats, encBools, encP, bytesV]) <;> (repeat' with_reducible apply And.intro) <;> first | omega | exact vw_nats rfl rfl (by omega) | exact vw_ints rfl rfl (by omega) | exact vw_bools rfl rfl (by omega) | exact rowV_flat (by repeat' first | exact bytes_flat | exact flat1 | refine flat_app ?_ ?_) | exact rowV_fe (fun _ => rfl) | exact rowV_fe_start (c := cN) (fun _ => rfl) rfl | exact rowsV_fam (fun _ => rfl) (by decide) ⟨rfl, rfl⟩ trivial | exact rowsV_fam (fun _ => rfl) (by decide) (fun _ _ => ⟨rfl, rfl⟩) trivial | (simp; done))) ?_
  intro i hi wf
  have hlen : (l ++ txK s i).length = l.length + (i + 1) := by rw [List.length_append, txK_len hi]
  unfold ac_R02_PutText_l0
  (repeat (first | (simp (disch := (first | omega | (simp only [evF, evL, implies_true, and_self]; done) | fail)) only [evS, evZ, evX, evK, evB, evL, evR, Nat.reduceBEq, Nat.reduceAdd, Nat.reduceLeDiff, boxR, rboxR, allocR, fldR, binI, unR, pickR, mknilR, mkslR, buildSlR, buildR, extR, convI, eqB, evU, wrap64]) | (with_reducible intro _) | ((with_reducible apply And.intro); omega)))
  (refine condX_intro (fun h => ?_) (fun h => ?_)) <;> (try simp only [decide_eq_true_eq, decide_eq_false_iff_not, Bool.not_eq_true', Bool.not_eq_false', Bool.and_eq_true, Bool.or_eq_true, not_true_eq_false, not_false_eq_true] at h)
  · have hi' : i < s.size := by omega
    have hil : i < s.data.toList.length := by rw [str_len]; exact hi'
    have hlen2 : (l ++ txK s (i + 1)).length = l.length + (i + 1) + 1 := by rw [List.length_append, txK_len hi']; omega
    have hsn : (l ++ txK s (i + 1)).map cByte = (l ++ txK s i).map cByte ++ [[.int .u8 ((s.data.toList[i]).toNat : Int)]] := by
      unfold txK
      rw [List.take_succ_eq_append_getElem hil, ← List.cons_append, ← List.append_assoc, List.map_append]
      rfl
    (repeat (first | (simp (disch := (first | omega | (simp only [evF, evL, implies_true, and_self]; done) | fail)) only [evS, evZ, evX, evK, evB, evL, evR, Nat.reduceBEq, Nat.reduceAdd, Nat.reduceLeDiff, boxR, rboxR, allocR, fldR, binI, unR, pickR, mknilR, mkslR, buildSlR, buildR, extR, convI, eqB, evU, wrap64, takeB, byteAt_get hil]) | (with_reducible intro _) | ((with_reducible apply And.intro); omega)))
    exact ⟨i + 1, by omega, by omega, (Ent.tabB [(0, 0, 0), (1, 1, 0)] [] rfl rfl rfl (by (try simp only [evW, evK, evB, evL, Nat.reduceBEq, Nat.reduceAdd, Nat.reduceSub, Nat.reduceLeDiff, Nat.reduceLT, implies_true, and_self, Int.natCast_zero, Int.natCast_one, Int.cast_ofNat_Int, evV, encInts, encNats, encBools, encP, hsn, hlen, hlen2]) <;> (repeat' with_reducible apply And.intro) <;> first | omega | exact vw_nats rfl rfl (by omega) | exact vw_ints rfl rfl (by omega) | exact vw_bools rfl rfl (by omega) | exact rowV_flat (by repeat' first | exact bytes_flat | exact flat1 | refine flat_app ?_ ?_) | exact rowV_fe (fun _ => rfl) | exact rowV_fe_start (c := cN) (fun _ => rfl) rfl | exact rowsV_fam (fun _ => rfl) (by decide) ⟨rfl, rfl⟩ trivial | exact rowsV_fam (fun _ => rfl) (by decide) (fun _ _ => ⟨rfl, rfl⟩) trivial | (simp; done)) (by (try simp only [evW, evK, evB, evL, Nat.reduceBEq, Nat.reduceAdd, Nat.reduceSub, Nat.reduceLeDiff, Nat.reduceLT, implies_true, and_self, Int.natCast_zero, Int.natCast_one, Int.cast_ofNat_Int, evV, encInts, encNats, encBools, encP, hsn, hlen, hlen2]) <;> (repeat' with_reducible apply And.intro) <;> first | omega | exact vw_nats rfl rfl (by omega) | exact vw_ints rfl rfl (by omega) | exact vw_bools rfl rfl (by omega) | exact rowV_flat (by repeat' first | exact bytes_flat | exact flat1 | refine flat_app ?_ ?_) | exact rowV_fe (fun _ => rfl) | exact rowV_fe_start (c := cN) (fun _ => rfl) rfl | exact rowsV_fam (fun _ => rfl) (by decide) ⟨rfl, rfl⟩ trivial | exact rowsV_fam (fun _ => rfl) (by decide) (fun _ _ => ⟨rfl, rfl⟩) trivial | (simp; done)))⟩
  · have hiw : i = s.size := by omega
    subst hiw
    rw [txK_end]
    unfold ac_R02_PutText_k1
    (repeat (first | (simp (disch := (first | omega | (simp only [evF, evL, implies_true, and_self]; done) | fail)) only [evS, evZ, evX, evK, evB, evL, evR, Nat.reduceBEq, Nat.reduceAdd, Nat.reduceLeDiff, boxR, rboxR, allocR, fldR, binI, unR, pickR, mknilR, mkslR, buildSlR, buildR, extR, convI, eqB, evU, wrap64, rs_R02_PutText]) | (with_reducible intro _) | ((with_reducible apply And.intro); omega)))

theorem R08_text_own (l : List UInt8) (g : Nat) (s : ByteArray) (h0 : 0 < l.length) (h1 : l.length ≤ 10000000 - 50) (hs : s.size ≤ 32) :
    CallOk Try.prog f_R08_text [.own 0 0 g 0 l.length, .str s] [(0, .row 1 (l.map cByte) g)] 1
      (fun a H nx => a = .own 3 0 (s.size + 1) 0 (l ++ txB s).length ∧ H = [(1, .row 1 [] 0), (3, .row 1 ((l ++ txB s).map cByte) (s.size + 1))] ∧ nx = 4) := by
  refine fn_x cf_R08_text rfl ?_
  unfold ac_R08_text
  have hB : big = 9223372036854775807 := rfl
  (repeat (first | (simp (disch := (first | omega | (simp only [evF, evL, implies_true, and_self]; done) | fail)) only [evS, evZ, evX, evK, evB, evL, evR, Nat.reduceBEq, Nat.reduceAdd, Nat.reduceLeDiff, boxR, rboxR, allocR, fldR, binI, unR, pickR, mknilR, mkslR, buildSlR, buildR, extR, convI, eqB, evU, wrap64]) | (with_reducible intro _) | ((with_reducible apply And.intro); omega)))
  refine call_own [(0, 0, 0)] 1 _ (R02_PutText_own l g s h0 h1 hs) rfl rfl (by (try simp only [evW, evK, evB, evL, Nat.reduceBEq, Nat.reduceAdd, Nat.reduceSub, Nat.reduceLeDiff, Nat.reduceLT, implies_true, and_self, Int.natCast_zero, Int.natCast_one, Int.cast_ofNat_Int, evV, encInts, encNats, encBools, encP, bytesV]) <;> (repeat' with_reducible apply And.intro) <;> first | omega | exact vw_nats rfl rfl (by omega) | exact vw_ints rfl rfl (by omega) | exact vw_bools rfl rfl (by omega) | exact rowV_flat (by repeat' first | exact bytes_flat | exact flat1 | refine flat_app ?_ ?_) | exact rowV_fe (fun _ => rfl) | exact rowV_fe_start (c := cN) (fun _ => rfl) rfl | exact rowsV_fam (fun _ => rfl) (by decide) ⟨rfl, rfl⟩ trivial | exact rowsV_fam (fun _ => rfl) (by decide) (fun _ _ => ⟨rfl, rfl⟩) trivial | (simp; done)) (by (try simp only [evW, evK, evB, evL, Nat.reduceBEq, Nat.reduceAdd, Nat.reduceSub, Nat.reduceLeDiff, Nat.reduceLT, implies_true, and_self, Int.natCast_zero, Int.natCast_one, Int.cast_ofNat_Int, evV, encInts, encNats, encBools, encP, bytesV]) <;> (repeat' with_reducible apply And.intro) <;> first | omega | exact vw_nats rfl rfl (by omega) | exact vw_ints rfl rfl (by omega) | exact vw_bools rfl rfl (by omega) | exact rowV_flat (by repeat' first | exact bytes_flat | exact flat1 | refine flat_app ?_ ?_) | exact rowV_fe (fun _ => rfl) | exact rowV_fe_start (c := cN) (fun _ => rfl) rfl | exact rowsV_fam (fun _ => rfl) (by decide) ⟨rfl, rfl⟩ trivial | exact rowsV_fam (fun _ => rfl) (by decide) (fun _ _ => ⟨rfl, rfl⟩) trivial | (simp; done)) ?_
  rintro v' H' nx' ⟨rfl, rfl, rfl⟩
  (repeat (first | (simp (disch := (first | omega | (simp only [evF, evL, implies_true, and_self]; done) | fail)) only [evS, evZ, evX, evK, evB, evL, evR, Nat.reduceBEq, Nat.reduceAdd, Nat.reduceLeDiff, boxR, rboxR, allocR, fldR, binI, unR, pickR, mknilR, mkslR, buildSlR, buildR, extR, convI, eqB, evU, wrap64, bytes_ren, rs_R08_text]) | (with_reducible intro _) | ((with_reducible apply And.intro); omega)))
  all_goals decide

end Go.Ab

namespace Go.Ab
open Go.RowKit Go.Proofs

structure Bin.fine (o : Bin) : Prop where
  nS : o.secs.length ≤ 16
  nY : o.syms.length ≤ 256
  nR : o.rels.length ≤ 256
  secs : ∀ s ∈ o.secs, s.name.size ≤ 32 ∧ s.data.length ≤ 65536
  syms : ∀ s ∈ o.syms, s.name.size ≤ 32 ∧ (s.kind = 1 ∨ s.kind = 2)
  rels : ∀ r ∈ o.rels, r.sym.size ≤ 32 ∧ (r.kind = 1 ∨ r.kind = 2) ∧ 0 ≤ r.sec ∧ r.sec < 16 ∧ 0 ≤ r.off ∧ r.off ≤ 65536

theorem nameOk_size {s : ByteArray} (h : nameOk s = true) : s.size ≤ 32 := by
  unfold nameOk at h
  simp only [Bool.and_eq_true, decide_eq_true_eq] at h
  exact h.2

theorem firstE_all {α : Type} {f : List α → α → Int} {l : List α} (h : firstE f l l.length 0 = 0) : ∀ x ∈ l, ∃ pre, f pre x = 0 := fun x hx => by
  obtain ⟨i, hi, rfl⟩ := List.mem_iff_getElem.1 hx
  exact ⟨_, firstE_zero (by omega) h i hi (Nat.zero_le _)⟩

theorem oneS_fine {pre : List Sec} {s : Sec} (h : oneS pre s = 0) : s.name.size ≤ 32 ∧ s.data.length ≤ 65536 := by
  unfold oneS at h
  by_cases h1 : 65536 < s.data.length
  · rw [if_pos h1] at h; cases h
  rw [if_neg h1] at h
  by_cases h2 : nameOk s.name = false
  · rw [if_pos h2] at h; cases h
  exact ⟨nameOk_size (by simpa using h2), by omega⟩

theorem fine_of {o : Bin} (h : checkO o = 0) : o.fine := by
  rw [checkO_eq] at h
  obtain ⟨h, _⟩ := thenE_zero h
  rw [checkR_eq] at h
  obtain ⟨hS, h⟩ := thenE_zero h
  obtain ⟨hY, hR⟩ := thenE_zero h
  unfold checkS at hS
  unfold checkY at hY
  unfold restR at hR
  by_cases h1 : 16 < o.secs.length
  · rw [if_pos h1] at hS; cases hS
  rw [if_neg h1] at hS
  by_cases h2 : 256 < o.syms.length
  · rw [if_pos h2] at hY; cases hY
  rw [if_neg h2] at hY
  by_cases h3 : 256 < o.rels.length
  · rw [if_pos h3] at hR; cases hR
  rw [if_neg h3] at hR
  have hS1 : firstE oneS o.secs o.secs.length 0 = 0 := by
    by_cases h4 : firstE oneS o.secs o.secs.length 0 ≠ 0
    · rw [if_pos h4] at hS; exact absurd hS h4
    · exact Decidable.not_not.1 h4
  obtain ⟨hY1, hY⟩ := thenE_zero hY
  obtain ⟨_, hY3⟩ := thenE_zero hY
  obtain ⟨hR1, _⟩ := thenE_zero hR
  have secs : ∀ s ∈ o.secs, s.name.size ≤ 32 ∧ s.data.length ≤ 65536 := fun s hs => by
    obtain ⟨pre, hp⟩ := firstE_all hS1 s hs
    exact oneS_fine hp
  have names : ∀ s ∈ o.syms, s.name.size ≤ 32 := fun s hs => by
    obtain ⟨pre, hp⟩ := firstE_all hY1 s hs
    unfold symName at hp
    by_cases h5 : nameOk s.name = false
    · rw [if_pos h5] at hp; cases hp
    · exact nameOk_size (by simpa using h5)
  refine ⟨by omega, by omega, by omega, secs, fun s hs => ⟨names s hs, ?_⟩, fun r hr => ?_⟩
  · obtain ⟨pre, hp⟩ := firstE_all hY3 s hs
    unfold symKind at hp
    by_cases h5 : s.kind ≠ 1 ∧ s.kind ≠ 2
    · rw [if_pos h5] at hp; cases hp
    · omega
  · obtain ⟨pre, hp⟩ := firstE_all hR1 r hr
    by_cases h5 : (r.kind ≠ 1 ∧ r.kind ≠ 2) ∨ r.sec < 0 ∨ (o.secs.length : Int) ≤ r.sec
    · rw [oneR_2 h5] at hp; cases hp
    have hs : r.sec.toNat < o.secs.length := by omega
    rw [oneR_in h5 hs] at hp
    have hd := (secs _ (List.getElem_mem hs)).2
    by_cases h7 : r.off < 0 ∨ (o.secs[r.sec.toNat].data.length : Int) - 4 < r.off
    · rw [if_pos h7] at hp; cases hp
    rw [if_neg h7] at hp
    have hy : r.sym.size ≤ 32 := by
      by_cases h8 : hasY o.syms r.sym = false
      · rw [if_pos h8] at hp; cases hp
      · have h9 : o.syms.any (fun s => decide (s.name = r.sym)) = true := by unfold hasY at h8; simpa using h8
        obtain ⟨s, hs, he⟩ := List.any_eq_true.1 h9
        rw [← of_decide_eq_true he]
        exact names s hs
    exact ⟨hy, by omega, by omega, by omega, by omega, by omega⟩

def headB (o : Bin) : List UInt8 := [68, 67, 79, 49] ++ leB o.entry.toNat 4 ++ leB o.secs.length 1 ++ leB o.syms.length 2 ++ leB o.rels.length 2
def secB (s : Sec) : List UInt8 := txB s.name ++ leB s.addr.toNat 4 ++ leB (flagsN s) 1 ++ leB s.data.length 4 ++ s.data
def symB (s : Sym) : List UInt8 := txB s.name ++ leB s.addr.toNat 4 ++ leB s.kind.toNat 1
def relB (r : Rel) : List UInt8 := leB r.sec.toNat 1 ++ leB r.off.toNat 4 ++ leB r.kind.toNat 1 ++ txB r.sym ++ leB (IntKind.u32.wrap r.add).toNat 4

def manyB {α : Type} (f : α → List UInt8) (l : List α) (k : Nat) : List UInt8 := ((l.take k).map f).flatten
theorem manyB_zero {α : Type} {f : α → List UInt8} {l : List α} : manyB f l 0 = [] := rfl
theorem manyB_succ {α : Type} {f : α → List UInt8} {l : List α} {k : Nat} (h : k < l.length) : manyB f l (k + 1) = manyB f l k ++ f l[k] := by
  unfold manyB
  rw [List.take_succ_eq_append_getElem h, List.map_append, List.flatten_append]
  simp
theorem manyB_len {α : Type} {f : α → List UInt8} {l : List α} {m : Nat} (h : ∀ x ∈ l, (f x).length ≤ m) : ∀ k, k ≤ l.length → (manyB f l k).length ≤ k * m
  | 0, _ => by simp [manyB_zero]
  | k + 1, hk => by
    rw [manyB_succ (by omega), List.length_append, Nat.succ_mul]
    have := manyB_len h k (by omega)
    have := h _ (List.getElem_mem (show k < l.length by omega))
    omega
theorem manyB_mono {α : Type} {f : α → List UInt8} {l : List α} {k : Nat} : ∀ n, (manyB f l k).length ≤ (manyB f l (k + n)).length
  | 0 => Nat.le_refl _
  | n + 1 => by
    refine Nat.le_trans (manyB_mono n) ?_
    by_cases h : k + n < l.length
    · rw [← Nat.add_assoc, manyB_succ h, List.length_append]
      omega
    · unfold manyB
      rw [List.take_of_length_le (by omega), List.take_of_length_le (by omega)]
      exact Nat.le_refl _

theorem headB_len {o : Bin} : (headB o).length = 13 := by simp [headB, leB_len]
theorem secB_len {s : Sec} : (secB s).length = s.name.size + 10 + s.data.length := by simp [secB, leB_len, txB_len]; omega
theorem symB_len {s : Sym} : (symB s).length = s.name.size + 6 := by simp [symB, leB_len, txB_len]
theorem relB_len {r : Rel} : (relB r).length = r.sym.size + 11 := by simp [relB, leB_len, txB_len]; omega

def bodyB (o : Bin) : List UInt8 := headB o ++ manyB secB o.secs o.secs.length ++ manyB symB o.syms o.syms.length ++ manyB relB o.rels o.rels.length
def fullB (o : Bin) : List UInt8 := bodyB o ++ leB (sumK (bodyB o) (bodyB o).length).toNat 4
def encodeO (o : Bin) : List UInt8 × Int := if checkO o ≠ 0 then ([], checkO o) else if 65536 < (fullB o).length then ([], 6) else (fullB o, 0)

theorem encodeO_bad {o : Bin} (h : checkO o ≠ 0) : encodeO o = ([], checkO o) := by rw [encodeO, if_pos h]
theorem encodeO_long {o : Bin} (h : checkO o = 0) (hl : 65536 < (fullB o).length) : encodeO o = ([], 6) := by rw [encodeO, if_neg (by rw [h]; decide), if_pos hl]
theorem encodeO_good {o : Bin} (h : checkO o = 0) (hl : ¬ 65536 < (fullB o).length) : encodeO o = (fullB o, 0) := by rw [encodeO, if_neg (by rw [h]; decide), if_neg hl]

theorem full_ge {o : Bin} {k : Nat} (h : k ≤ o.secs.length) : (headB o ++ manyB secB o.secs k).length ≤ (fullB o).length := by
  have := manyB_mono (f := secB) (l := o.secs) (k := k) (o.secs.length - k)
  rw [show k + (o.secs.length - k) = o.secs.length by omega] at this
  simp only [fullB, bodyB, List.length_append]
  omega

end Go.Ab

namespace Go.Ab
open Go.RowKit Go.Proofs

def encR (r : List UInt8 × Int) : AV := .tup [encB r.1, .int .i64 r.2]

theorem frz_nilE {H : AH} {r g : Nat} {e : Int} (hg : H.get r 0 = some (.row 1 [] g)) : Frz H (.tup [.own r 0 g 0 0, .int .i64 e]) (encR ([], e)) := by
  refine .tup _ _ _ rfl (fun i a c h1 h2 => ?_)
  rcases i with _ | _ | i
  · cases h1; cases h2
    exact .frz _ r 0 g 0 0 1 [] _ trivial hg (Nat.zero_le _) (Nat.le_refl 0) (fun i j hi => absurd hi (Nat.not_lt_zero _))
  · cases h1; cases h2; exact .int _ _ _
  · cases h1

theorem vw_bytes {H H2 : AH} {σ : Nat → Nat → Option (Nat × Nat × Nat)} {D : Nat → Nat → Prop} {t : Bool} {r g n : Nat} {l : List UInt8} (hD : D r 0) (hg : H.get r 0 = some (.row 1 (l.map cByte) g)) (hn : n = l.length) (hb : n ≤ big) :
    Vw H H2 σ D t (.own r 0 g 0 n) (encB l) := by
  subst hn
  refine .frz _ r 0 g 0 _ 1 _ _ hD hg hb (by simp) (fun i j hi hj => ?_)
  obtain rfl : j = 0 := by omega
  rw [Nat.zero_add]
  rw [show ((l.map cByte).getD i []).getD 0 .undef = .int .u8 ((l[i]).toNat : Int) by rw [getD_map hi]; rfl]
  exact .int _ _ _

theorem frz_okE {H : AH} {r g n : Nat} {l : List UInt8} {e : Int} (hg : H.get r 0 = some (.row 1 (l.map cByte) g)) (hn : n = l.length) (hb : n ≤ big) : Frz H (.tup [.own r 0 g 0 n, .int .i64 e]) (encR (l, e)) := by
  refine .tup _ _ _ rfl (fun i a c h1 h2 => ?_)
  rcases i with _ | _ | i
  · cases h1; cases h2
    exact vw_bytes trivial hg hn hb
  · cases h1; cases h2; exact .int _ _ _
  · cases h1

def ac2_object_Encode : ACode := match ac_object_Encode with
  | .seq a (.seq b (.seq c d)) => .seq a (.seq b (.seq c (.mark 0 d)))
  | x => x

def boxB (b : List UInt8) : AH := [(0, .row 1 [[.own 1 0 0 0 b.length]] 0), (1, .row 1 (b.map cByte) 0)]

theorem object_Encode_ok (o : Bin) (ho : o.okN) : PureFn Try.prog f_object_Encode [.agg o.cells] (· = encR (encodeO o)) := by
  refine fn_x (ac := ac2_object_Encode) cf_object_Encode rfl ?_
  unfold ac2_object_Encode ac_object_Encode
  have hB : big = 9223372036854775807 := rfl
  have hc := object_Check_ok o ho
  (repeat (first | (simp (disch := (first | omega | (simp only [evF, evL, implies_true, and_self]; done) | fail)) only [evS, evZ, evX, evK, evB, evL, evR, Nat.reduceBEq, Nat.reduceAdd, Nat.reduceLeDiff, boxR, rboxR, allocR, fldR, binI, unR, pickR, mknilR, mkslR, buildSlR, buildR, extR, convI, eqB, evU, wrap64, Bin.len, Bin.flat, Bin.four]) | (with_reducible intro _) | ((with_reducible apply And.intro); omega)))
  refine callX_fix (call_flat hc rfl) ?_
  by_cases h1 : checkO o = 0
  case neg =>
    rw [encodeO_bad h1]
    (repeat (first | (simp (disch := (first | omega | (simp only [evF, evL, implies_true, and_self]; done) | fail)) only [evS, evZ, evX, evK, evB, evL, evR, Nat.reduceBEq, Nat.reduceAdd, Nat.reduceLeDiff, boxR, rboxR, allocR, fldR, binI, unR, pickR, mknilR, mkslR, buildSlR, buildR, extR, convI, eqB, evU, wrap64, dT, rs_object_Encode]) | (with_reducible intro _) | ((with_reducible apply And.intro); omega)))
    exact ⟨_, frz_nilE rfl, rfl⟩
  have hf := fine_of h1
  have hnS := hf.nS
  have hnY := hf.nY
  have hnR := hf.nR
  rw [h1]
  have e0 : decide ((0 : Int) ≠ 0) = false := rfl
  (repeat (first | (simp (disch := (first | omega | (simp only [evF, evL, implies_true, and_self]; done) | fail)) only [evS, evZ, evX, evK, evB, evL, evR, Nat.reduceBEq, Nat.reduceAdd, Nat.reduceLeDiff, boxR, rboxR, allocR, fldR, binI, unR, pickR, mknilR, mkslR, buildSlR, buildR, extR, convI, eqB, evU, wrap64, e0]) | (with_reducible intro _) | ((with_reducible apply And.intro); omega)))
  obtain ⟨b0, hb0⟩ : ∃ b0 : List UInt8, b0 = [68, 67, 79, 49] := ⟨_, rfl⟩
  have hl0 : b0.length = 4 := by rw [hb0]; rfl
  rw [show ([[.int .u8 68], [.int .u8 67], [.int .u8 79], [.int .u8 49]] : List (List AV)) = b0.map cByte by rw [hb0]; rfl]
  refine markX_intro [(1, encP 4 o.cells), (5, .ptr 0 0 0 0 0)] [(0, .row 1 [[.own 1 0 0 0 b0.length]] 0), (1, .row 1 (b0.map cByte) 0)] 2 fun _ => ⟨(Ent.tab [(0, 2, 0), (1, 1, 0)] [] rfl (by (try simp only [evW, evK, evB, evL, Nat.reduceBEq, Nat.reduceAdd, Nat.reduceSub, Nat.reduceLeDiff, Nat.reduceLT, implies_true, and_self, Int.natCast_zero, Int.natCast_one, Int.cast_ofNat_Int, evV, encInts, encNats, encBools, encP, hl0]) <;> (repeat' with_reducible apply And.intro) <;> first | omega | exact vw_nats rfl rfl (by omega) | exact vw_ints rfl rfl (by omega) | exact vw_bools rfl rfl (by omega) | exact rowV_flat (by repeat' first | exact bytes_flat | exact flat1 | refine flat_app ?_ ?_) | exact rowV_fe (fun _ => rfl) | exact rowV_fe_start (c := cN) (fun _ => rfl) rfl | exact rowsV_fam (fun _ => rfl) (by decide) ⟨rfl, rfl⟩ trivial | exact rowsV_fam (fun _ => rfl) (by decide) (fun _ _ => ⟨rfl, rfl⟩) trivial | (simp; done)) (by (try simp only [evW, evK, evB, evL, Nat.reduceBEq, Nat.reduceAdd, Nat.reduceSub, Nat.reduceLeDiff, Nat.reduceLT, implies_true, and_self, Int.natCast_zero, Int.natCast_one, Int.cast_ofNat_Int, evV, encInts, encNats, encBools, encP, hl0]) <;> (repeat' with_reducible apply And.intro) <;> first | omega | exact vw_nats rfl rfl (by omega) | exact vw_ints rfl rfl (by omega) | exact vw_bools rfl rfl (by omega) | exact rowV_flat (by repeat' first | exact bytes_flat | exact flat1 | refine flat_app ?_ ?_) | exact rowV_fe (fun _ => rfl) | exact rowV_fe_start (c := cN) (fun _ => rfl) rfl | exact rowsV_fam (fun _ => rfl) (by decide) ⟨rfl, rfl⟩ trivial | exact rowsV_fam (fun _ => rfl) (by decide) (fun _ _ => ⟨rfl, rfl⟩) trivial | (simp; done))), ?_⟩
  have hwS : IntKind.u32.wrap (o.secs.length : Int) = (o.secs.length : Int) := wrapU32 (by omega) (by omega)
  have hwY : IntKind.u32.wrap (o.syms.length : Int) = (o.syms.length : Int) := wrapU32 (by omega) (by omega)
  have hwR : IntKind.u32.wrap (o.rels.length : Int) = (o.rels.length : Int) := wrapU32 (by omega) (by omega)
  have hgood1 : fnGood Try.prog f_object_Encode_1 = true := by kernel_rfl
  have hgood2 : fnGood Try.prog f_object_Encode_2 = true := by kernel_rfl
  (repeat (first | (simp (disch := (first | omega | (simp only [evF, evL, implies_true, and_self]; done) | fail)) only [evS, evZ, evX, evK, evB, evL, evR, Nat.reduceBEq, Nat.reduceAdd, Nat.reduceLeDiff, boxR, rboxR, allocR, fldR, binI, unR, pickR, mknilR, mkslR, buildSlR, buildR, extR, convI, eqB, evU, wrap64, fldP, Bin.c0, Bin.len, hgood1]) | (with_reducible intro _) | ((with_reducible apply And.intro); omega)))
  refine call_own [(0, 0, 0), (1, 1, 0)] 2 _ (object_Encode_1_own b0 0 o.entry.toNat 4 (by omega) (by omega) (u32_lt _) (by decide)) rfl rfl (by (try simp only [evW, evK, evB, evL, Nat.reduceBEq, Nat.reduceAdd, Nat.reduceSub, Nat.reduceLeDiff, Nat.reduceLT, implies_true, and_self, Int.natCast_zero, Int.natCast_one, Int.cast_ofNat_Int, evV, encInts, encNats, encBools, encP, bytesV]) <;> (repeat' with_reducible apply And.intro) <;> first | omega | exact vw_nats rfl rfl (by omega) | exact vw_ints rfl rfl (by omega) | exact vw_bools rfl rfl (by omega) | exact rowV_flat (by repeat' first | exact bytes_flat | exact flat1 | refine flat_app ?_ ?_) | exact rowV_fe (fun _ => rfl) | exact rowV_fe_start (c := cN) (fun _ => rfl) rfl | exact rowsV_fam (fun _ => rfl) (by decide) ⟨rfl, rfl⟩ trivial | exact rowsV_fam (fun _ => rfl) (by decide) (fun _ _ => ⟨rfl, rfl⟩) trivial | (simp; done)) (by (try simp only [evW, evK, evB, evL, Nat.reduceBEq, Nat.reduceAdd, Nat.reduceSub, Nat.reduceLeDiff, Nat.reduceLT, implies_true, and_self, Int.natCast_zero, Int.natCast_one, Int.cast_ofNat_Int, evV, encInts, encNats, encBools, encP, bytesV]) <;> (repeat' with_reducible apply And.intro) <;> first | omega | exact vw_nats rfl rfl (by omega) | exact vw_ints rfl rfl (by omega) | exact vw_bools rfl rfl (by omega) | exact rowV_flat (by repeat' first | exact bytes_flat | exact flat1 | refine flat_app ?_ ?_) | exact rowV_fe (fun _ => rfl) | exact rowV_fe_start (c := cN) (fun _ => rfl) rfl | exact rowsV_fam (fun _ => rfl) (by decide) ⟨rfl, rfl⟩ trivial | exact rowsV_fam (fun _ => rfl) (by decide) (fun _ _ => ⟨rfl, rfl⟩) trivial | (simp; done)) ?_
  rintro v1 H1 nx1 ⟨rfl, rfl⟩
  have hl1 : (b0 ++ leB o.entry.toNat 4).length = b0.length + 4 := by rw [List.length_append, leB_len]
  generalize hb1 : b0 ++ leB o.entry.toNat 4 = b1 at *
  (repeat (first | (simp (disch := (first | omega | (simp only [evF, evL, implies_true, and_self]; done) | fail)) only [evS, evZ, evX, evK, evB, evL, evR, Nat.reduceBEq, Nat.reduceAdd, Nat.reduceLeDiff, boxR, rboxR, allocR, fldR, binI, unR, pickR, mknilR, mkslR, buildSlR, buildR, extR, convI, eqB, evU, wrap64, bytes_ren, fldP, Bin.c1, Bin.c2, Bin.c3, Bin.len, hwS, hwY, hwR, hgood1]) | (with_reducible intro _) | ((with_reducible apply And.intro); omega)))
  refine call_own [(0, 0, 0), (1, 5, 0)] 2 _ (object_Encode_1_own b1 4 o.secs.length 1 (by omega) (by omega) (by omega) (by decide)) rfl rfl (by (try simp only [evW, evK, evB, evL, Nat.reduceBEq, Nat.reduceAdd, Nat.reduceSub, Nat.reduceLeDiff, Nat.reduceLT, implies_true, and_self, Int.natCast_zero, Int.natCast_one, Int.cast_ofNat_Int, evV, encInts, encNats, encBools, encP, bytesV]) <;> (repeat' with_reducible apply And.intro) <;> first | omega | exact vw_nats rfl rfl (by omega) | exact vw_ints rfl rfl (by omega) | exact vw_bools rfl rfl (by omega) | exact rowV_flat (by repeat' first | exact bytes_flat | exact flat1 | refine flat_app ?_ ?_) | exact rowV_fe (fun _ => rfl) | exact rowV_fe_start (c := cN) (fun _ => rfl) rfl | exact rowsV_fam (fun _ => rfl) (by decide) ⟨rfl, rfl⟩ trivial | exact rowsV_fam (fun _ => rfl) (by decide) (fun _ _ => ⟨rfl, rfl⟩) trivial | (simp; done)) (by (try simp only [evW, evK, evB, evL, Nat.reduceBEq, Nat.reduceAdd, Nat.reduceSub, Nat.reduceLeDiff, Nat.reduceLT, implies_true, and_self, Int.natCast_zero, Int.natCast_one, Int.cast_ofNat_Int, evV, encInts, encNats, encBools, encP, bytesV]) <;> (repeat' with_reducible apply And.intro) <;> first | omega | exact vw_nats rfl rfl (by omega) | exact vw_ints rfl rfl (by omega) | exact vw_bools rfl rfl (by omega) | exact rowV_flat (by repeat' first | exact bytes_flat | exact flat1 | refine flat_app ?_ ?_) | exact rowV_fe (fun _ => rfl) | exact rowV_fe_start (c := cN) (fun _ => rfl) rfl | exact rowsV_fam (fun _ => rfl) (by decide) ⟨rfl, rfl⟩ trivial | exact rowsV_fam (fun _ => rfl) (by decide) (fun _ _ => ⟨rfl, rfl⟩) trivial | (simp; done)) ?_
  rintro v2 H2 nx2 ⟨rfl, rfl⟩
  have hl2 : (b1 ++ leB o.secs.length 1).length = b1.length + 1 := by rw [List.length_append, leB_len]
  generalize hb2 : b1 ++ leB o.secs.length 1 = b2 at *
  (repeat (first | (simp (disch := (first | omega | (simp only [evF, evL, implies_true, and_self]; done) | fail)) only [evS, evZ, evX, evK, evB, evL, evR, Nat.reduceBEq, Nat.reduceAdd, Nat.reduceLeDiff, boxR, rboxR, allocR, fldR, binI, unR, pickR, mknilR, mkslR, buildSlR, buildR, extR, convI, eqB, evU, wrap64, bytes_ren, fldP, Bin.c1, Bin.c2, Bin.c3, Bin.len, hwS, hwY, hwR, hgood1]) | (with_reducible intro _) | ((with_reducible apply And.intro); omega)))
  refine call_own [(0, 0, 0), (1, 9, 0)] 2 _ (object_Encode_1_own b2 1 o.syms.length 2 (by omega) (by omega) (by omega) (by decide)) rfl rfl (by (try simp only [evW, evK, evB, evL, Nat.reduceBEq, Nat.reduceAdd, Nat.reduceSub, Nat.reduceLeDiff, Nat.reduceLT, implies_true, and_self, Int.natCast_zero, Int.natCast_one, Int.cast_ofNat_Int, evV, encInts, encNats, encBools, encP, bytesV]) <;> (repeat' with_reducible apply And.intro) <;> first | omega | exact vw_nats rfl rfl (by omega) | exact vw_ints rfl rfl (by omega) | exact vw_bools rfl rfl (by omega) | exact rowV_flat (by repeat' first | exact bytes_flat | exact flat1 | refine flat_app ?_ ?_) | exact rowV_fe (fun _ => rfl) | exact rowV_fe_start (c := cN) (fun _ => rfl) rfl | exact rowsV_fam (fun _ => rfl) (by decide) ⟨rfl, rfl⟩ trivial | exact rowsV_fam (fun _ => rfl) (by decide) (fun _ _ => ⟨rfl, rfl⟩) trivial | (simp; done)) (by (try simp only [evW, evK, evB, evL, Nat.reduceBEq, Nat.reduceAdd, Nat.reduceSub, Nat.reduceLeDiff, Nat.reduceLT, implies_true, and_self, Int.natCast_zero, Int.natCast_one, Int.cast_ofNat_Int, evV, encInts, encNats, encBools, encP, bytesV]) <;> (repeat' with_reducible apply And.intro) <;> first | omega | exact vw_nats rfl rfl (by omega) | exact vw_ints rfl rfl (by omega) | exact vw_bools rfl rfl (by omega) | exact rowV_flat (by repeat' first | exact bytes_flat | exact flat1 | refine flat_app ?_ ?_) | exact rowV_fe (fun _ => rfl) | exact rowV_fe_start (c := cN) (fun _ => rfl) rfl | exact rowsV_fam (fun _ => rfl) (by decide) ⟨rfl, rfl⟩ trivial | exact rowsV_fam (fun _ => rfl) (by decide) (fun _ _ => ⟨rfl, rfl⟩) trivial | (simp; done)) ?_
  rintro v3 H3 nx3 ⟨rfl, rfl⟩
  have hl3 : (b2 ++ leB o.syms.length 2).length = b2.length + 2 := by rw [List.length_append, leB_len]
  generalize hb3 : b2 ++ leB o.syms.length 2 = b3 at *
  (repeat (first | (simp (disch := (first | omega | (simp only [evF, evL, implies_true, and_self]; done) | fail)) only [evS, evZ, evX, evK, evB, evL, evR, Nat.reduceBEq, Nat.reduceAdd, Nat.reduceLeDiff, boxR, rboxR, allocR, fldR, binI, unR, pickR, mknilR, mkslR, buildSlR, buildR, extR, convI, eqB, evU, wrap64, bytes_ren, fldP, Bin.c1, Bin.c2, Bin.c3, Bin.len, hwS, hwY, hwR, hgood1]) | (with_reducible intro _) | ((with_reducible apply And.intro); omega)))
  refine call_own [(0, 0, 0), (1, 13, 0)] 2 _ (object_Encode_1_own b3 2 o.rels.length 2 (by omega) (by omega) (by omega) (by decide)) rfl rfl (by (try simp only [evW, evK, evB, evL, Nat.reduceBEq, Nat.reduceAdd, Nat.reduceSub, Nat.reduceLeDiff, Nat.reduceLT, implies_true, and_self, Int.natCast_zero, Int.natCast_one, Int.cast_ofNat_Int, evV, encInts, encNats, encBools, encP, bytesV]) <;> (repeat' with_reducible apply And.intro) <;> first | omega | exact vw_nats rfl rfl (by omega) | exact vw_ints rfl rfl (by omega) | exact vw_bools rfl rfl (by omega) | exact rowV_flat (by repeat' first | exact bytes_flat | exact flat1 | refine flat_app ?_ ?_) | exact rowV_fe (fun _ => rfl) | exact rowV_fe_start (c := cN) (fun _ => rfl) rfl | exact rowsV_fam (fun _ => rfl) (by decide) ⟨rfl, rfl⟩ trivial | exact rowsV_fam (fun _ => rfl) (by decide) (fun _ _ => ⟨rfl, rfl⟩) trivial | (simp; done)) (by (try simp only [evW, evK, evB, evL, Nat.reduceBEq, Nat.reduceAdd, Nat.reduceSub, Nat.reduceLeDiff, Nat.reduceLT, implies_true, and_self, Int.natCast_zero, Int.natCast_one, Int.cast_ofNat_Int, evV, encInts, encNats, encBools, encP, bytesV]) <;> (repeat' with_reducible apply And.intro) <;> first | omega | exact vw_nats rfl rfl (by omega) | exact vw_ints rfl rfl (by omega) | exact vw_bools rfl rfl (by omega) | exact rowV_flat (by repeat' first | exact bytes_flat | exact flat1 | refine flat_app ?_ ?_) | exact rowV_fe (fun _ => rfl) | exact rowV_fe_start (c := cN) (fun _ => rfl) rfl | exact rowsV_fam (fun _ => rfl) (by decide) ⟨rfl, rfl⟩ trivial | exact rowsV_fam (fun _ => rfl) (by decide) (fun _ _ => ⟨rfl, rfl⟩) trivial | (simp; done)) ?_
  rintro v4 H4 nx4 ⟨rfl, rfl⟩
  have hl4 : (b3 ++ leB o.rels.length 2).length = b3.length + 2 := by rw [List.length_append, leB_len]
  generalize hb4 : b3 ++ leB o.rels.length 2 = b4 at *
  (repeat (first | (simp (disch := (first | omega | (simp only [evF, evL, implies_true, and_self]; done) | fail)) only [evS, evZ, evX, evK, evB, evL, evR, Nat.reduceBEq, Nat.reduceAdd, Nat.reduceLeDiff, boxR, rboxR, allocR, fldR, binI, unR, pickR, mknilR, mkslR, buildSlR, buildR, extR, convI, eqB, evU, wrap64, bytes_ren, fldP, Bin.c1, Bin.c2, Bin.c3, Bin.len, hwS, hwY, hwR, hgood1]) | (with_reducible intro _) | ((with_reducible apply And.intro); omega)))
  have hhead : b4 = headB o := by rw [← hb4, ← hb3, ← hb2, ← hb1, hb0]; rfl
  subst hhead
  have hsl : ∀ s ∈ o.secs, (secB s).length ≤ 65578 := fun s hs => by have := hf.secs s hs; rw [secB_len]; omega
  have hbS := manyB_len hsl
  refine loopX_intro (fun i : Nat => ([(1, encP 4 o.cells), (5, .ptr 0 0 0 0 0), (6, .fn (.func f_object_Encode_1) [.ptr 0 0 0 0 0]), (7, .fn (.func f_object_Encode_2) [.ptr 0 0 0 0 0]), (46, encL 5 Sec.cells o.secs), (47, .int .i64 o.secs.length), (48, .int .i64 i)],
      [(0, .row 1 [[.own 1 0 0 0 (headB o ++ manyB secB o.secs i).length]] 0), (1, .row 1 ((headB o ++ manyB secB o.secs i).map cByte) 0)])) 2 (fun i => i ≤ o.secs.length) (fun i => o.secs.length - i) 0 (Nat.zero_le _) (Ent.tab [(0, 0, 0), (1, 17, 2)] [] rfl (by (try simp only [evW, evK, evB, evL, Nat.reduceBEq, Nat.reduceAdd, Nat.reduceSub, Nat.reduceLeDiff, Nat.reduceLT, implies_true, and_self, Int.natCast_zero, Int.natCast_one, Int.cast_ofNat_Int, evV, encInts, encNats, encBools, encP, manyB_zero, List.append_nil]) <;> (repeat' with_reducible apply And.intro) <;> first | omega | exact vw_nats rfl rfl (by omega) | exact vw_ints rfl rfl (by omega) | exact vw_bools rfl rfl (by omega) | exact rowV_flat (by repeat' first | exact bytes_flat | exact flat1 | refine flat_app ?_ ?_) | exact rowV_fe (fun _ => rfl) | exact rowV_fe_start (c := cN) (fun _ => rfl) rfl | exact rowsV_fam (fun _ => rfl) (by decide) ⟨rfl, rfl⟩ trivial | exact rowsV_fam (fun _ => rfl) (by decide) (fun _ _ => ⟨rfl, rfl⟩) trivial | (simp; done)) (by (try simp only [evW, evK, evB, evL, Nat.reduceBEq, Nat.reduceAdd, Nat.reduceSub, Nat.reduceLeDiff, Nat.reduceLT, implies_true, and_self, Int.natCast_zero, Int.natCast_one, Int.cast_ofNat_Int, evV, encInts, encNats, encBools, encP, manyB_zero, List.append_nil]) <;> (repeat' with_reducible apply And.intro) <;> first | omega | exact vw_nats rfl rfl (by omega) | exact vw_ints rfl rfl (by omega) | exact vw_bools rfl rfl (by omega) | exact rowV_flat (by repeat' first | exact bytes_flat | exact flat1 | refine flat_app ?_ ?_) | exact rowV_fe (fun _ => rfl) | exact rowV_fe_start (c := cN) (fun _ => rfl) rfl | exact rowsV_fam (fun _ => rfl) (by decide) ⟨rfl, rfl⟩ trivial | exact rowsV_fam (fun _ => rfl) (by decide) (fun _ _ => ⟨rfl, rfl⟩) trivial | (simp; done))) ?_
  intro i hi wf
  have hlb : (headB o ++ manyB secB o.secs i).length ≤ 13 + i * 65578 := by
    have := hbS i hi
    rw [List.length_append, headB_len]
    omega
  have hl0 : 0 < (headB o ++ manyB secB o.secs i).length := by rw [List.length_append, headB_len]; omega
  generalize hb : headB o ++ manyB secB o.secs i = b at *
  unfold ac_object_Encode_l0
  (repeat (first | (simp (disch := (first | omega | (simp only [evF, evL, implies_true, and_self]; done) | fail)) only [evS, evZ, evX, evK, evB, evL, evR, Nat.reduceBEq, Nat.reduceAdd, Nat.reduceLeDiff, boxR, rboxR, allocR, fldR, binI, unR, pickR, mknilR, mkslR, buildSlR, buildR, extR, convI, eqB, evU, wrap64]) | (with_reducible intro _) | ((with_reducible apply And.intro); omega)))
  (refine condX_intro (fun h => ?_) (fun h => ?_)) <;> (try simp only [decide_eq_true_eq, decide_eq_false_iff_not, Bool.not_eq_true', Bool.not_eq_false', Bool.and_eq_true, Bool.or_eq_true, not_true_eq_false, not_false_eq_true] at h)
  · have hi' : i < o.secs.length := by omega
    obtain ⟨hs1, hs2⟩ := hf.secs _ (List.getElem_mem hi')
    have hnext : headB o ++ manyB secB o.secs (i + 1) = b ++ secB o.secs[i] := by rw [manyB_succ hi', ← List.append_assoc, hb]
    have hfl : IntKind.u32.wrap ((if o.secs[i].wr = true then 1 else 0) + IntKind.u32.wrap (2 * if o.secs[i].ex = true then 1 else 0)) = ((flagsN o.secs[i] : Nat) : Int) := by
      unfold flagsN
      cases o.secs[i].wr <;> cases o.secs[i].ex <;> rfl
    have hfl2 : flagsN o.secs[i] < 4294967296 := by
      unfold flagsN
      cases o.secs[i].wr <;> cases o.secs[i].ex <;> decide
    have hwd : IntKind.u32.wrap (o.secs[i].data.length : Int) = (o.secs[i].data.length : Int) := wrapU32 (by omega) (by omega)
    (repeat (first | (simp (disch := (first | omega | (simp only [evF, evL, implies_true, and_self]; done) | fail)) only [evS, evZ, evX, evK, evB, evL, evR, Nat.reduceBEq, Nat.reduceAdd, Nat.reduceLeDiff, boxR, rboxR, allocR, fldR, binI, unR, pickR, mknilR, mkslR, buildSlR, buildR, extR, convI, eqB, evU, wrap64, getD_map hi', Sec.five, Sec.len, Sec.flat]) | (with_reducible intro _) | ((with_reducible apply And.intro); omega)))
    generalize o.secs[i] = s at *
    have hcell : ∀ x : Sec, (Sec.cells x).getD 3 .undef = .bool x.wr := fun _ => rfl
    (repeat (first | (simp (disch := (first | omega | (simp only [evF, evL, implies_true, and_self]; done) | fail)) only [evS, evZ, evX, evK, evB, evL, evR, Nat.reduceBEq, Nat.reduceAdd, Nat.reduceLeDiff, boxR, rboxR, allocR, fldR, binI, unR, pickR, mknilR, mkslR, buildSlR, buildR, extR, convI, eqB, evU, wrap64, Sec.c0, Sec.len, hgood2]) | (with_reducible intro _) | ((with_reducible apply And.intro); omega)))
    refine call_own [(0, 0, 0), (1, 1, 0)] 2 _ (object_Encode_2_own b 0 s.name hl0 (by omega) hs1) rfl rfl (by (try simp only [evW, evK, evB, evL, Nat.reduceBEq, Nat.reduceAdd, Nat.reduceSub, Nat.reduceLeDiff, Nat.reduceLT, implies_true, and_self, Int.natCast_zero, Int.natCast_one, Int.cast_ofNat_Int, evV, encInts, encNats, encBools, encP, bytesV]) <;> (repeat' with_reducible apply And.intro) <;> first | omega | exact vw_nats rfl rfl (by omega) | exact vw_ints rfl rfl (by omega) | exact vw_bools rfl rfl (by omega) | exact rowV_flat (by repeat' first | exact bytes_flat | exact flat1 | refine flat_app ?_ ?_) | exact rowV_fe (fun _ => rfl) | exact rowV_fe_start (c := cN) (fun _ => rfl) rfl | exact rowsV_fam (fun _ => rfl) (by decide) ⟨rfl, rfl⟩ trivial | exact rowsV_fam (fun _ => rfl) (by decide) (fun _ _ => ⟨rfl, rfl⟩) trivial | (simp; done)) (by (try simp only [evW, evK, evB, evL, Nat.reduceBEq, Nat.reduceAdd, Nat.reduceSub, Nat.reduceLeDiff, Nat.reduceLT, implies_true, and_self, Int.natCast_zero, Int.natCast_one, Int.cast_ofNat_Int, evV, encInts, encNats, encBools, encP, bytesV]) <;> (repeat' with_reducible apply And.intro) <;> first | omega | exact vw_nats rfl rfl (by omega) | exact vw_ints rfl rfl (by omega) | exact vw_bools rfl rfl (by omega) | exact rowV_flat (by repeat' first | exact bytes_flat | exact flat1 | refine flat_app ?_ ?_) | exact rowV_fe (fun _ => rfl) | exact rowV_fe_start (c := cN) (fun _ => rfl) rfl | exact rowsV_fam (fun _ => rfl) (by decide) ⟨rfl, rfl⟩ trivial | exact rowsV_fam (fun _ => rfl) (by decide) (fun _ _ => ⟨rfl, rfl⟩) trivial | (simp; done)) ?_
    rintro v5 H5 nx5 ⟨rfl, rfl⟩
    have hm1 : (b ++ txB s.name).length = b.length + (s.name.size + 1) := by rw [List.length_append, txB_len]
    generalize hc1 : b ++ txB s.name = c1 at *
    (repeat (first | (simp (disch := (first | omega | (simp only [evF, evL, implies_true, and_self]; done) | fail)) only [evS, evZ, evX, evK, evB, evL, evR, Nat.reduceBEq, Nat.reduceAdd, Nat.reduceLeDiff, boxR, rboxR, allocR, fldR, binI, unR, pickR, mknilR, mkslR, buildSlR, buildR, extR, convI, eqB, evU, wrap64, bytes_ren, Sec.c1, Sec.c2, Sec.c4, hcell, Sec.len, hwd, hgood1, hgood2]) | (with_reducible intro _) | ((with_reducible apply And.intro); omega)))
    refine call_own [(0, 0, 0), (1, 6, 0)] 2 _ (object_Encode_1_own c1 2 s.addr.toNat 4 (by omega) (by omega) (u32_lt _) (by decide)) rfl rfl (by (try simp only [evW, evK, evB, evL, Nat.reduceBEq, Nat.reduceAdd, Nat.reduceSub, Nat.reduceLeDiff, Nat.reduceLT, implies_true, and_self, Int.natCast_zero, Int.natCast_one, Int.cast_ofNat_Int, evV, encInts, encNats, encBools, encP, bytesV]) <;> (repeat' with_reducible apply And.intro) <;> first | omega | exact vw_nats rfl rfl (by omega) | exact vw_ints rfl rfl (by omega) | exact vw_bools rfl rfl (by omega) | exact rowV_flat (by repeat' first | exact bytes_flat | exact flat1 | refine flat_app ?_ ?_) | exact rowV_fe (fun _ => rfl) | exact rowV_fe_start (c := cN) (fun _ => rfl) rfl | exact rowsV_fam (fun _ => rfl) (by decide) ⟨rfl, rfl⟩ trivial | exact rowsV_fam (fun _ => rfl) (by decide) (fun _ _ => ⟨rfl, rfl⟩) trivial | (simp; done)) (by (try simp only [evW, evK, evB, evL, Nat.reduceBEq, Nat.reduceAdd, Nat.reduceSub, Nat.reduceLeDiff, Nat.reduceLT, implies_true, and_self, Int.natCast_zero, Int.natCast_one, Int.cast_ofNat_Int, evV, encInts, encNats, encBools, encP, bytesV]) <;> (repeat' with_reducible apply And.intro) <;> first | omega | exact vw_nats rfl rfl (by omega) | exact vw_ints rfl rfl (by omega) | exact vw_bools rfl rfl (by omega) | exact rowV_flat (by repeat' first | exact bytes_flat | exact flat1 | refine flat_app ?_ ?_) | exact rowV_fe (fun _ => rfl) | exact rowV_fe_start (c := cN) (fun _ => rfl) rfl | exact rowsV_fam (fun _ => rfl) (by decide) ⟨rfl, rfl⟩ trivial | exact rowsV_fam (fun _ => rfl) (by decide) (fun _ _ => ⟨rfl, rfl⟩) trivial | (simp; done)) ?_
    rintro v6 H6 nx6 ⟨rfl, rfl⟩
    have hm2 : (c1 ++ leB s.addr.toNat 4).length = c1.length + 4 := by rw [List.length_append, leB_len]
    generalize hc2 : c1 ++ leB s.addr.toNat 4 = c2 at *
    (repeat (first | (simp (disch := (first | omega | (simp only [evF, evL, implies_true, and_self]; done) | fail)) only [evS, evZ, evX, evK, evB, evL, evR, Nat.reduceBEq, Nat.reduceAdd, Nat.reduceLeDiff, boxR, rboxR, allocR, fldR, binI, unR, pickR, mknilR, mkslR, buildSlR, buildR, extR, convI, eqB, evU, wrap64, bytes_ren, Sec.c1, Sec.c2, Sec.c4, hcell, Sec.len, hwd, hgood1, hgood2]) | (with_reducible intro _) | ((with_reducible apply And.intro); omega)))
    refine ⟨⟨?_, ?_⟩, ?_⟩
    all_goals
      refine callqX_fix (call_flat (object_truth_ok _) rfl) ?_
      (repeat (first | (simp (disch := (first | omega | (simp only [evF, evL, implies_true, and_self]; done) | fail)) only [evS, evZ, evX, evK, evB, evL, evR, Nat.reduceBEq, Nat.reduceAdd, Nat.reduceLeDiff, boxR, rboxR, allocR, fldR, binI, unR, pickR, mknilR, mkslR, buildSlR, buildR, extR, convI, eqB, evU, wrap64, Sec.c4, hcell, Sec.len]) | (with_reducible intro _) | ((with_reducible apply And.intro); omega)))
      refine callqX_fix (call_flat (object_truth_ok _) rfl) ?_
      (repeat (first | (simp (disch := (first | omega | (simp only [evF, evL, implies_true, and_self]; done) | fail)) only [evS, evZ, evX, evK, evB, evL, evR, Nat.reduceBEq, Nat.reduceAdd, Nat.reduceLeDiff, boxR, rboxR, allocR, fldR, binI, unR, pickR, mknilR, mkslR, buildSlR, buildR, extR, convI, eqB, evU, wrap64, hfl, hgood1]) | (with_reducible intro _) | ((with_reducible apply And.intro); omega)))
      refine call_own [(0, 0, 0), (1, 10, 0)] 2 _ (object_Encode_1_own c2 4 (flagsN s) 1 (by omega) (by omega) hfl2 (by decide)) rfl rfl (by (try simp only [evW, evK, evB, evL, Nat.reduceBEq, Nat.reduceAdd, Nat.reduceSub, Nat.reduceLeDiff, Nat.reduceLT, implies_true, and_self, Int.natCast_zero, Int.natCast_one, Int.cast_ofNat_Int, evV, encInts, encNats, encBools, encP, bytesV]) <;> (repeat' with_reducible apply And.intro) <;> first | omega | exact vw_nats rfl rfl (by omega) | exact vw_ints rfl rfl (by omega) | exact vw_bools rfl rfl (by omega) | exact rowV_flat (by repeat' first | exact bytes_flat | exact flat1 | refine flat_app ?_ ?_) | exact rowV_fe (fun _ => rfl) | exact rowV_fe_start (c := cN) (fun _ => rfl) rfl | exact rowsV_fam (fun _ => rfl) (by decide) ⟨rfl, rfl⟩ trivial | exact rowsV_fam (fun _ => rfl) (by decide) (fun _ _ => ⟨rfl, rfl⟩) trivial | (simp; done)) (by (try simp only [evW, evK, evB, evL, Nat.reduceBEq, Nat.reduceAdd, Nat.reduceSub, Nat.reduceLeDiff, Nat.reduceLT, implies_true, and_self, Int.natCast_zero, Int.natCast_one, Int.cast_ofNat_Int, evV, encInts, encNats, encBools, encP, bytesV]) <;> (repeat' with_reducible apply And.intro) <;> first | omega | exact vw_nats rfl rfl (by omega) | exact vw_ints rfl rfl (by omega) | exact vw_bools rfl rfl (by omega) | exact rowV_flat (by repeat' first | exact bytes_flat | exact flat1 | refine flat_app ?_ ?_) | exact rowV_fe (fun _ => rfl) | exact rowV_fe_start (c := cN) (fun _ => rfl) rfl | exact rowsV_fam (fun _ => rfl) (by decide) ⟨rfl, rfl⟩ trivial | exact rowsV_fam (fun _ => rfl) (by decide) (fun _ _ => ⟨rfl, rfl⟩) trivial | (simp; done)) ?_
      rintro v7 H7 nx7 ⟨rfl, rfl⟩
      have hm3 : (c2 ++ leB (flagsN s) 1).length = c2.length + 1 := by rw [List.length_append, leB_len]
      generalize hc3 : c2 ++ leB (flagsN s) 1 = c3 at *
      (repeat (first | (simp (disch := (first | omega | (simp only [evF, evL, implies_true, and_self]; done) | fail)) only [evS, evZ, evX, evK, evB, evL, evR, Nat.reduceBEq, Nat.reduceAdd, Nat.reduceLeDiff, boxR, rboxR, allocR, fldR, binI, unR, pickR, mknilR, mkslR, buildSlR, buildR, extR, convI, eqB, evU, wrap64, bytes_ren, Sec.c1, Sec.c2, Sec.c4, hcell, Sec.len, hwd, hgood1, hgood2]) | (with_reducible intro _) | ((with_reducible apply And.intro); omega)))
      refine call_own [(0, 0, 0), (1, 14, 0)] 2 _ (object_Encode_1_own c3 1 s.data.length 4 (by omega) (by omega) (by omega) (by decide)) rfl rfl (by (try simp only [evW, evK, evB, evL, Nat.reduceBEq, Nat.reduceAdd, Nat.reduceSub, Nat.reduceLeDiff, Nat.reduceLT, implies_true, and_self, Int.natCast_zero, Int.natCast_one, Int.cast_ofNat_Int, evV, encInts, encNats, encBools, encP, bytesV]) <;> (repeat' with_reducible apply And.intro) <;> first | omega | exact vw_nats rfl rfl (by omega) | exact vw_ints rfl rfl (by omega) | exact vw_bools rfl rfl (by omega) | exact rowV_flat (by repeat' first | exact bytes_flat | exact flat1 | refine flat_app ?_ ?_) | exact rowV_fe (fun _ => rfl) | exact rowV_fe_start (c := cN) (fun _ => rfl) rfl | exact rowsV_fam (fun _ => rfl) (by decide) ⟨rfl, rfl⟩ trivial | exact rowsV_fam (fun _ => rfl) (by decide) (fun _ _ => ⟨rfl, rfl⟩) trivial | (simp; done)) (by (try simp only [evW, evK, evB, evL, Nat.reduceBEq, Nat.reduceAdd, Nat.reduceSub, Nat.reduceLeDiff, Nat.reduceLT, implies_true, and_self, Int.natCast_zero, Int.natCast_one, Int.cast_ofNat_Int, evV, encInts, encNats, encBools, encP, bytesV]) <;> (repeat' with_reducible apply And.intro) <;> first | omega | exact vw_nats rfl rfl (by omega) | exact vw_ints rfl rfl (by omega) | exact vw_bools rfl rfl (by omega) | exact rowV_flat (by repeat' first | exact bytes_flat | exact flat1 | refine flat_app ?_ ?_) | exact rowV_fe (fun _ => rfl) | exact rowV_fe_start (c := cN) (fun _ => rfl) rfl | exact rowsV_fam (fun _ => rfl) (by decide) ⟨rfl, rfl⟩ trivial | exact rowsV_fam (fun _ => rfl) (by decide) (fun _ _ => ⟨rfl, rfl⟩) trivial | (simp; done)) ?_
      rintro v8 H8 nx8 ⟨rfl, rfl⟩
      have hm4 : (c3 ++ leB s.data.length 4).length = c3.length + 4 := by rw [List.length_append, leB_len]
      generalize hc4 : c3 ++ leB s.data.length 4 = c4 at *
      (repeat (first | (simp (disch := (first | omega | (simp only [evF, evL, implies_true, and_self]; done) | fail)) only [evS, evZ, evX, evK, evB, evL, evR, Nat.reduceBEq, Nat.reduceAdd, Nat.reduceLeDiff, boxR, rboxR, allocR, fldR, binI, unR, pickR, mknilR, mkslR, buildSlR, buildR, extR, convI, eqB, evU, wrap64, bytes_ren, Sec.c1, Sec.c2, Sec.c4, hcell, Sec.len, hwd, hgood1, hgood2]) | (with_reducible intro _) | ((with_reducible apply And.intro); omega)))
      have hnext2 : headB o ++ manyB secB o.secs (i + 1) = c4 ++ s.data := by rw [hnext, ← hc4, ← hc3, ← hc2, ← hc1]; simp [secB, List.append_assoc]
      have hge := full_ge (o := o) (k := i + 1) (by omega)
      rw [hnext2, List.length_append] at hge
      (refine condX_intro (fun h6 => ?_) (fun h6 => ?_)) <;> (try simp only [decide_eq_true_eq, decide_eq_false_iff_not, Bool.not_eq_true', Bool.not_eq_false', Bool.and_eq_true, Bool.or_eq_true, not_true_eq_false, not_false_eq_true] at h6)
      · rw [encodeO_long h1 (by omega)]
        (repeat (first | (simp (disch := (first | omega | (simp only [evF, evL, implies_true, and_self]; done) | fail)) only [evS, evZ, evX, evK, evB, evL, evR, Nat.reduceBEq, Nat.reduceAdd, Nat.reduceLeDiff, boxR, rboxR, allocR, fldR, binI, unR, pickR, mknilR, mkslR, buildSlR, buildR, extR, convI, eqB, evU, wrap64, rs_object_Encode]) | (with_reducible intro _) | ((with_reducible apply And.intro); omega)))
        exact ⟨_, frz_nilE rfl, rfl⟩
      · have hel : ∀ {H : AH}, elsOf 1 (encL 1 cByte s.data) H = some (s.data.map cByte) := fun {H} => elsOf_encL (fun _ _ => rfl)
        (repeat (first | (simp (disch := (first | omega | (simp only [evF, evL, implies_true, and_self]; done) | fail)) only [evS, evZ, evX, evK, evB, evL, evR, Nat.reduceBEq, Nat.reduceAdd, Nat.reduceLeDiff, boxR, rboxR, allocR, fldR, binI, unR, pickR, mknilR, mkslR, buildSlR, buildR, extR, convI, eqB, evU, wrap64, takeB, hel, Sec.c2, Sec.len]) | (with_reducible intro _) | ((with_reducible apply And.intro); omega)))
        exact ⟨i + 1, by omega, by omega, (Ent.tab [(0, 0, 0), (1, 18, 5)] [] rfl (by (try simp only [evW, evK, evB, evL, Nat.reduceBEq, Nat.reduceAdd, Nat.reduceSub, Nat.reduceLeDiff, Nat.reduceLT, implies_true, and_self, Int.natCast_zero, Int.natCast_one, Int.cast_ofNat_Int, evV, encInts, encNats, encBools, encP, hnext2, List.length_append]) <;> (repeat' with_reducible apply And.intro) <;> first | omega | exact vw_nats rfl rfl (by omega) | exact vw_ints rfl rfl (by omega) | exact vw_bools rfl rfl (by omega) | exact rowV_flat (by repeat' first | exact bytes_flat | exact flat1 | refine flat_app ?_ ?_) | exact rowV_fe (fun _ => rfl) | exact rowV_fe_start (c := cN) (fun _ => rfl) rfl | exact rowsV_fam (fun _ => rfl) (by decide) ⟨rfl, rfl⟩ trivial | exact rowsV_fam (fun _ => rfl) (by decide) (fun _ _ => ⟨rfl, rfl⟩) trivial | (simp; done)) (by (try simp only [evW, evK, evB, evL, Nat.reduceBEq, Nat.reduceAdd, Nat.reduceSub, Nat.reduceLeDiff, Nat.reduceLT, implies_true, and_self, Int.natCast_zero, Int.natCast_one, Int.cast_ofNat_Int, evV, encInts, encNats, encBools, encP, hnext2, List.length_append]) <;> (repeat' with_reducible apply And.intro) <;> first | omega | exact vw_nats rfl rfl (by omega) | exact vw_ints rfl rfl (by omega) | exact vw_bools rfl rfl (by omega) | exact rowV_flat (by repeat' first | exact bytes_flat | exact flat1 | refine flat_app ?_ ?_) | exact rowV_fe (fun _ => rfl) | exact rowV_fe_start (c := cN) (fun _ => rfl) rfl | exact rowsV_fam (fun _ => rfl) (by decide) ⟨rfl, rfl⟩ trivial | exact rowsV_fam (fun _ => rfl) (by decide) (fun _ _ => ⟨rfl, rfl⟩) trivial | (simp; done)))⟩
  have hiS : i = o.secs.length := by omega
  subst hiS
  unfold ac_object_Encode_k5
  (repeat (first | (simp (disch := (first | omega | (simp only [evF, evL, implies_true, and_self]; done) | fail)) only [evS, evZ, evX, evK, evB, evL, evR, Nat.reduceBEq, Nat.reduceAdd, Nat.reduceLeDiff, boxR, rboxR, allocR, fldR, binI, unR, pickR, mknilR, mkslR, buildSlR, buildR, extR, convI, eqB, evU, wrap64, fldP, Bin.c2, Bin.len]) | (with_reducible intro _) | ((with_reducible apply And.intro); omega)))
  have hlY : ∀ s ∈ o.syms, (symB s).length ≤ 38 := fun s hs => by have := hf.syms s hs; rw [symB_len]; omega
  have hbY := manyB_len hlY
  refine loopX_intro (fun i : Nat => ([(1, encP 4 o.cells), (5, .ptr 0 0 0 0 0), (6, .fn (.func f_object_Encode_1) [.ptr 0 0 0 0 0]), (7, .fn (.func f_object_Encode_2) [.ptr 0 0 0 0 0]), (89, encL 3 Sym.cells o.syms), (90, .int .i64 o.syms.length), (91, .int .i64 i)],
      [(0, .row 1 [[.own 1 0 0 0 (b ++ manyB symB o.syms i).length]] 0), (1, .row 1 ((b ++ manyB symB o.syms i).map cByte) 0)])) 2 (fun i => i ≤ o.syms.length) (fun i => o.syms.length - i) 0 (Nat.zero_le _) (Ent.tab [(0, 0, 0), (1, 1, 0)] [] rfl (by (try simp only [evW, evK, evB, evL, Nat.reduceBEq, Nat.reduceAdd, Nat.reduceSub, Nat.reduceLeDiff, Nat.reduceLT, implies_true, and_self, Int.natCast_zero, Int.natCast_one, Int.cast_ofNat_Int, evV, encInts, encNats, encBools, encP, manyB_zero, List.append_nil]) <;> (repeat' with_reducible apply And.intro) <;> first | omega | exact vw_nats rfl rfl (by omega) | exact vw_ints rfl rfl (by omega) | exact vw_bools rfl rfl (by omega) | exact rowV_flat (by repeat' first | exact bytes_flat | exact flat1 | refine flat_app ?_ ?_) | exact rowV_fe (fun _ => rfl) | exact rowV_fe_start (c := cN) (fun _ => rfl) rfl | exact rowsV_fam (fun _ => rfl) (by decide) ⟨rfl, rfl⟩ trivial | exact rowsV_fam (fun _ => rfl) (by decide) (fun _ _ => ⟨rfl, rfl⟩) trivial | (simp; done)) (by (try simp only [evW, evK, evB, evL, Nat.reduceBEq, Nat.reduceAdd, Nat.reduceSub, Nat.reduceLeDiff, Nat.reduceLT, implies_true, and_self, Int.natCast_zero, Int.natCast_one, Int.cast_ofNat_Int, evV, encInts, encNats, encBools, encP, manyB_zero, List.append_nil]) <;> (repeat' with_reducible apply And.intro) <;> first | omega | exact vw_nats rfl rfl (by omega) | exact vw_ints rfl rfl (by omega) | exact vw_bools rfl rfl (by omega) | exact rowV_flat (by repeat' first | exact bytes_flat | exact flat1 | refine flat_app ?_ ?_) | exact rowV_fe (fun _ => rfl) | exact rowV_fe_start (c := cN) (fun _ => rfl) rfl | exact rowsV_fam (fun _ => rfl) (by decide) ⟨rfl, rfl⟩ trivial | exact rowsV_fam (fun _ => rfl) (by decide) (fun _ _ => ⟨rfl, rfl⟩) trivial | (simp; done))) ?_
  intro i hi wf
  have hly : (b ++ manyB symB o.syms i).length ≤ 1049261 + i * 38 := by
    have := hbY i hi
    rw [List.length_append]
    omega
  have hly0 : 0 < (b ++ manyB symB o.syms i).length := by rw [List.length_append]; omega
  generalize hby : b ++ manyB symB o.syms i = d at *
  unfold ac_object_Encode_l1
  (repeat (first | (simp (disch := (first | omega | (simp only [evF, evL, implies_true, and_self]; done) | fail)) only [evS, evZ, evX, evK, evB, evL, evR, Nat.reduceBEq, Nat.reduceAdd, Nat.reduceLeDiff, boxR, rboxR, allocR, fldR, binI, unR, pickR, mknilR, mkslR, buildSlR, buildR, extR, convI, eqB, evU, wrap64]) | (with_reducible intro _) | ((with_reducible apply And.intro); omega)))
  (refine condX_intro (fun h => ?_) (fun h => ?_)) <;> (try simp only [decide_eq_true_eq, decide_eq_false_iff_not, Bool.not_eq_true', Bool.not_eq_false', Bool.and_eq_true, Bool.or_eq_true, not_true_eq_false, not_false_eq_true] at h)
  · have hi' : i < o.syms.length := by omega
    obtain ⟨hs1, hs2⟩ := hf.syms _ (List.getElem_mem hi')
    have hnext : b ++ manyB symB o.syms (i + 1) = d ++ symB o.syms[i] := by rw [manyB_succ hi', ← List.append_assoc, hby]
    have hkd : IntKind.u32.wrap o.syms[i].kind = ((o.syms[i].kind.toNat : Nat) : Int) := by
      rcases hs2 with e | e <;> rw [e] <;> rfl
    have hkl : o.syms[i].kind.toNat < 4294967296 := by omega
    (repeat (first | (simp (disch := (first | omega | (simp only [evF, evL, implies_true, and_self]; done) | fail)) only [evS, evZ, evX, evK, evB, evL, evR, Nat.reduceBEq, Nat.reduceAdd, Nat.reduceLeDiff, boxR, rboxR, allocR, fldR, binI, unR, pickR, mknilR, mkslR, buildSlR, buildR, extR, convI, eqB, evU, wrap64, getD_map hi', Sym.three, Sym.len, Sym.flat]) | (with_reducible intro _) | ((with_reducible apply And.intro); omega)))
    generalize o.syms[i] = s at *
    have hc1 : (Sym.cells s).getD 1 .undef = .int .u32 (s.addr.toNat : Int) := rfl
    (repeat (first | (simp (disch := (first | omega | (simp only [evF, evL, implies_true, and_self]; done) | fail)) only [evS, evZ, evX, evK, evB, evL, evR, Nat.reduceBEq, Nat.reduceAdd, Nat.reduceLeDiff, boxR, rboxR, allocR, fldR, binI, unR, pickR, mknilR, mkslR, buildSlR, buildR, extR, convI, eqB, evU, wrap64, Sym.c0, Sym.len, hgood2]) | (with_reducible intro _) | ((with_reducible apply And.intro); omega)))
    refine call_own [(0, 0, 0), (1, 1, 0)] 2 _ (object_Encode_2_own d 0 s.name hly0 (by omega) hs1) rfl rfl (by (try simp only [evW, evK, evB, evL, Nat.reduceBEq, Nat.reduceAdd, Nat.reduceSub, Nat.reduceLeDiff, Nat.reduceLT, implies_true, and_self, Int.natCast_zero, Int.natCast_one, Int.cast_ofNat_Int, evV, encInts, encNats, encBools, encP, bytesV]) <;> (repeat' with_reducible apply And.intro) <;> first | omega | exact vw_nats rfl rfl (by omega) | exact vw_ints rfl rfl (by omega) | exact vw_bools rfl rfl (by omega) | exact rowV_flat (by repeat' first | exact bytes_flat | exact flat1 | refine flat_app ?_ ?_) | exact rowV_fe (fun _ => rfl) | exact rowV_fe_start (c := cN) (fun _ => rfl) rfl | exact rowsV_fam (fun _ => rfl) (by decide) ⟨rfl, rfl⟩ trivial | exact rowsV_fam (fun _ => rfl) (by decide) (fun _ _ => ⟨rfl, rfl⟩) trivial | (simp; done)) (by (try simp only [evW, evK, evB, evL, Nat.reduceBEq, Nat.reduceAdd, Nat.reduceSub, Nat.reduceLeDiff, Nat.reduceLT, implies_true, and_self, Int.natCast_zero, Int.natCast_one, Int.cast_ofNat_Int, evV, encInts, encNats, encBools, encP, bytesV]) <;> (repeat' with_reducible apply And.intro) <;> first | omega | exact vw_nats rfl rfl (by omega) | exact vw_ints rfl rfl (by omega) | exact vw_bools rfl rfl (by omega) | exact rowV_flat (by repeat' first | exact bytes_flat | exact flat1 | refine flat_app ?_ ?_) | exact rowV_fe (fun _ => rfl) | exact rowV_fe_start (c := cN) (fun _ => rfl) rfl | exact rowsV_fam (fun _ => rfl) (by decide) ⟨rfl, rfl⟩ trivial | exact rowsV_fam (fun _ => rfl) (by decide) (fun _ _ => ⟨rfl, rfl⟩) trivial | (simp; done)) ?_
    rintro v5 H5 nx5 ⟨rfl, rfl⟩
    have hm1 : (d ++ txB s.name).length = d.length + (s.name.size + 1) := by rw [List.length_append, txB_len]
    generalize hd1 : d ++ txB s.name = d1 at *
    (repeat (first | (simp (disch := (first | omega | (simp only [evF, evL, implies_true, and_self]; done) | fail)) only [evS, evZ, evX, evK, evB, evL, evR, Nat.reduceBEq, Nat.reduceAdd, Nat.reduceLeDiff, boxR, rboxR, allocR, fldR, binI, unR, pickR, mknilR, mkslR, buildSlR, buildR, extR, convI, eqB, evU, wrap64, bytes_ren, Sym.c2, hc1, Sym.len, hkd, hgood1, hgood2]) | (with_reducible intro _) | ((with_reducible apply And.intro); omega)))
    refine call_own [(0, 0, 0), (1, 6, 0)] 2 _ (object_Encode_1_own d1 2 s.addr.toNat 4 (by omega) (by omega) (u32_lt _) (by decide)) rfl rfl (by (try simp only [evW, evK, evB, evL, Nat.reduceBEq, Nat.reduceAdd, Nat.reduceSub, Nat.reduceLeDiff, Nat.reduceLT, implies_true, and_self, Int.natCast_zero, Int.natCast_one, Int.cast_ofNat_Int, evV, encInts, encNats, encBools, encP, bytesV]) <;> (repeat' with_reducible apply And.intro) <;> first | omega | exact vw_nats rfl rfl (by omega) | exact vw_ints rfl rfl (by omega) | exact vw_bools rfl rfl (by omega) | exact rowV_flat (by repeat' first | exact bytes_flat | exact flat1 | refine flat_app ?_ ?_) | exact rowV_fe (fun _ => rfl) | exact rowV_fe_start (c := cN) (fun _ => rfl) rfl | exact rowsV_fam (fun _ => rfl) (by decide) ⟨rfl, rfl⟩ trivial | exact rowsV_fam (fun _ => rfl) (by decide) (fun _ _ => ⟨rfl, rfl⟩) trivial | (simp; done)) (by (try simp only [evW, evK, evB, evL, Nat.reduceBEq, Nat.reduceAdd, Nat.reduceSub, Nat.reduceLeDiff, Nat.reduceLT, implies_true, and_self, Int.natCast_zero, Int.natCast_one, Int.cast_ofNat_Int, evV, encInts, encNats, encBools, encP, bytesV]) <;> (repeat' with_reducible apply And.intro) <;> first | omega | exact vw_nats rfl rfl (by omega) | exact vw_ints rfl rfl (by omega) | exact vw_bools rfl rfl (by omega) | exact rowV_flat (by repeat' first | exact bytes_flat | exact flat1 | refine flat_app ?_ ?_) | exact rowV_fe (fun _ => rfl) | exact rowV_fe_start (c := cN) (fun _ => rfl) rfl | exact rowsV_fam (fun _ => rfl) (by decide) ⟨rfl, rfl⟩ trivial | exact rowsV_fam (fun _ => rfl) (by decide) (fun _ _ => ⟨rfl, rfl⟩) trivial | (simp; done)) ?_
    rintro v6 H6 nx6 ⟨rfl, rfl⟩
    have hm2 : (d1 ++ leB s.addr.toNat 4).length = d1.length + 4 := by rw [List.length_append, leB_len]
    generalize hd2 : d1 ++ leB s.addr.toNat 4 = d2 at *
    (repeat (first | (simp (disch := (first | omega | (simp only [evF, evL, implies_true, and_self]; done) | fail)) only [evS, evZ, evX, evK, evB, evL, evR, Nat.reduceBEq, Nat.reduceAdd, Nat.reduceLeDiff, boxR, rboxR, allocR, fldR, binI, unR, pickR, mknilR, mkslR, buildSlR, buildR, extR, convI, eqB, evU, wrap64, bytes_ren, Sym.c2, hc1, Sym.len, hkd, hgood1, hgood2]) | (with_reducible intro _) | ((with_reducible apply And.intro); omega)))
    refine call_own [(0, 0, 0), (1, 10, 0)] 2 _ (object_Encode_1_own d2 4 s.kind.toNat 1 (by omega) (by omega) hkl (by decide)) rfl rfl (by (try simp only [evW, evK, evB, evL, Nat.reduceBEq, Nat.reduceAdd, Nat.reduceSub, Nat.reduceLeDiff, Nat.reduceLT, implies_true, and_self, Int.natCast_zero, Int.natCast_one, Int.cast_ofNat_Int, evV, encInts, encNats, encBools, encP, bytesV]) <;> (repeat' with_reducible apply And.intro) <;> first | omega | exact vw_nats rfl rfl (by omega) | exact vw_ints rfl rfl (by omega) | exact vw_bools rfl rfl (by omega) | exact rowV_flat (by repeat' first | exact bytes_flat | exact flat1 | refine flat_app ?_ ?_) | exact rowV_fe (fun _ => rfl) | exact rowV_fe_start (c := cN) (fun _ => rfl) rfl | exact rowsV_fam (fun _ => rfl) (by decide) ⟨rfl, rfl⟩ trivial | exact rowsV_fam (fun _ => rfl) (by decide) (fun _ _ => ⟨rfl, rfl⟩) trivial | (simp; done)) (by (try simp only [evW, evK, evB, evL, Nat.reduceBEq, Nat.reduceAdd, Nat.reduceSub, Nat.reduceLeDiff, Nat.reduceLT, implies_true, and_self, Int.natCast_zero, Int.natCast_one, Int.cast_ofNat_Int, evV, encInts, encNats, encBools, encP, bytesV]) <;> (repeat' with_reducible apply And.intro) <;> first | omega | exact vw_nats rfl rfl (by omega) | exact vw_ints rfl rfl (by omega) | exact vw_bools rfl rfl (by omega) | exact rowV_flat (by repeat' first | exact bytes_flat | exact flat1 | refine flat_app ?_ ?_) | exact rowV_fe (fun _ => rfl) | exact rowV_fe_start (c := cN) (fun _ => rfl) rfl | exact rowsV_fam (fun _ => rfl) (by decide) ⟨rfl, rfl⟩ trivial | exact rowsV_fam (fun _ => rfl) (by decide) (fun _ _ => ⟨rfl, rfl⟩) trivial | (simp; done)) ?_
    rintro v7 H7 nx7 ⟨rfl, rfl⟩
    have hm3 : (d2 ++ leB s.kind.toNat 1).length = d2.length + 1 := by rw [List.length_append, leB_len]
    generalize hd3 : d2 ++ leB s.kind.toNat 1 = d3 at *
    (repeat (first | (simp (disch := (first | omega | (simp only [evF, evL, implies_true, and_self]; done) | fail)) only [evS, evZ, evX, evK, evB, evL, evR, Nat.reduceBEq, Nat.reduceAdd, Nat.reduceLeDiff, boxR, rboxR, allocR, fldR, binI, unR, pickR, mknilR, mkslR, buildSlR, buildR, extR, convI, eqB, evU, wrap64, bytes_ren, Sym.c2, hc1, Sym.len, hkd, hgood1, hgood2]) | (with_reducible intro _) | ((with_reducible apply And.intro); omega)))
    have hnext2 : b ++ manyB symB o.syms (i + 1) = d3 := by rw [hnext, ← hd3, ← hd2, ← hd1]; simp [symB, List.append_assoc]
    exact ⟨i + 1, by omega, by omega, (Ent.tab [(0, 0, 0), (1, 14, 1)] [] rfl (by (try simp only [evW, evK, evB, evL, Nat.reduceBEq, Nat.reduceAdd, Nat.reduceSub, Nat.reduceLeDiff, Nat.reduceLT, implies_true, and_self, Int.natCast_zero, Int.natCast_one, Int.cast_ofNat_Int, evV, encInts, encNats, encBools, encP, hnext2]) <;> (repeat' with_reducible apply And.intro) <;> first | omega | exact vw_nats rfl rfl (by omega) | exact vw_ints rfl rfl (by omega) | exact vw_bools rfl rfl (by omega) | exact rowV_flat (by repeat' first | exact bytes_flat | exact flat1 | refine flat_app ?_ ?_) | exact rowV_fe (fun _ => rfl) | exact rowV_fe_start (c := cN) (fun _ => rfl) rfl | exact rowsV_fam (fun _ => rfl) (by decide) ⟨rfl, rfl⟩ trivial | exact rowsV_fam (fun _ => rfl) (by decide) (fun _ _ => ⟨rfl, rfl⟩) trivial | (simp; done)) (by (try simp only [evW, evK, evB, evL, Nat.reduceBEq, Nat.reduceAdd, Nat.reduceSub, Nat.reduceLeDiff, Nat.reduceLT, implies_true, and_self, Int.natCast_zero, Int.natCast_one, Int.cast_ofNat_Int, evV, encInts, encNats, encBools, encP, hnext2]) <;> (repeat' with_reducible apply And.intro) <;> first | omega | exact vw_nats rfl rfl (by omega) | exact vw_ints rfl rfl (by omega) | exact vw_bools rfl rfl (by omega) | exact rowV_flat (by repeat' first | exact bytes_flat | exact flat1 | refine flat_app ?_ ?_) | exact rowV_fe (fun _ => rfl) | exact rowV_fe_start (c := cN) (fun _ => rfl) rfl | exact rowsV_fam (fun _ => rfl) (by decide) ⟨rfl, rfl⟩ trivial | exact rowsV_fam (fun _ => rfl) (by decide) (fun _ _ => ⟨rfl, rfl⟩) trivial | (simp; done)))⟩
  have hiY : i = o.syms.length := by omega
  subst hiY
  unfold ac_object_Encode_k4
  (repeat (first | (simp (disch := (first | omega | (simp only [evF, evL, implies_true, and_self]; done) | fail)) only [evS, evZ, evX, evK, evB, evL, evR, Nat.reduceBEq, Nat.reduceAdd, Nat.reduceLeDiff, boxR, rboxR, allocR, fldR, binI, unR, pickR, mknilR, mkslR, buildSlR, buildR, extR, convI, eqB, evU, wrap64, fldP, Bin.c3, Bin.len]) | (with_reducible intro _) | ((with_reducible apply And.intro); omega)))
  have hlR : ∀ r ∈ o.rels, (relB r).length ≤ 43 := fun r hr => by have := hf.rels r hr; rw [relB_len]; omega
  have hbR := manyB_len hlR
  refine loopX_intro (fun i : Nat => ([(5, .ptr 0 0 0 0 0), (6, .fn (.func f_object_Encode_1) [.ptr 0 0 0 0 0]), (7, .fn (.func f_object_Encode_2) [.ptr 0 0 0 0 0]), (110, encL 5 Rel.cells o.rels), (111, .int .i64 o.rels.length), (112, .int .i64 i)],
      [(0, .row 1 [[.own 1 0 0 0 (d ++ manyB relB o.rels i).length]] 0), (1, .row 1 ((d ++ manyB relB o.rels i).map cByte) 0)])) 2 (fun i => i ≤ o.rels.length) (fun i => o.rels.length - i) 0 (Nat.zero_le _) (Ent.tab [(0, 0, 0), (1, 1, 0)] [] rfl (by (try simp only [evW, evK, evB, evL, Nat.reduceBEq, Nat.reduceAdd, Nat.reduceSub, Nat.reduceLeDiff, Nat.reduceLT, implies_true, and_self, Int.natCast_zero, Int.natCast_one, Int.cast_ofNat_Int, evV, encInts, encNats, encBools, encP, manyB_zero, List.append_nil]) <;> (repeat' with_reducible apply And.intro) <;> first | omega | exact vw_nats rfl rfl (by omega) | exact vw_ints rfl rfl (by omega) | exact vw_bools rfl rfl (by omega) | exact rowV_flat (by repeat' first | exact bytes_flat | exact flat1 | refine flat_app ?_ ?_) | exact rowV_fe (fun _ => rfl) | exact rowV_fe_start (c := cN) (fun _ => rfl) rfl | exact rowsV_fam (fun _ => rfl) (by decide) ⟨rfl, rfl⟩ trivial | exact rowsV_fam (fun _ => rfl) (by decide) (fun _ _ => ⟨rfl, rfl⟩) trivial | (simp; done)) (by (try simp only [evW, evK, evB, evL, Nat.reduceBEq, Nat.reduceAdd, Nat.reduceSub, Nat.reduceLeDiff, Nat.reduceLT, implies_true, and_self, Int.natCast_zero, Int.natCast_one, Int.cast_ofNat_Int, evV, encInts, encNats, encBools, encP, manyB_zero, List.append_nil]) <;> (repeat' with_reducible apply And.intro) <;> first | omega | exact vw_nats rfl rfl (by omega) | exact vw_ints rfl rfl (by omega) | exact vw_bools rfl rfl (by omega) | exact rowV_flat (by repeat' first | exact bytes_flat | exact flat1 | refine flat_app ?_ ?_) | exact rowV_fe (fun _ => rfl) | exact rowV_fe_start (c := cN) (fun _ => rfl) rfl | exact rowsV_fam (fun _ => rfl) (by decide) ⟨rfl, rfl⟩ trivial | exact rowsV_fam (fun _ => rfl) (by decide) (fun _ _ => ⟨rfl, rfl⟩) trivial | (simp; done))) ?_
  intro i hi wf
  have hlz : (d ++ manyB relB o.rels i).length ≤ 1058989 + i * 43 := by
    have := hbR i hi
    rw [List.length_append]
    omega
  have hlz0 : 0 < (d ++ manyB relB o.rels i).length := by rw [List.length_append]; omega
  generalize hbz : d ++ manyB relB o.rels i = u at *
  unfold ac_object_Encode_l2
  (repeat (first | (simp (disch := (first | omega | (simp only [evF, evL, implies_true, and_self]; done) | fail)) only [evS, evZ, evX, evK, evB, evL, evR, Nat.reduceBEq, Nat.reduceAdd, Nat.reduceLeDiff, boxR, rboxR, allocR, fldR, binI, unR, pickR, mknilR, mkslR, buildSlR, buildR, extR, convI, eqB, evU, wrap64]) | (with_reducible intro _) | ((with_reducible apply And.intro); omega)))
  (refine condX_intro (fun h => ?_) (fun h => ?_)) <;> (try simp only [decide_eq_true_eq, decide_eq_false_iff_not, Bool.not_eq_true', Bool.not_eq_false', Bool.and_eq_true, Bool.or_eq_true, not_true_eq_false, not_false_eq_true] at h)
  · have hi' : i < o.rels.length := by omega
    obtain ⟨hs1, hs2, hs3, hs4, hs5, hs6⟩ := hf.rels _ (List.getElem_mem hi')
    have hnext : d ++ manyB relB o.rels (i + 1) = u ++ relB o.rels[i] := by rw [manyB_succ hi', ← List.append_assoc, hbz]
    have hks : IntKind.u32.wrap o.rels[i].sec = ((o.rels[i].sec.toNat : Nat) : Int) := by rw [wrapU32 hs3 (by omega)]; omega
    have hko : IntKind.u32.wrap o.rels[i].off = ((o.rels[i].off.toNat : Nat) : Int) := by rw [wrapU32 hs5 (by omega)]; omega
    have hkk : IntKind.u32.wrap o.rels[i].kind = ((o.rels[i].kind.toNat : Nat) : Int) := by
      rcases hs2 with e | e <;> rw [e] <;> rfl
    have hka : IntKind.u32.wrap o.rels[i].add = (((IntKind.u32.wrap o.rels[i].add).toNat : Nat) : Int) := by
      have := (wrapU32_lt o.rels[i].add).1
      omega
    have hkal : (IntKind.u32.wrap o.rels[i].add).toNat < 4294967296 := by
      have := (wrapU32_lt o.rels[i].add).2
      omega
    have hksl : o.rels[i].sec.toNat < 4294967296 := by omega
    have hkol : o.rels[i].off.toNat < 4294967296 := by omega
    have hkkl : o.rels[i].kind.toNat < 4294967296 := by omega
    (repeat (first | (simp (disch := (first | omega | (simp only [evF, evL, implies_true, and_self]; done) | fail)) only [evS, evZ, evX, evK, evB, evL, evR, Nat.reduceBEq, Nat.reduceAdd, Nat.reduceLeDiff, boxR, rboxR, allocR, fldR, binI, unR, pickR, mknilR, mkslR, buildSlR, buildR, extR, convI, eqB, evU, wrap64, getD_map hi', Rel.five, Rel.len, Rel.flat]) | (with_reducible intro _) | ((with_reducible apply And.intro); omega)))
    generalize o.rels[i] = s at *
    have hadd : ∃ w : Nat, IntKind.u32.wrap s.add = (w : Int) ∧ (IntKind.u32.wrap s.add).toNat = w := ⟨_, hka, rfl⟩
    obtain ⟨w, hw1, hw2⟩ := hadd
    rw [hw2] at hkal
    have hc4 : (Rel.cells s).getD 4 .undef = .int .i32 s.add := rfl
    (repeat (first | (simp (disch := (first | omega | (simp only [evF, evL, implies_true, and_self]; done) | fail)) only [evS, evZ, evX, evK, evB, evL, evR, Nat.reduceBEq, Nat.reduceAdd, Nat.reduceLeDiff, boxR, rboxR, allocR, fldR, binI, unR, pickR, mknilR, mkslR, buildSlR, buildR, extR, convI, eqB, evU, wrap64, Rel.c0, Rel.len, hks, hgood1]) | (with_reducible intro _) | ((with_reducible apply And.intro); omega)))
    refine call_own [(0, 0, 0), (1, 1, 0)] 2 _ (object_Encode_1_own u 0 s.sec.toNat 1 hlz0 (by omega) hksl (by decide)) rfl rfl (by (try simp only [evW, evK, evB, evL, Nat.reduceBEq, Nat.reduceAdd, Nat.reduceSub, Nat.reduceLeDiff, Nat.reduceLT, implies_true, and_self, Int.natCast_zero, Int.natCast_one, Int.cast_ofNat_Int, evV, encInts, encNats, encBools, encP, bytesV]) <;> (repeat' with_reducible apply And.intro) <;> first | omega | exact vw_nats rfl rfl (by omega) | exact vw_ints rfl rfl (by omega) | exact vw_bools rfl rfl (by omega) | exact rowV_flat (by repeat' first | exact bytes_flat | exact flat1 | refine flat_app ?_ ?_) | exact rowV_fe (fun _ => rfl) | exact rowV_fe_start (c := cN) (fun _ => rfl) rfl | exact rowsV_fam (fun _ => rfl) (by decide) ⟨rfl, rfl⟩ trivial | exact rowsV_fam (fun _ => rfl) (by decide) (fun _ _ => ⟨rfl, rfl⟩) trivial | (simp; done)) (by (try simp only [evW, evK, evB, evL, Nat.reduceBEq, Nat.reduceAdd, Nat.reduceSub, Nat.reduceLeDiff, Nat.reduceLT, implies_true, and_self, Int.natCast_zero, Int.natCast_one, Int.cast_ofNat_Int, evV, encInts, encNats, encBools, encP, bytesV]) <;> (repeat' with_reducible apply And.intro) <;> first | omega | exact vw_nats rfl rfl (by omega) | exact vw_ints rfl rfl (by omega) | exact vw_bools rfl rfl (by omega) | exact rowV_flat (by repeat' first | exact bytes_flat | exact flat1 | refine flat_app ?_ ?_) | exact rowV_fe (fun _ => rfl) | exact rowV_fe_start (c := cN) (fun _ => rfl) rfl | exact rowsV_fam (fun _ => rfl) (by decide) ⟨rfl, rfl⟩ trivial | exact rowsV_fam (fun _ => rfl) (by decide) (fun _ _ => ⟨rfl, rfl⟩) trivial | (simp; done)) ?_
    rintro v8 H8 nx8 ⟨rfl, rfl⟩
    have hn1 : (u ++ leB s.sec.toNat 1).length = u.length + 1 := by rw [List.length_append, leB_len]
    generalize hu1 : u ++ leB s.sec.toNat 1 = u1 at *
    (repeat (first | (simp (disch := (first | omega | (simp only [evF, evL, implies_true, and_self]; done) | fail)) only [evS, evZ, evX, evK, evB, evL, evR, Nat.reduceBEq, Nat.reduceAdd, Nat.reduceLeDiff, boxR, rboxR, allocR, fldR, binI, unR, pickR, mknilR, mkslR, buildSlR, buildR, extR, convI, eqB, evU, wrap64, bytes_ren, Rel.c1, Rel.c2, Rel.c3, hc4, Rel.len, hko, hkk, hw1, hgood1, hgood2]) | (with_reducible intro _) | ((with_reducible apply And.intro); omega)))
    refine call_own [(0, 0, 0), (1, 6, 0)] 2 _ (object_Encode_1_own u1 1 s.off.toNat 4 (by omega) (by omega) hkol (by decide)) rfl rfl (by (try simp only [evW, evK, evB, evL, Nat.reduceBEq, Nat.reduceAdd, Nat.reduceSub, Nat.reduceLeDiff, Nat.reduceLT, implies_true, and_self, Int.natCast_zero, Int.natCast_one, Int.cast_ofNat_Int, evV, encInts, encNats, encBools, encP, bytesV]) <;> (repeat' with_reducible apply And.intro) <;> first | omega | exact vw_nats rfl rfl (by omega) | exact vw_ints rfl rfl (by omega) | exact vw_bools rfl rfl (by omega) | exact rowV_flat (by repeat' first | exact bytes_flat | exact flat1 | refine flat_app ?_ ?_) | exact rowV_fe (fun _ => rfl) | exact rowV_fe_start (c := cN) (fun _ => rfl) rfl | exact rowsV_fam (fun _ => rfl) (by decide) ⟨rfl, rfl⟩ trivial | exact rowsV_fam (fun _ => rfl) (by decide) (fun _ _ => ⟨rfl, rfl⟩) trivial | (simp; done)) (by (try simp only [evW, evK, evB, evL, Nat.reduceBEq, Nat.reduceAdd, Nat.reduceSub, Nat.reduceLeDiff, Nat.reduceLT, implies_true, and_self, Int.natCast_zero, Int.natCast_one, Int.cast_ofNat_Int, evV, encInts, encNats, encBools, encP, bytesV]) <;> (repeat' with_reducible apply And.intro) <;> first | omega | exact vw_nats rfl rfl (by omega) | exact vw_ints rfl rfl (by omega) | exact vw_bools rfl rfl (by omega) | exact rowV_flat (by repeat' first | exact bytes_flat | exact flat1 | refine flat_app ?_ ?_) | exact rowV_fe (fun _ => rfl) | exact rowV_fe_start (c := cN) (fun _ => rfl) rfl | exact rowsV_fam (fun _ => rfl) (by decide) ⟨rfl, rfl⟩ trivial | exact rowsV_fam (fun _ => rfl) (by decide) (fun _ _ => ⟨rfl, rfl⟩) trivial | (simp; done)) ?_
    rintro v9 H9 nx9 ⟨rfl, rfl⟩
    have hn2 : (u1 ++ leB s.off.toNat 4).length = u1.length + 4 := by rw [List.length_append, leB_len]
    generalize hu2 : u1 ++ leB s.off.toNat 4 = u2 at *
    (repeat (first | (simp (disch := (first | omega | (simp only [evF, evL, implies_true, and_self]; done) | fail)) only [evS, evZ, evX, evK, evB, evL, evR, Nat.reduceBEq, Nat.reduceAdd, Nat.reduceLeDiff, boxR, rboxR, allocR, fldR, binI, unR, pickR, mknilR, mkslR, buildSlR, buildR, extR, convI, eqB, evU, wrap64, bytes_ren, Rel.c1, Rel.c2, Rel.c3, hc4, Rel.len, hko, hkk, hw1, hgood1, hgood2]) | (with_reducible intro _) | ((with_reducible apply And.intro); omega)))
    refine call_own [(0, 0, 0), (1, 10, 0)] 2 _ (object_Encode_1_own u2 4 s.kind.toNat 1 (by omega) (by omega) hkkl (by decide)) rfl rfl (by (try simp only [evW, evK, evB, evL, Nat.reduceBEq, Nat.reduceAdd, Nat.reduceSub, Nat.reduceLeDiff, Nat.reduceLT, implies_true, and_self, Int.natCast_zero, Int.natCast_one, Int.cast_ofNat_Int, evV, encInts, encNats, encBools, encP, bytesV]) <;> (repeat' with_reducible apply And.intro) <;> first | omega | exact vw_nats rfl rfl (by omega) | exact vw_ints rfl rfl (by omega) | exact vw_bools rfl rfl (by omega) | exact rowV_flat (by repeat' first | exact bytes_flat | exact flat1 | refine flat_app ?_ ?_) | exact rowV_fe (fun _ => rfl) | exact rowV_fe_start (c := cN) (fun _ => rfl) rfl | exact rowsV_fam (fun _ => rfl) (by decide) ⟨rfl, rfl⟩ trivial | exact rowsV_fam (fun _ => rfl) (by decide) (fun _ _ => ⟨rfl, rfl⟩) trivial | (simp; done)) (by (try simp only [evW, evK, evB, evL, Nat.reduceBEq, Nat.reduceAdd, Nat.reduceSub, Nat.reduceLeDiff, Nat.reduceLT, implies_true, and_self, Int.natCast_zero, Int.natCast_one, Int.cast_ofNat_Int, evV, encInts, encNats, encBools, encP, bytesV]) <;> (repeat' with_reducible apply And.intro) <;> first | omega | exact vw_nats rfl rfl (by omega) | exact vw_ints rfl rfl (by omega) | exact vw_bools rfl rfl (by omega) | exact rowV_flat (by repeat' first | exact bytes_flat | exact flat1 | refine flat_app ?_ ?_) | exact rowV_fe (fun _ => rfl) | exact rowV_fe_start (c := cN) (fun _ => rfl) rfl | exact rowsV_fam (fun _ => rfl) (by decide) ⟨rfl, rfl⟩ trivial | exact rowsV_fam (fun _ => rfl) (by decide) (fun _ _ => ⟨rfl, rfl⟩) trivial | (simp; done)) ?_
    rintro v10 H10 nx10 ⟨rfl, rfl⟩
    have hn3 : (u2 ++ leB s.kind.toNat 1).length = u2.length + 1 := by rw [List.length_append, leB_len]
    generalize hu3 : u2 ++ leB s.kind.toNat 1 = u3 at *
    (repeat (first | (simp (disch := (first | omega | (simp only [evF, evL, implies_true, and_self]; done) | fail)) only [evS, evZ, evX, evK, evB, evL, evR, Nat.reduceBEq, Nat.reduceAdd, Nat.reduceLeDiff, boxR, rboxR, allocR, fldR, binI, unR, pickR, mknilR, mkslR, buildSlR, buildR, extR, convI, eqB, evU, wrap64, bytes_ren, Rel.c1, Rel.c2, Rel.c3, hc4, Rel.len, hko, hkk, hw1, hgood1, hgood2]) | (with_reducible intro _) | ((with_reducible apply And.intro); omega)))
    refine call_own [(0, 0, 0), (1, 14, 0)] 2 _ (object_Encode_2_own u3 1 s.sym (by omega) (by omega) hs1) rfl rfl (by (try simp only [evW, evK, evB, evL, Nat.reduceBEq, Nat.reduceAdd, Nat.reduceSub, Nat.reduceLeDiff, Nat.reduceLT, implies_true, and_self, Int.natCast_zero, Int.natCast_one, Int.cast_ofNat_Int, evV, encInts, encNats, encBools, encP, bytesV]) <;> (repeat' with_reducible apply And.intro) <;> first | omega | exact vw_nats rfl rfl (by omega) | exact vw_ints rfl rfl (by omega) | exact vw_bools rfl rfl (by omega) | exact rowV_flat (by repeat' first | exact bytes_flat | exact flat1 | refine flat_app ?_ ?_) | exact rowV_fe (fun _ => rfl) | exact rowV_fe_start (c := cN) (fun _ => rfl) rfl | exact rowsV_fam (fun _ => rfl) (by decide) ⟨rfl, rfl⟩ trivial | exact rowsV_fam (fun _ => rfl) (by decide) (fun _ _ => ⟨rfl, rfl⟩) trivial | (simp; done)) (by (try simp only [evW, evK, evB, evL, Nat.reduceBEq, Nat.reduceAdd, Nat.reduceSub, Nat.reduceLeDiff, Nat.reduceLT, implies_true, and_self, Int.natCast_zero, Int.natCast_one, Int.cast_ofNat_Int, evV, encInts, encNats, encBools, encP, bytesV]) <;> (repeat' with_reducible apply And.intro) <;> first | omega | exact vw_nats rfl rfl (by omega) | exact vw_ints rfl rfl (by omega) | exact vw_bools rfl rfl (by omega) | exact rowV_flat (by repeat' first | exact bytes_flat | exact flat1 | refine flat_app ?_ ?_) | exact rowV_fe (fun _ => rfl) | exact rowV_fe_start (c := cN) (fun _ => rfl) rfl | exact rowsV_fam (fun _ => rfl) (by decide) ⟨rfl, rfl⟩ trivial | exact rowsV_fam (fun _ => rfl) (by decide) (fun _ _ => ⟨rfl, rfl⟩) trivial | (simp; done)) ?_
    rintro v11 H11 nx11 ⟨rfl, rfl⟩
    have hn4 : (u3 ++ txB s.sym).length = u3.length + (s.sym.size + 1) := by rw [List.length_append, txB_len]
    generalize hu4 : u3 ++ txB s.sym = u4 at *
    (repeat (first | (simp (disch := (first | omega | (simp only [evF, evL, implies_true, and_self]; done) | fail)) only [evS, evZ, evX, evK, evB, evL, evR, Nat.reduceBEq, Nat.reduceAdd, Nat.reduceLeDiff, boxR, rboxR, allocR, fldR, binI, unR, pickR, mknilR, mkslR, buildSlR, buildR, extR, convI, eqB, evU, wrap64, bytes_ren, Rel.c1, Rel.c2, Rel.c3, hc4, Rel.len, hko, hkk, hw1, hgood1, hgood2]) | (with_reducible intro _) | ((with_reducible apply And.intro); omega)))
    refine call_own [(0, 0, 0), (1, 18, 0)] 2 _ (object_Encode_1_own u4 2 w 4 (by omega) (by omega) hkal (by decide)) rfl rfl (by (try simp only [evW, evK, evB, evL, Nat.reduceBEq, Nat.reduceAdd, Nat.reduceSub, Nat.reduceLeDiff, Nat.reduceLT, implies_true, and_self, Int.natCast_zero, Int.natCast_one, Int.cast_ofNat_Int, evV, encInts, encNats, encBools, encP, bytesV]) <;> (repeat' with_reducible apply And.intro) <;> first | omega | exact vw_nats rfl rfl (by omega) | exact vw_ints rfl rfl (by omega) | exact vw_bools rfl rfl (by omega) | exact rowV_flat (by repeat' first | exact bytes_flat | exact flat1 | refine flat_app ?_ ?_) | exact rowV_fe (fun _ => rfl) | exact rowV_fe_start (c := cN) (fun _ => rfl) rfl | exact rowsV_fam (fun _ => rfl) (by decide) ⟨rfl, rfl⟩ trivial | exact rowsV_fam (fun _ => rfl) (by decide) (fun _ _ => ⟨rfl, rfl⟩) trivial | (simp; done)) (by (try simp only [evW, evK, evB, evL, Nat.reduceBEq, Nat.reduceAdd, Nat.reduceSub, Nat.reduceLeDiff, Nat.reduceLT, implies_true, and_self, Int.natCast_zero, Int.natCast_one, Int.cast_ofNat_Int, evV, encInts, encNats, encBools, encP, bytesV]) <;> (repeat' with_reducible apply And.intro) <;> first | omega | exact vw_nats rfl rfl (by omega) | exact vw_ints rfl rfl (by omega) | exact vw_bools rfl rfl (by omega) | exact rowV_flat (by repeat' first | exact bytes_flat | exact flat1 | refine flat_app ?_ ?_) | exact rowV_fe (fun _ => rfl) | exact rowV_fe_start (c := cN) (fun _ => rfl) rfl | exact rowsV_fam (fun _ => rfl) (by decide) ⟨rfl, rfl⟩ trivial | exact rowsV_fam (fun _ => rfl) (by decide) (fun _ _ => ⟨rfl, rfl⟩) trivial | (simp; done)) ?_
    rintro v12 H12 nx12 ⟨rfl, rfl⟩
    have hn5 : (u4 ++ leB w 4).length = u4.length + 4 := by rw [List.length_append, leB_len]
    generalize hu5 : u4 ++ leB w 4 = u5 at *
    (repeat (first | (simp (disch := (first | omega | (simp only [evF, evL, implies_true, and_self]; done) | fail)) only [evS, evZ, evX, evK, evB, evL, evR, Nat.reduceBEq, Nat.reduceAdd, Nat.reduceLeDiff, boxR, rboxR, allocR, fldR, binI, unR, pickR, mknilR, mkslR, buildSlR, buildR, extR, convI, eqB, evU, wrap64, bytes_ren, Rel.c1, Rel.c2, Rel.c3, hc4, Rel.len, hko, hkk, hw1, hgood1, hgood2]) | (with_reducible intro _) | ((with_reducible apply And.intro); omega)))
    have hnext2 : d ++ manyB relB o.rels (i + 1) = u5 := by rw [hnext, ← hu5, ← hu4, ← hu3, ← hu2, ← hu1, ← hw2]; simp [relB, List.append_assoc]
    exact ⟨i + 1, by omega, by omega, (Ent.tab [(0, 0, 0), (1, 22, 4)] [] rfl (by (try simp only [evW, evK, evB, evL, Nat.reduceBEq, Nat.reduceAdd, Nat.reduceSub, Nat.reduceLeDiff, Nat.reduceLT, implies_true, and_self, Int.natCast_zero, Int.natCast_one, Int.cast_ofNat_Int, evV, encInts, encNats, encBools, encP, hnext2]) <;> (repeat' with_reducible apply And.intro) <;> first | omega | exact vw_nats rfl rfl (by omega) | exact vw_ints rfl rfl (by omega) | exact vw_bools rfl rfl (by omega) | exact rowV_flat (by repeat' first | exact bytes_flat | exact flat1 | refine flat_app ?_ ?_) | exact rowV_fe (fun _ => rfl) | exact rowV_fe_start (c := cN) (fun _ => rfl) rfl | exact rowsV_fam (fun _ => rfl) (by decide) ⟨rfl, rfl⟩ trivial | exact rowsV_fam (fun _ => rfl) (by decide) (fun _ _ => ⟨rfl, rfl⟩) trivial | (simp; done)) (by (try simp only [evW, evK, evB, evL, Nat.reduceBEq, Nat.reduceAdd, Nat.reduceSub, Nat.reduceLeDiff, Nat.reduceLT, implies_true, and_self, Int.natCast_zero, Int.natCast_one, Int.cast_ofNat_Int, evV, encInts, encNats, encBools, encP, hnext2]) <;> (repeat' with_reducible apply And.intro) <;> first | omega | exact vw_nats rfl rfl (by omega) | exact vw_ints rfl rfl (by omega) | exact vw_bools rfl rfl (by omega) | exact rowV_flat (by repeat' first | exact bytes_flat | exact flat1 | refine flat_app ?_ ?_) | exact rowV_fe (fun _ => rfl) | exact rowV_fe_start (c := cN) (fun _ => rfl) rfl | exact rowsV_fam (fun _ => rfl) (by decide) ⟨rfl, rfl⟩ trivial | exact rowsV_fam (fun _ => rfl) (by decide) (fun _ _ => ⟨rfl, rfl⟩) trivial | (simp; done)))⟩
  have hiR : i = o.rels.length := by omega
  subst hiR
  have hbody : u = bodyB o := by rw [← hbz, ← hby, ← hb]; rfl
  unfold ac_object_Encode_k3
  (repeat (first | (simp (disch := (first | omega | (simp only [evF, evL, implies_true, and_self]; done) | fail)) only [evS, evZ, evX, evK, evB, evL, evR, Nat.reduceBEq, Nat.reduceAdd, Nat.reduceLeDiff, boxR, rboxR, allocR, fldR, binI, unR, pickR, mknilR, mkslR, buildSlR, buildR, extR, convI, eqB, evU, wrap64]) | (with_reducible intro _) | ((with_reducible apply And.intro); omega)))
  obtain ⟨v, hv, hve⟩ := sumK_nat u u.length
  have hlu : u.length ≤ 1069997 := by omega
  have hful : fullB o = u ++ leB v 4 := by
    unfold fullB
    rw [← hbody, hve, Int.toNat_natCast]
  have hcs := object_Checksum_ok u (by omega)
  rw [hve] at hcs
  refine callX_fix (call_fix (D := allR) hcs (.cons (vw_bytes trivial rfl rfl (by omega)) .nil) (.inl rfl)) ?_
  (repeat (first | (simp (disch := (first | omega | (simp only [evF, evL, implies_true, and_self]; done) | fail)) only [evS, evZ, evX, evK, evB, evL, evR, Nat.reduceBEq, Nat.reduceAdd, Nat.reduceLeDiff, boxR, rboxR, allocR, fldR, binI, unR, pickR, mknilR, mkslR, buildSlR, buildR, extR, convI, eqB, evU, wrap64, hgood1]) | (with_reducible intro _) | ((with_reducible apply And.intro); omega)))
  refine call_own [(0, 0, 0), (1, 1, 0)] 2 _ (object_Encode_1_own u 0 v 4 hlz0 (by omega) hv (by decide)) rfl rfl (by (try simp only [evW, evK, evB, evL, Nat.reduceBEq, Nat.reduceAdd, Nat.reduceSub, Nat.reduceLeDiff, Nat.reduceLT, implies_true, and_self, Int.natCast_zero, Int.natCast_one, Int.cast_ofNat_Int, evV, encInts, encNats, encBools, encP, bytesV]) <;> (repeat' with_reducible apply And.intro) <;> first | omega | exact vw_nats rfl rfl (by omega) | exact vw_ints rfl rfl (by omega) | exact vw_bools rfl rfl (by omega) | exact rowV_flat (by repeat' first | exact bytes_flat | exact flat1 | refine flat_app ?_ ?_) | exact rowV_fe (fun _ => rfl) | exact rowV_fe_start (c := cN) (fun _ => rfl) rfl | exact rowsV_fam (fun _ => rfl) (by decide) ⟨rfl, rfl⟩ trivial | exact rowsV_fam (fun _ => rfl) (by decide) (fun _ _ => ⟨rfl, rfl⟩) trivial | (simp; done)) (by (try simp only [evW, evK, evB, evL, Nat.reduceBEq, Nat.reduceAdd, Nat.reduceSub, Nat.reduceLeDiff, Nat.reduceLT, implies_true, and_self, Int.natCast_zero, Int.natCast_one, Int.cast_ofNat_Int, evV, encInts, encNats, encBools, encP, bytesV]) <;> (repeat' with_reducible apply And.intro) <;> first | omega | exact vw_nats rfl rfl (by omega) | exact vw_ints rfl rfl (by omega) | exact vw_bools rfl rfl (by omega) | exact rowV_flat (by repeat' first | exact bytes_flat | exact flat1 | refine flat_app ?_ ?_) | exact rowV_fe (fun _ => rfl) | exact rowV_fe_start (c := cN) (fun _ => rfl) rfl | exact rowsV_fam (fun _ => rfl) (by decide) ⟨rfl, rfl⟩ trivial | exact rowsV_fam (fun _ => rfl) (by decide) (fun _ _ => ⟨rfl, rfl⟩) trivial | (simp; done)) ?_
  rintro v20 H20 nx20 ⟨rfl, rfl⟩
  have hnz : (u ++ leB v 4).length = u.length + 4 := by rw [List.length_append, leB_len]
  generalize hz : u ++ leB v 4 = z at *
  (repeat (first | (simp (disch := (first | omega | (simp only [evF, evL, implies_true, and_self]; done) | fail)) only [evS, evZ, evX, evK, evB, evL, evR, Nat.reduceBEq, Nat.reduceAdd, Nat.reduceLeDiff, boxR, rboxR, allocR, fldR, binI, unR, pickR, mknilR, mkslR, buildSlR, buildR, extR, convI, eqB, evU, wrap64, bytes_ren, hgood1]) | (with_reducible intro _) | ((with_reducible apply And.intro); omega)))
  (refine condX_intro (fun h6 => ?_) (fun h6 => ?_)) <;> (try simp only [decide_eq_true_eq, decide_eq_false_iff_not, Bool.not_eq_true', Bool.not_eq_false', Bool.and_eq_true, Bool.or_eq_true, not_true_eq_false, not_false_eq_true] at h6)
  · rw [encodeO_long h1 (by rw [hful]; omega)]
    (repeat (first | (simp (disch := (first | omega | (simp only [evF, evL, implies_true, and_self]; done) | fail)) only [evS, evZ, evX, evK, evB, evL, evR, Nat.reduceBEq, Nat.reduceAdd, Nat.reduceLeDiff, boxR, rboxR, allocR, fldR, binI, unR, pickR, mknilR, mkslR, buildSlR, buildR, extR, convI, eqB, evU, wrap64, rs_object_Encode]) | (with_reducible intro _) | ((with_reducible apply And.intro); omega)))
    exact ⟨_, frz_nilE rfl, rfl⟩
  · rw [encodeO_good h1 (by rw [hful]; omega), hful]
    (repeat (first | (simp (disch := (first | omega | (simp only [evF, evL, implies_true, and_self]; done) | fail)) only [evS, evZ, evX, evK, evB, evL, evR, Nat.reduceBEq, Nat.reduceAdd, Nat.reduceLeDiff, boxR, rboxR, allocR, fldR, binI, unR, pickR, mknilR, mkslR, buildSlR, buildR, extR, convI, eqB, evU, wrap64, rs_object_Encode]) | (with_reducible intro _) | ((with_reducible apply And.intro); omega)))
    exact ⟨_, frz_okE rfl rfl (by omega), rfl⟩

end Go.Ab
