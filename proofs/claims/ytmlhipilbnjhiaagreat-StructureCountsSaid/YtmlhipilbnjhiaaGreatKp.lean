/-
  Part 16 of the proof: how the calls of this program run, over values instead of memory, and what each function computes.
-/
import Derived.Test.YtmlhipilbnjhiaaGreatKo
set_option linter.unusedVariables false
set_option linter.unusedSimpArgs false
set_option linter.unnecessarySimpa false
set_option linter.unusedSectionVars false

namespace Go.Ab
open Go.RowKit Go.Proofs

def fm (p : NdF → List Int) (l : List Nd) : List Int := l.flatMap fun x => p x.f
theorem fm_step {p : NdF → List Int} {l : List Nd} {i : Nat} (h : i < l.length) : fm p (l.drop i) = p l[i].f ++ fm p (l.drop (i + 1)) := by
  rw [List.drop_eq_getElem_cons h, fm, List.flatMap_cons]; rfl
theorem fm_all (p : NdF → List Int) (n : Nd) : fm p (allN n) = coll p n := (coll_all p n).symm
theorem fm_nil (p : NdF → List Int) : fm p [] = [] := rfl

theorem structure_Gotos_ok (e : Nd) (hs : sizeN e ≤ 1000) : PureFn Tryz.prog f_structure_Gotos [.agg (encN e)] (· = .int .i64 (coll gotoP e).length) := by
  refine fn_x cf_structure_Gotos rfl ?_
  unfold ac_structure_Gotos
  have hB : big = 9223372036854775807 := rfl
  rw [← fm_all]
  have hl := coll_len gotoP_one e
  rw [← fm_all] at hl
  (repeat (first | (simp (disch := first | exact dis1 | fail) only [evA, Nat.reduceBEq, Nat.reduceAdd, Nat.reduceLeDiff, boxR, rboxR, allocR, fldR, binI, unR, pickR, mknilR, mkslR, buildSlR, buildR, extR, convI, eqB, evU, wrap64, encN_len, encN_flat, encN_five]) | (with_reducible intro _) | ((with_reducible apply And.intro); omega)))
  refine callX_fix (call_flat (structure_all_ok e hs) (flN rfl)) ?_
  have hlen : (allN e).length ≤ 1000 := by rw [allN_len]; exact hs
  generalize allN e = l at *
  generalize hR : (((fm gotoP l).length : Nat) : Int) = R
  (repeat (first | (simp (disch := first | exact dis1 | fail) only [evA, Nat.reduceBEq, Nat.reduceAdd, Nat.reduceLeDiff, boxR, rboxR, allocR, fldR, binI, unR, pickR, mknilR, mkslR, buildSlR, buildR, extR, convI, eqB, evU, wrap64]) | (with_reducible intro _) | ((with_reducible apply And.intro); omega)))
  refine loopX_intro (fun s : Nat × Nat => ([(3, .int .i64 s.2), (7, encL 5 encN l), (8, .int .i64 l.length), (9, .int .i64 s.1)], [])) 0 (fun s => s.1 ≤ l.length ∧ ((s.2 + (fm gotoP (l.drop s.1)).length : Nat) : Int) = R) (fun s => l.length - s.1) (0, 0) ⟨Nat.zero_le _, by simp only [List.drop_zero]; omega⟩ (Ent.keep rfl (by (try simp [subK, Kn.get, beq_eq]) <;> (repeat' with_reducible apply And.intro) <;> first | rfl | omega | (simp; done))) ?_
  rintro ⟨i, x⟩ ⟨hi, hgo⟩ wf
  simp only at hi hgo
  unfold ac_structure_Gotos_l0
  by_cases hil : i < l.length
  · rw [fm_step hil, List.length_append] at hgo
    have hgd := getD_map (f := encN) (d := []) hil
    generalize hli : l[i] = y at hgd hgo
    obtain ⟨⟨kd, bl, lb⟩, c, m⟩ := y
    simp only [Nd.f] at hgo
    have hg : gotoP ⟨kd, bl, lb⟩ = if kd = 9 then [lb] else [] := rfl
    rw [encN_eq] at hgd
    simp only at hgd
    (repeat (first | (simp (disch := first | exact dis1 | fail) only [evA, Nat.reduceBEq, Nat.reduceAdd, Nat.reduceLeDiff, boxR, rboxR, allocR, fldR, binI, unR, pickR, mknilR, mkslR, buildSlR, buildR, extR, convI, eqB, evU, wrap64, dT, hgd, List.length_cons, List.length_nil]) | (with_reducible intro _) | ((with_reducible apply And.intro); omega)))
    have hxl : x ≤ 1000 := by omega
    (refine condX_intro (fun h9 => ?_) (fun h9 => ?_)) <;> (try simp only [decide_eq_true_eq, decide_eq_false_iff_not, Bool.not_eq_true', Bool.not_eq_false', Bool.and_eq_true, Bool.or_eq_true, not_true_eq_false, not_false_eq_true] at h9)
    · rw [if_pos h9] at hg
      rw [hg] at hgo
      simp only [List.length_cons, List.length_nil] at hgo
      (repeat (first | (simp (disch := first | exact dis1 | fail) only [evA, Nat.reduceBEq, Nat.reduceAdd, Nat.reduceLeDiff, boxR, rboxR, allocR, fldR, binI, unR, pickR, mknilR, mkslR, buildSlR, buildR, extR, convI, eqB, evU, wrap64]) | (with_reducible intro _) | ((with_reducible apply And.intro); omega)))
      exact ⟨(i + 1, x + 1), ⟨by simp only; omega, by simp only; omega⟩, by simp only; omega, (Ent.tab [] [] rfl (by (try simp only [evWA, Nat.reduceBEq, Nat.reduceAdd, Nat.reduceSub, Nat.reduceLeDiff, Nat.reduceLT, implies_true, and_self, Int.natCast_zero, Int.natCast_one, Int.cast_ofNat_Int, evV, encInts, encNats, encBools, encP]) <;> exact fin2) (by (try simp only [evWA, Nat.reduceBEq, Nat.reduceAdd, Nat.reduceSub, Nat.reduceLeDiff, Nat.reduceLT, implies_true, and_self, Int.natCast_zero, Int.natCast_one, Int.cast_ofNat_Int, evV, encInts, encNats, encBools, encP]) <;> exact fin2))⟩
    · rw [if_neg h9] at hg
      rw [hg] at hgo
      simp only [List.length_nil] at hgo
      (repeat (first | (simp (disch := first | exact dis1 | fail) only [evA, Nat.reduceBEq, Nat.reduceAdd, Nat.reduceLeDiff, boxR, rboxR, allocR, fldR, binI, unR, pickR, mknilR, mkslR, buildSlR, buildR, extR, convI, eqB, evU, wrap64]) | (with_reducible intro _) | ((with_reducible apply And.intro); omega)))
      exact ⟨(i + 1, x), ⟨by simp only; omega, by simp only; omega⟩, by simp only; omega, (Ent.tab [] [] rfl (by (try simp only [evWA, Nat.reduceBEq, Nat.reduceAdd, Nat.reduceSub, Nat.reduceLeDiff, Nat.reduceLT, implies_true, and_self, Int.natCast_zero, Int.natCast_one, Int.cast_ofNat_Int, evV, encInts, encNats, encBools, encP]) <;> exact fin2) (by (try simp only [evWA, Nat.reduceBEq, Nat.reduceAdd, Nat.reduceSub, Nat.reduceLeDiff, Nat.reduceLT, implies_true, and_self, Int.natCast_zero, Int.natCast_one, Int.cast_ofNat_Int, evV, encInts, encNats, encBools, encP]) <;> exact fin2))⟩
  · rw [List.drop_of_length_le (by omega), fm_nil] at hgo
    simp only [List.length_nil, Nat.add_zero] at hgo
    subst hgo
    (repeat (first | (simp (disch := first | exact dis1 | fail) only [evA, Nat.reduceBEq, Nat.reduceAdd, Nat.reduceLeDiff, boxR, rboxR, allocR, fldR, binI, unR, pickR, mknilR, mkslR, buildSlR, buildR, extR, convI, eqB, evU, wrap64, dF]) | (with_reducible intro _) | ((with_reducible apply And.intro); omega)))
    unfold ac_structure_Gotos_k1
    (repeat (first | (simp (disch := first | exact dis1 | fail) only [evA, Nat.reduceBEq, Nat.reduceAdd, Nat.reduceLeDiff, boxR, rboxR, allocR, fldR, binI, unR, pickR, mknilR, mkslR, buildSlR, buildR, extR, convI, eqB, evU, wrap64, rs_structure_Gotos]) | (with_reducible intro _) | ((with_reducible apply And.intro); omega)))
    exact ⟨_, .int _ _ _, rfl⟩

theorem structure_Labels_ok (e : Nd) (hs : sizeN e ≤ 1000) : PureFn Tryz.prog f_structure_Labels [.agg (encN e)] (· = encInts (coll labP e)) := by
  refine fn_x cf_structure_Labels rfl ?_
  unfold ac_structure_Labels
  have hB : big = 9223372036854775807 := rfl
  rw [← fm_all]
  have hl := coll_len labP_one e
  rw [← fm_all] at hl
  (repeat (first | (simp (disch := first | exact dis1 | fail) only [evA, Nat.reduceBEq, Nat.reduceAdd, Nat.reduceLeDiff, boxR, rboxR, allocR, fldR, binI, unR, pickR, mknilR, mkslR, buildSlR, buildR, extR, convI, eqB, evU, wrap64, encN_len, encN_flat, encN_five]) | (with_reducible intro _) | ((with_reducible apply And.intro); omega)))
  refine callX_fix (call_flat (structure_all_ok e hs) (flN rfl)) ?_
  have hlen : (allN e).length ≤ 1000 := by rw [allN_len]; exact hs
  generalize allN e = l at *
  generalize hR : fm labP l = R at hl ⊢
  (repeat (first | (simp (disch := first | exact dis1 | fail) only [evA, Nat.reduceBEq, Nat.reduceAdd, Nat.reduceLeDiff, boxR, rboxR, allocR, fldR, binI, unR, pickR, mknilR, mkslR, buildSlR, buildR, extR, convI, eqB, evU, wrap64]) | (with_reducible intro _) | ((with_reducible apply And.intro); omega)))
  refine loopX_intro (fun s : Nat × List Int => ([(3, .own 0 0 0 0 s.2.length), (7, encL 5 encN l), (8, .int .i64 l.length), (9, .int .i64 s.1)], [(0, .row 1 (s.2.map cI) 0)])) 1 (fun s => s.1 ≤ l.length ∧ s.2 ++ fm labP (l.drop s.1) = R) (fun s => l.length - s.1) (0, []) ⟨Nat.zero_le _, by simp only [List.drop_zero, List.nil_append]; exact hR⟩ (Ent.tab [(0, 1, 0)] [] rfl (by (try simp only [evWA, Nat.reduceBEq, Nat.reduceAdd, Nat.reduceSub, Nat.reduceLeDiff, Nat.reduceLT, implies_true, and_self, Int.natCast_zero, Int.natCast_one, Int.cast_ofNat_Int, evV, encInts, encNats, encBools, encP]) <;> exact fin2) (by (try simp only [evWA, Nat.reduceBEq, Nat.reduceAdd, Nat.reduceSub, Nat.reduceLeDiff, Nat.reduceLT, implies_true, and_self, Int.natCast_zero, Int.natCast_one, Int.cast_ofNat_Int, evV, encInts, encNats, encBools, encP]) <;> exact fin2)) ?_
  rintro ⟨i, x⟩ ⟨hi, hgo⟩ wf
  simp only at hi hgo
  unfold ac_structure_Labels_l0
  by_cases hil : i < l.length
  · rw [fm_step hil] at hgo
    have hgd := getD_map (f := encN) (d := []) hil
    generalize hli : l[i] = y at hgd hgo
    obtain ⟨⟨kd, bl, lb⟩, c, m⟩ := y
    simp only [Nd.f] at hgo
    have hg : labP ⟨kd, bl, lb⟩ = if kd = 10 then [lb] else [] := rfl
    rw [encN_eq] at hgd
    simp only at hgd
    have hxl := congrArg List.length hgo
    simp only [List.length_append] at hxl
    (repeat (first | (simp (disch := first | exact dis1 | fail) only [evA, Nat.reduceBEq, Nat.reduceAdd, Nat.reduceLeDiff, boxR, rboxR, allocR, fldR, binI, unR, pickR, mknilR, mkslR, buildSlR, buildR, extR, convI, eqB, evU, wrap64, dT, hgd, List.length_cons, List.length_nil]) | (with_reducible intro _) | ((with_reducible apply And.intro); omega)))
    (refine condX_intro (fun h9 => ?_) (fun h9 => ?_)) <;> (try simp only [decide_eq_true_eq, decide_eq_false_iff_not, Bool.not_eq_true', Bool.not_eq_false', Bool.and_eq_true, Bool.or_eq_true, not_true_eq_false, not_false_eq_true] at h9)
    · rw [if_pos h9] at hg
      rw [hg, ← List.append_assoc] at hgo
      (repeat (first | (simp (disch := first | exact dis1 | fail) only [evA, Nat.reduceBEq, Nat.reduceAdd, Nat.reduceLeDiff, boxR, rboxR, allocR, fldR, binI, unR, pickR, mknilR, mkslR, buildSlR, buildR, extR, convI, eqB, evU, wrap64]) | (with_reducible intro _) | ((with_reducible apply And.intro); omega)))
      exact ⟨(i + 1, x ++ [lb]), ⟨by simp only; omega, hgo⟩, by simp only; omega, (Ent.tab [(0, 0, 1)] [] rfl (by (try simp only [evWA, Nat.reduceBEq, Nat.reduceAdd, Nat.reduceSub, Nat.reduceLeDiff, Nat.reduceLT, implies_true, and_self, Int.natCast_zero, Int.natCast_one, Int.cast_ofNat_Int, evV, encInts, encNats, encBools, encP, List.length_append, List.map_append, List.length_cons, List.length_nil, List.map_cons, List.map_nil]) <;> exact fin2) (by (try simp only [evWA, Nat.reduceBEq, Nat.reduceAdd, Nat.reduceSub, Nat.reduceLeDiff, Nat.reduceLT, implies_true, and_self, Int.natCast_zero, Int.natCast_one, Int.cast_ofNat_Int, evV, encInts, encNats, encBools, encP, List.length_append, List.map_append, List.length_cons, List.length_nil, List.map_cons, List.map_nil]) <;> exact fin2))⟩
    · rw [if_neg h9] at hg
      rw [hg, List.nil_append] at hgo
      (repeat (first | (simp (disch := first | exact dis1 | fail) only [evA, Nat.reduceBEq, Nat.reduceAdd, Nat.reduceLeDiff, boxR, rboxR, allocR, fldR, binI, unR, pickR, mknilR, mkslR, buildSlR, buildR, extR, convI, eqB, evU, wrap64]) | (with_reducible intro _) | ((with_reducible apply And.intro); omega)))
      exact ⟨(i + 1, x), ⟨by simp only; omega, hgo⟩, by simp only; omega, (Ent.tab [(0, 0, 0)] [] rfl (by (try simp only [evWA, Nat.reduceBEq, Nat.reduceAdd, Nat.reduceSub, Nat.reduceLeDiff, Nat.reduceLT, implies_true, and_self, Int.natCast_zero, Int.natCast_one, Int.cast_ofNat_Int, evV, encInts, encNats, encBools, encP]) <;> exact fin2) (by (try simp only [evWA, Nat.reduceBEq, Nat.reduceAdd, Nat.reduceSub, Nat.reduceLeDiff, Nat.reduceLT, implies_true, and_self, Int.natCast_zero, Int.natCast_one, Int.cast_ofNat_Int, evV, encInts, encNats, encBools, encP]) <;> exact fin2))⟩
  · rw [List.drop_of_length_le (by omega), fm_nil, List.append_nil] at hgo
    subst hgo
    (repeat (first | (simp (disch := first | exact dis1 | fail) only [evA, Nat.reduceBEq, Nat.reduceAdd, Nat.reduceLeDiff, boxR, rboxR, allocR, fldR, binI, unR, pickR, mknilR, mkslR, buildSlR, buildR, extR, convI, eqB, evU, wrap64, dF]) | (with_reducible intro _) | ((with_reducible apply And.intro); omega)))
    unfold ac_structure_Labels_k1
    (repeat (first | (simp (disch := first | exact dis1 | fail) only [evA, Nat.reduceBEq, Nat.reduceAdd, Nat.reduceLeDiff, boxR, rboxR, allocR, fldR, binI, unR, pickR, mknilR, mkslR, buildSlR, buildR, extR, convI, eqB, evU, wrap64, rs_structure_Labels]) | (with_reducible intro _) | ((with_reducible apply And.intro); omega)))
    exact ⟨_, vw_ints (l := x) trivial rfl (by omega), rfl⟩

theorem structure_Blocks_ok (e : Nd) (hs : sizeN e ≤ 1000) : PureFn Tryz.prog f_structure_Blocks [.agg (encN e)] (· = encInts (coll blkP e)) := by
  refine fn_x cf_structure_Blocks rfl ?_
  unfold ac_structure_Blocks
  have hB : big = 9223372036854775807 := rfl
  rw [← fm_all]
  have hl := coll_len blkP_one e
  rw [← fm_all] at hl
  (repeat (first | (simp (disch := first | exact dis1 | fail) only [evA, Nat.reduceBEq, Nat.reduceAdd, Nat.reduceLeDiff, boxR, rboxR, allocR, fldR, binI, unR, pickR, mknilR, mkslR, buildSlR, buildR, extR, convI, eqB, evU, wrap64, encN_len, encN_flat, encN_five]) | (with_reducible intro _) | ((with_reducible apply And.intro); omega)))
  refine callX_fix (call_flat (structure_all_ok e hs) (flN rfl)) ?_
  have hlen : (allN e).length ≤ 1000 := by rw [allN_len]; exact hs
  generalize allN e = l at *
  generalize hR : fm blkP l = R at hl ⊢
  (repeat (first | (simp (disch := first | exact dis1 | fail) only [evA, Nat.reduceBEq, Nat.reduceAdd, Nat.reduceLeDiff, boxR, rboxR, allocR, fldR, binI, unR, pickR, mknilR, mkslR, buildSlR, buildR, extR, convI, eqB, evU, wrap64]) | (with_reducible intro _) | ((with_reducible apply And.intro); omega)))
  refine loopX_intro (fun s : Nat × List Int => ([(3, .own 0 0 0 0 s.2.length), (7, encL 5 encN l), (8, .int .i64 l.length), (9, .int .i64 s.1)], [(0, .row 1 (s.2.map cI) 0)])) 1 (fun s => s.1 ≤ l.length ∧ s.2 ++ fm blkP (l.drop s.1) = R) (fun s => l.length - s.1) (0, []) ⟨Nat.zero_le _, by simp only [List.drop_zero, List.nil_append]; exact hR⟩ (Ent.tab [(0, 1, 0)] [] rfl (by (try simp only [evWA, Nat.reduceBEq, Nat.reduceAdd, Nat.reduceSub, Nat.reduceLeDiff, Nat.reduceLT, implies_true, and_self, Int.natCast_zero, Int.natCast_one, Int.cast_ofNat_Int, evV, encInts, encNats, encBools, encP]) <;> exact fin2) (by (try simp only [evWA, Nat.reduceBEq, Nat.reduceAdd, Nat.reduceSub, Nat.reduceLeDiff, Nat.reduceLT, implies_true, and_self, Int.natCast_zero, Int.natCast_one, Int.cast_ofNat_Int, evV, encInts, encNats, encBools, encP]) <;> exact fin2)) ?_
  rintro ⟨i, x⟩ ⟨hi, hgo⟩ wf
  simp only at hi hgo
  unfold ac_structure_Blocks_l0
  by_cases hil : i < l.length
  · rw [fm_step hil] at hgo
    have hgd := getD_map (f := encN) (d := []) hil
    generalize hli : l[i] = y at hgd hgo
    obtain ⟨⟨kd, bl, lb⟩, c, m⟩ := y
    simp only [Nd.f] at hgo
    have hg : blkP ⟨kd, bl, lb⟩ = if kd = 2 ∨ kd = 5 then [bl] else [] := rfl
    rw [encN_eq] at hgd
    simp only at hgd
    have hxl := congrArg List.length hgo
    simp only [List.length_append] at hxl
    (repeat (first | (simp (disch := first | exact dis1 | fail) only [evA, Nat.reduceBEq, Nat.reduceAdd, Nat.reduceLeDiff, boxR, rboxR, allocR, fldR, binI, unR, pickR, mknilR, mkslR, buildSlR, buildR, extR, convI, eqB, evU, wrap64, dT, hgd, List.length_cons, List.length_nil]) | (with_reducible intro _) | ((with_reducible apply And.intro); omega)))
    by_cases h2 : kd = 2 ∨ kd = 5
    · rw [if_pos h2] at hg
      rw [hg, ← List.append_assoc] at hgo
      rcases h2 with h2 | h2
      · (repeat (first | (simp (disch := first | exact dis1 | fail) only [evA, Nat.reduceBEq, Nat.reduceAdd, Nat.reduceLeDiff, boxR, rboxR, allocR, fldR, binI, unR, pickR, mknilR, mkslR, buildSlR, buildR, extR, convI, eqB, evU, wrap64, dT]) | (with_reducible intro _) | ((with_reducible apply And.intro); omega)))
        exact ⟨(i + 1, x ++ [bl]), ⟨by simp only; omega, hgo⟩, by simp only; omega, (Ent.tab [(0, 0, 1)] [] rfl (by (try simp only [evWA, Nat.reduceBEq, Nat.reduceAdd, Nat.reduceSub, Nat.reduceLeDiff, Nat.reduceLT, implies_true, and_self, Int.natCast_zero, Int.natCast_one, Int.cast_ofNat_Int, evV, encInts, encNats, encBools, encP, List.length_append, List.map_append, List.length_cons, List.length_nil, List.map_cons, List.map_nil]) <;> exact fin2) (by (try simp only [evWA, Nat.reduceBEq, Nat.reduceAdd, Nat.reduceSub, Nat.reduceLeDiff, Nat.reduceLT, implies_true, and_self, Int.natCast_zero, Int.natCast_one, Int.cast_ofNat_Int, evV, encInts, encNats, encBools, encP, List.length_append, List.map_append, List.length_cons, List.length_nil, List.map_cons, List.map_nil]) <;> exact fin2))⟩
      · (repeat (first | (simp (disch := first | exact dis1 | fail) only [evA, Nat.reduceBEq, Nat.reduceAdd, Nat.reduceLeDiff, boxR, rboxR, allocR, fldR, binI, unR, pickR, mknilR, mkslR, buildSlR, buildR, extR, convI, eqB, evU, wrap64, dT, dF]) | (with_reducible intro _) | ((with_reducible apply And.intro); omega)))
        exact ⟨(i + 1, x ++ [bl]), ⟨by simp only; omega, hgo⟩, by simp only; omega, (Ent.tab [(0, 0, 1)] [] rfl (by (try simp only [evWA, Nat.reduceBEq, Nat.reduceAdd, Nat.reduceSub, Nat.reduceLeDiff, Nat.reduceLT, implies_true, and_self, Int.natCast_zero, Int.natCast_one, Int.cast_ofNat_Int, evV, encInts, encNats, encBools, encP, List.length_append, List.map_append, List.length_cons, List.length_nil, List.map_cons, List.map_nil]) <;> exact fin2) (by (try simp only [evWA, Nat.reduceBEq, Nat.reduceAdd, Nat.reduceSub, Nat.reduceLeDiff, Nat.reduceLT, implies_true, and_self, Int.natCast_zero, Int.natCast_one, Int.cast_ofNat_Int, evV, encInts, encNats, encBools, encP, List.length_append, List.map_append, List.length_cons, List.length_nil, List.map_cons, List.map_nil]) <;> exact fin2))⟩
    · rw [if_neg h2] at hg
      rw [hg, List.nil_append] at hgo
      (repeat (first | (simp (disch := first | exact dis1 | fail) only [evA, Nat.reduceBEq, Nat.reduceAdd, Nat.reduceLeDiff, boxR, rboxR, allocR, fldR, binI, unR, pickR, mknilR, mkslR, buildSlR, buildR, extR, convI, eqB, evU, wrap64, dF]) | (with_reducible intro _) | ((with_reducible apply And.intro); omega)))
      exact ⟨(i + 1, x), ⟨by simp only; omega, hgo⟩, by simp only; omega, (Ent.tab [(0, 0, 0)] [] rfl (by (try simp only [evWA, Nat.reduceBEq, Nat.reduceAdd, Nat.reduceSub, Nat.reduceLeDiff, Nat.reduceLT, implies_true, and_self, Int.natCast_zero, Int.natCast_one, Int.cast_ofNat_Int, evV, encInts, encNats, encBools, encP]) <;> exact fin2) (by (try simp only [evWA, Nat.reduceBEq, Nat.reduceAdd, Nat.reduceSub, Nat.reduceLeDiff, Nat.reduceLT, implies_true, and_self, Int.natCast_zero, Int.natCast_one, Int.cast_ofNat_Int, evV, encInts, encNats, encBools, encP]) <;> exact fin2))⟩
  · rw [List.drop_of_length_le (by omega), fm_nil, List.append_nil] at hgo
    subst hgo
    (repeat (first | (simp (disch := first | exact dis1 | fail) only [evA, Nat.reduceBEq, Nat.reduceAdd, Nat.reduceLeDiff, boxR, rboxR, allocR, fldR, binI, unR, pickR, mknilR, mkslR, buildSlR, buildR, extR, convI, eqB, evU, wrap64, dF]) | (with_reducible intro _) | ((with_reducible apply And.intro); omega)))
    unfold ac_structure_Blocks_k1
    (repeat (first | (simp (disch := first | exact dis1 | fail) only [evA, Nat.reduceBEq, Nat.reduceAdd, Nat.reduceLeDiff, boxR, rboxR, allocR, fldR, binI, unR, pickR, mknilR, mkslR, buildSlR, buildR, extR, convI, eqB, evU, wrap64, rs_structure_Blocks]) | (with_reducible intro _) | ((with_reducible apply And.intro); omega)))
    exact ⟨_, vw_ints (l := x) trivial rfl (by omega), rfl⟩

end Go.Ab

namespace Go.Ab
open Go.RowKit Go.Proofs

/-- Lists of lists. -/
def encLL (A : List (List Int)) : AV := encL 1 (fun r => [encInts r]) A

theorem take_succ_eq {α : Type} {A B : List α} {i : Nat} (h : A.take i = B.take i) (ha : i < A.length) (hb : i < B.length) (he : A[i] = B[i]) : A.take (i + 1) = B.take (i + 1) := by
  rw [List.take_add_one, List.take_add_one, h, List.getElem?_eq_getElem ha, List.getElem?_eq_getElem hb, he]

theorem R24_Lists_ok (A B : List (List Int)) : PureFn Tryz.prog f_R24_Lists [encLL A, encLL B] (· = .bool (decide (A = B))) := by
  refine fn_x cf_R24_Lists rfl ?_
  unfold ac_R24_Lists
  have hB : big = 9223372036854775807 := rfl
  (repeat (first | (simp (disch := first | exact dis1 | fail) only [evA, Nat.reduceBEq, Nat.reduceAdd, Nat.reduceLeDiff, boxR, rboxR, allocR, fldR, binI, unR, pickR, mknilR, mkslR, buildSlR, buildR, extR, convI, eqB, evU, wrap64, encLL]) | (with_reducible intro _) | ((with_reducible apply And.intro); omega)))
  (refine condX_intro (fun h => ?_) (fun h => ?_)) <;> (try simp only [decide_eq_true_eq, decide_eq_false_iff_not, Bool.not_eq_true', Bool.not_eq_false', Bool.and_eq_true, Bool.or_eq_true, not_true_eq_false, not_false_eq_true] at h)
  · (repeat (first | (simp (disch := first | exact dis1 | fail) only [evA, Nat.reduceBEq, Nat.reduceAdd, Nat.reduceLeDiff, boxR, rboxR, allocR, fldR, binI, unR, pickR, mknilR, mkslR, buildSlR, buildR, extR, convI, eqB, evU, wrap64, rs_R24_Lists]) | (with_reducible intro _) | ((with_reducible apply And.intro); omega)))
    refine ⟨_, .bool _ _, ?_⟩
    have : A ≠ B := fun e => h (by rw [e])
    simp [this]
  (repeat (first | (simp (disch := first | exact dis1 | fail) only [evA, Nat.reduceBEq, Nat.reduceAdd, Nat.reduceLeDiff, boxR, rboxR, allocR, fldR, binI, unR, pickR, mknilR, mkslR, buildSlR, buildR, extR, convI, eqB, evU, wrap64]) | (with_reducible intro _) | ((with_reducible apply And.intro); omega)))
  have hl : A.length = B.length := by omega
  refine loopX_intro (fun i : Nat => ([(0, encLL A), (1, encLL B), (5, .int .i64 i)], [])) 0 (fun i => i ≤ A.length ∧ A.take i = B.take i) (fun i => A.length - i) 0 ⟨Nat.zero_le _, by simp⟩ (Ent.keep rfl (by (try simp [subK, Kn.get, beq_eq]) <;> (repeat' with_reducible apply And.intro) <;> first | rfl | omega | (simp; done))) ?_
  intro i ⟨hi, ht⟩ wf
  unfold ac_R24_Lists_l2
  (repeat (first | (simp (disch := first | exact dis1 | fail) only [evA, Nat.reduceBEq, Nat.reduceAdd, Nat.reduceLeDiff, boxR, rboxR, allocR, fldR, binI, unR, pickR, mknilR, mkslR, buildSlR, buildR, extR, convI, eqB, evU, wrap64, encLL]) | (with_reducible intro _) | ((with_reducible apply And.intro); omega)))
  (refine condX_intro (fun h2 => ?_) (fun h2 => ?_)) <;> (try simp only [decide_eq_true_eq, decide_eq_false_iff_not, Bool.not_eq_true', Bool.not_eq_false', Bool.and_eq_true, Bool.or_eq_true, not_true_eq_false, not_false_eq_true] at h2)
  · have ha : i < A.length := by omega
    have hb : i < B.length := by omega
    (repeat (first | (simp (disch := first | exact dis1 | fail) only [evA, Nat.reduceBEq, Nat.reduceAdd, Nat.reduceLeDiff, boxR, rboxR, allocR, fldR, binI, unR, pickR, mknilR, mkslR, buildSlR, buildR, extR, convI, eqB, evU, wrap64, encLL, getD_map ha, getD_map hb, encInts]) | (with_reducible intro _) | ((with_reducible apply And.intro); omega)))
    (refine condX_intro (fun h3 => ?_) (fun h3 => ?_)) <;> (try simp only [decide_eq_true_eq, decide_eq_false_iff_not, Bool.not_eq_true', Bool.not_eq_false', Bool.and_eq_true, Bool.or_eq_true, not_true_eq_false, not_false_eq_true] at h3)
    · (repeat (first | (simp (disch := first | exact dis1 | fail) only [evA, Nat.reduceBEq, Nat.reduceAdd, Nat.reduceLeDiff, boxR, rboxR, allocR, fldR, binI, unR, pickR, mknilR, mkslR, buildSlR, buildR, extR, convI, eqB, evU, wrap64, rs_R24_Lists]) | (with_reducible intro _) | ((with_reducible apply And.intro); omega)))
      refine ⟨_, .bool _ _, ?_⟩
      have : A ≠ B := fun e => by subst e; exact h3 rfl
      simp [this]
    (repeat (first | (simp (disch := first | exact dis1 | fail) only [evA, Nat.reduceBEq, Nat.reduceAdd, Nat.reduceLeDiff, boxR, rboxR, allocR, fldR, binI, unR, pickR, mknilR, mkslR, buildSlR, buildR, extR, convI, eqB, evU, wrap64]) | (with_reducible intro _) | ((with_reducible apply And.intro); omega)))
    have hl2 : A[i].length = B[i].length := by omega
    refine loopX_intro (fun k : Nat => ([(0, encLL A), (1, encLL B), (5, .int .i64 i), (6, .int .i64 k)], [])) 0 (fun k => k ≤ A[i].length ∧ A[i].take k = B[i].take k) (fun k => A[i].length - k) 0 ⟨Nat.zero_le _, by simp⟩ (Ent.keep rfl (by (try simp [subK, Kn.get, beq_eq]) <;> (repeat' with_reducible apply And.intro) <;> first | rfl | omega | (simp; done))) ?_
    intro k ⟨hk, htk⟩ wf
    unfold ac_R24_Lists_l0
    (repeat (first | (simp (disch := first | exact dis1 | fail) only [evA, Nat.reduceBEq, Nat.reduceAdd, Nat.reduceLeDiff, boxR, rboxR, allocR, fldR, binI, unR, pickR, mknilR, mkslR, buildSlR, buildR, extR, convI, eqB, evU, wrap64, encLL, getD_map ha, encInts]) | (with_reducible intro _) | ((with_reducible apply And.intro); omega)))
    (refine condX_intro (fun h4 => ?_) (fun h4 => ?_)) <;> (try simp only [decide_eq_true_eq, decide_eq_false_iff_not, Bool.not_eq_true', Bool.not_eq_false', Bool.and_eq_true, Bool.or_eq_true, not_true_eq_false, not_false_eq_true] at h4)
    · have hka : k < A[i].length := by omega
      have hkb : k < B[i].length := by omega
      (repeat (first | (simp (disch := first | exact dis1 | fail) only [evA, Nat.reduceBEq, Nat.reduceAdd, Nat.reduceLeDiff, boxR, rboxR, allocR, fldR, binI, unR, pickR, mknilR, mkslR, buildSlR, buildR, extR, convI, eqB, evU, wrap64, encLL, getD_map ha, getD_map hb, encInts, getD_map hka, getD_map hkb]) | (with_reducible intro _) | ((with_reducible apply And.intro); omega)))
      (refine condX_intro (fun h5 => ?_) (fun h5 => ?_)) <;> (try simp only [decide_eq_true_eq, decide_eq_false_iff_not, Bool.not_eq_true', Bool.not_eq_false', Bool.and_eq_true, Bool.or_eq_true, not_true_eq_false, not_false_eq_true] at h5)
      · (repeat (first | (simp (disch := first | exact dis1 | fail) only [evA, Nat.reduceBEq, Nat.reduceAdd, Nat.reduceLeDiff, boxR, rboxR, allocR, fldR, binI, unR, pickR, mknilR, mkslR, buildSlR, buildR, extR, convI, eqB, evU, wrap64, rs_R24_Lists]) | (with_reducible intro _) | ((with_reducible apply And.intro); omega)))
        refine ⟨_, .bool _ _, ?_⟩
        have : A ≠ B := fun e => by subst e; exact h5 rfl
        simp [this]
      · (repeat (first | (simp (disch := first | exact dis1 | fail) only [evA, Nat.reduceBEq, Nat.reduceAdd, Nat.reduceLeDiff, boxR, rboxR, allocR, fldR, binI, unR, pickR, mknilR, mkslR, buildSlR, buildR, extR, convI, eqB, evU, wrap64]) | (with_reducible intro _) | ((with_reducible apply And.intro); omega)))
        exact ⟨k + 1, ⟨by omega, take_succ_eq htk hka hkb (by simpa using h5)⟩, by omega, Ent.keep rfl (by (try simp [subK, Kn.get, beq_eq]) <;> (repeat' with_reducible apply And.intro) <;> first | rfl | omega | (simp; done))⟩
    · unfold ac_R24_Lists_k1
      (repeat (first | (simp (disch := first | exact dis1 | fail) only [evA, Nat.reduceBEq, Nat.reduceAdd, Nat.reduceLeDiff, boxR, rboxR, allocR, fldR, binI, unR, pickR, mknilR, mkslR, buildSlR, buildR, extR, convI, eqB, evU, wrap64]) | (with_reducible intro _) | ((with_reducible apply And.intro); omega)))
      rw [List.take_of_length_le (show A[i].length ≤ k by omega), List.take_of_length_le (show B[i].length ≤ k by omega)] at htk
      exact ⟨i + 1, ⟨by omega, take_succ_eq ht ha hb htk⟩, by omega, Ent.keep rfl (by (try simp [subK, Kn.get, beq_eq]) <;> (repeat' with_reducible apply And.intro) <;> first | rfl | omega | (simp; done))⟩
  · unfold ac_R24_Lists_k3
    (repeat (first | (simp (disch := first | exact dis1 | fail) only [evA, Nat.reduceBEq, Nat.reduceAdd, Nat.reduceLeDiff, boxR, rboxR, allocR, fldR, binI, unR, pickR, mknilR, mkslR, buildSlR, buildR, extR, convI, eqB, evU, wrap64, rs_R24_Lists]) | (with_reducible intro _) | ((with_reducible apply And.intro); omega)))
    refine ⟨_, .bool _ _, ?_⟩
    rw [List.take_of_length_le (show A.length ≤ i by omega), List.take_of_length_le (show B.length ≤ i by omega)] at ht
    simp [ht]

theorem vw_LL {H H2 : AH} {σ : Nat → Nat → Option (Nat × Nat × Nat)} {D : Nat → Nat → Prop} {t : Bool} {r q g : Nat} {l : List (List Int)} (hD : D r q) (hg : H.get r q = some (.row 1 (l.map fun r => [encInts r]) g)) (hb : l.length ≤ big) :
    Vw H H2 σ D t (.own r q g 0 l.length) (encLL l) := by
  refine vw_encL hD hg hb (fun a _ j hj => ?_)
  obtain rfl : j = 0 := by omega
  exact .sl _ _ _ _

theorem R24_Ints_ok (a b : List Int) : PureFn Tryz.prog f_R24_Ints [encInts a, encInts b] (· = .bool (decide (a = b))) := by
  refine fn_x cf_R24_Ints rfl ?_
  unfold ac_R24_Ints
  (repeat (first | (simp (disch := first | exact dis1 | fail) only [evA, Nat.reduceBEq, Nat.reduceAdd, Nat.reduceLeDiff, boxR, rboxR, allocR, fldR, binI, unR, pickR, mknilR, mkslR, buildSlR, buildR, extR, convI, eqB, evU, wrap64, encInts]) | (with_reducible intro _) | ((with_reducible apply And.intro); omega)))
  refine callX_fix (call_fix (D := allR) (R24_Lists_ok [a] [b]) (.cons (vw_LL (l := [a]) trivial rfl (by simp [big])) (.cons (vw_LL (l := [b]) trivial rfl (by simp [big])) .nil)) (.inl rfl)) ?_
  (repeat (first | (simp (disch := first | exact dis1 | fail) only [evA, Nat.reduceBEq, Nat.reduceAdd, Nat.reduceLeDiff, boxR, rboxR, allocR, fldR, binI, unR, pickR, mknilR, mkslR, buildSlR, buildR, extR, convI, eqB, evU, wrap64, rs_R24_Ints]) | (with_reducible intro _) | ((with_reducible apply And.intro); omega)))
  refine ⟨_, .bool _ _, ?_⟩
  simp


theorem smallN_size {e : Nd} (h : smallN e = true) : sizeN e ≤ 1000 := by
  unfold smallN at h
  have h0 : 0 ≤ weightN e 300 := of_decide_eq_true h
  have := weight_size e 300 h0
  omega

theorem L36_StructureCounts_ok (e : Nd) : PureFn Tryz.prog f_L36_StructureCounts [.agg (encN e)] (· = .bool true) := by
  refine fn_x cf_L36_StructureCounts rfl ?_
  unfold ac_L36_StructureCounts
  have hB : big = 9223372036854775807 := rfl
  (repeat (first | (simp (disch := first | exact dis1 | fail) only [evA, Nat.reduceBEq, Nat.reduceAdd, Nat.reduceLeDiff, boxR, rboxR, allocR, fldR, binI, unR, pickR, mknilR, mkslR, buildSlR, buildR, extR, convI, eqB, evU, wrap64, encN_len, encN_flat, encN_five]) | (with_reducible intro _) | ((with_reducible apply And.intro); omega)))
  refine callX_fix (call_flat (L36_small_ok e) (flN rfl)) ?_
  cases hsm : smallN e with
  | false =>
    (repeat (first | (simp (disch := first | exact dis1 | fail) only [evA, Nat.reduceBEq, Nat.reduceAdd, Nat.reduceLeDiff, boxR, rboxR, allocR, fldR, binI, unR, pickR, mknilR, mkslR, buildSlR, buildR, extR, convI, eqB, evU, wrap64]) | (with_reducible intro _) | ((with_reducible apply And.intro); omega)))
    refine callX_fix (call_flat L36_exampleHolds_ok rfl) ?_
    (repeat (first | (simp (disch := first | exact dis1 | fail) only [evA, Nat.reduceBEq, Nat.reduceAdd, Nat.reduceLeDiff, boxR, rboxR, allocR, fldR, binI, unR, pickR, mknilR, mkslR, buildSlR, buildR, extR, convI, eqB, evU, wrap64, rs_L36_StructureCounts]) | (with_reducible intro _) | ((with_reducible apply And.intro); omega)))
    exact ⟨_, .bool _ _, rfl⟩
  | true =>
    have hs := smallN_size hsm
    (repeat (first | (simp (disch := first | exact dis1 | fail) only [evA, Nat.reduceBEq, Nat.reduceAdd, Nat.reduceLeDiff, boxR, rboxR, allocR, fldR, binI, unR, pickR, mknilR, mkslR, buildSlR, buildR, extR, convI, eqB, evU, wrap64, encN_len, encN_flat, encN_five]) | (with_reducible intro _) | ((with_reducible apply And.intro); omega)))
    refine callqX_fix (call_flat (structure_Gotos_ok e hs) (flN rfl)) ?_
    (repeat (first | (simp (disch := first | exact dis1 | fail) only [evA, Nat.reduceBEq, Nat.reduceAdd, Nat.reduceLeDiff, boxR, rboxR, allocR, fldR, binI, unR, pickR, mknilR, mkslR, buildSlR, buildR, extR, convI, eqB, evU, wrap64, encN_len, encN_flat, encN_five]) | (with_reducible intro _) | ((with_reducible apply And.intro); omega)))
    refine callqX_fix (call_flat (R36_Gotos_ok 1000 e hs (by omega)) (flN rfl)) ?_
    (repeat (first | (simp (disch := first | exact dis1 | fail) only [evA, Nat.reduceBEq, Nat.reduceAdd, Nat.reduceLeDiff, boxR, rboxR, allocR, fldR, binI, unR, pickR, mknilR, mkslR, buildSlR, buildR, extR, convI, eqB, evU, wrap64, encN_len, encN_flat, encN_five, dT]) | (with_reducible intro _) | ((with_reducible apply And.intro); omega)))
    refine callqX_fix (call_flat (structure_Labels_ok e hs) (flN rfl)) ?_
    (repeat (first | (simp (disch := first | exact dis1 | fail) only [evA, Nat.reduceBEq, Nat.reduceAdd, Nat.reduceLeDiff, boxR, rboxR, allocR, fldR, binI, unR, pickR, mknilR, mkslR, buildSlR, buildR, extR, convI, eqB, evU, wrap64, encN_len, encN_flat, encN_five]) | (with_reducible intro _) | ((with_reducible apply And.intro); omega)))
    refine callqX_fix (call_flat (R36_Labels_ok 1000 e hs (by omega)) (flN rfl)) ?_
    (repeat (first | (simp (disch := first | exact dis1 | fail) only [evA, Nat.reduceBEq, Nat.reduceAdd, Nat.reduceLeDiff, boxR, rboxR, allocR, fldR, binI, unR, pickR, mknilR, mkslR, buildSlR, buildR, extR, convI, eqB, evU, wrap64]) | (with_reducible intro _) | ((with_reducible apply And.intro); omega)))
    refine callqX_fix (call_flat (R24_Ints_ok (coll labP e) (coll labP e)) rfl) ?_
    rw [decide_eq_true rfl]
    (repeat (first | (simp (disch := first | exact dis1 | fail) only [evA, Nat.reduceBEq, Nat.reduceAdd, Nat.reduceLeDiff, boxR, rboxR, allocR, fldR, binI, unR, pickR, mknilR, mkslR, buildSlR, buildR, extR, convI, eqB, evU, wrap64, encN_len, encN_flat, encN_five]) | (with_reducible intro _) | ((with_reducible apply And.intro); omega)))
    refine callqX_fix (call_flat (structure_Blocks_ok e hs) (flN rfl)) ?_
    (repeat (first | (simp (disch := first | exact dis1 | fail) only [evA, Nat.reduceBEq, Nat.reduceAdd, Nat.reduceLeDiff, boxR, rboxR, allocR, fldR, binI, unR, pickR, mknilR, mkslR, buildSlR, buildR, extR, convI, eqB, evU, wrap64, encN_len, encN_flat, encN_five]) | (with_reducible intro _) | ((with_reducible apply And.intro); omega)))
    refine callqX_fix (call_flat (R36_Blocks_ok 1000 e hs (by omega)) (flN rfl)) ?_
    (repeat (first | (simp (disch := first | exact dis1 | fail) only [evA, Nat.reduceBEq, Nat.reduceAdd, Nat.reduceLeDiff, boxR, rboxR, allocR, fldR, binI, unR, pickR, mknilR, mkslR, buildSlR, buildR, extR, convI, eqB, evU, wrap64]) | (with_reducible intro _) | ((with_reducible apply And.intro); omega)))
    refine callqX_fix (call_flat (R24_Ints_ok (coll blkP e) (coll blkP e)) rfl) ?_
    rw [decide_eq_true rfl]
    (repeat (first | (simp (disch := first | exact dis1 | fail) only [evA, Nat.reduceBEq, Nat.reduceAdd, Nat.reduceLeDiff, boxR, rboxR, allocR, fldR, binI, unR, pickR, mknilR, mkslR, buildSlR, buildR, extR, convI, eqB, evU, wrap64]) | (with_reducible intro _) | ((with_reducible apply And.intro); omega)))
    refine callqX_fix (call_flat L36_exampleHolds_ok rfl) ?_
    (repeat (first | (simp (disch := first | exact dis1 | fail) only [evA, Nat.reduceBEq, Nat.reduceAdd, Nat.reduceLeDiff, boxR, rboxR, allocR, fldR, binI, unR, pickR, mknilR, mkslR, buildSlR, buildR, extR, convI, eqB, evU, wrap64, rs_L36_StructureCounts]) | (with_reducible intro _) | ((with_reducible apply And.intro); omega)))
    exact ⟨_, .bool _ _, rfl⟩

end Go.Ab
