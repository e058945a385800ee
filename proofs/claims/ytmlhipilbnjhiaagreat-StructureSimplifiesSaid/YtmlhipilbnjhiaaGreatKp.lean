/-
  Part 16 of the proof: how the calls of this program run, over values instead of memory, and what each function computes.
-/
import Derived.Test.YtmlhipilbnjhiaaGreatKo
set_option linter.unusedVariables false
set_option linter.unusedSimpArgs false
set_option linter.unnecessarySimpa false
set_option linter.unusedSectionVars false

namespace Go.Ab
open Go.RowKit Go.Proofs

def fm (p : NdF → List Int) (l : List Nd) : List Int := l.flatMap fun x => p x.f
theorem fm_step {p : NdF → List Int} {l : List Nd} {i : Nat} (h : i < l.length) : fm p (l.drop i) = p l[i].f ++ fm p (l.drop (i + 1)) := by
  rw [List.drop_eq_getElem_cons h, fm, List.flatMap_cons]; rfl
theorem fm_all (p : NdF → List Int) (n : Nd) : fm p (allN n) = coll p n := (coll_all p n).symm
theorem fm_nil (p : NdF → List Int) : fm p [] = [] := rfl

theorem structure_Gotos_ok (e : Nd) (hs : sizeN e ≤ 1000) : PureFn Tryz.prog f_structure_Gotos [.agg (encN e)] (· = .int .i64 (coll gotoP e).length) := by
  refine fn_x cf_structure_Gotos rfl ?_
  unfold ac_structure_Gotos
  have hB : big = 9223372036854775807 := rfl
  rw [← fm_all]
  have hl := coll_len gotoP_one e
  rw [← fm_all] at hl
  (repeat (first | (simp (disch := first | exact dis1 | fail) only [evA, Nat.reduceBEq, Nat.reduceAdd, Nat.reduceLeDiff, boxR, rboxR, allocR, fldR, binI, unR, pickR, mknilR, mkslR, buildSlR, buildR, extR, convI, eqB, evU, wrap64, encN_len, encN_flat, encN_five]) | (with_reducible intro _) | ((with_reducible apply And.intro); omega)))
  refine callX_fix (call_flat (structure_all_ok e hs) (flN rfl)) ?_
  have hlen : (allN e).length ≤ 1000 := by rw [allN_len]; exact hs
  generalize allN e = l at *
  generalize hR : (((fm gotoP l).length : Nat) : Int) = R
  (repeat (first | (simp (disch := first | exact dis1 | fail) only [evA, Nat.reduceBEq, Nat.reduceAdd, Nat.reduceLeDiff, boxR, rboxR, allocR, fldR, binI, unR, pickR, mknilR, mkslR, buildSlR, buildR, extR, convI, eqB, evU, wrap64]) | (with_reducible intro _) | ((with_reducible apply And.intro); omega)))
  refine loopX_intro (fun s : Nat × Nat => ([(3, .int .i64 s.2), (7, encL 5 encN l), (8, .int .i64 l.length), (9, .int .i64 s.1)], [])) 0 (fun s => s.1 ≤ l.length ∧ ((s.2 + (fm gotoP (l.drop s.1)).length : Nat) : Int) = R) (fun s => l.length - s.1) (0, 0) ⟨Nat.zero_le _, by simp only [List.drop_zero]; omega⟩ (Ent.keep rfl (by (try simp [subK, Kn.get, beq_eq]) <;> (repeat' with_reducible apply And.intro) <;> first | rfl | omega | (simp; done))) ?_
  rintro ⟨i, x⟩ ⟨hi, hgo⟩ wf
  simp only at hi hgo
  unfold ac_structure_Gotos_l0
  by_cases hil : i < l.length
  · rw [fm_step hil, List.length_append] at hgo
    have hgd := getD_map (f := encN) (d := []) hil
    generalize hli : l[i] = y at hgd hgo
    obtain ⟨⟨kd, bl, lb⟩, c, m⟩ := y
    simp only [Nd.f] at hgo
    have hg : gotoP ⟨kd, bl, lb⟩ = if kd = 9 then [lb] else [] := rfl
    rw [encN_eq] at hgd
    simp only at hgd
    (repeat (first | (simp (disch := first | exact dis1 | fail) only [evA, Nat.reduceBEq, Nat.reduceAdd, Nat.reduceLeDiff, boxR, rboxR, allocR, fldR, binI, unR, pickR, mknilR, mkslR, buildSlR, buildR, extR, convI, eqB, evU, wrap64, dT, hgd, List.length_cons, List.length_nil]) | (with_reducible intro _) | ((with_reducible apply And.intro); omega)))
    have hxl : x ≤ 1000 := by omega
    (refine condX_intro (fun h9 => ?_) (fun h9 => ?_)) <;> (try simp only [decide_eq_true_eq, decide_eq_false_iff_not, Bool.not_eq_true', Bool.not_eq_false', Bool.and_eq_true, Bool.or_eq_true, not_true_eq_false, not_false_eq_true] at h9)
    · rw [if_pos h9] at hg
      rw [hg] at hgo
      simp only [List.length_cons, List.length_nil] at hgo
      (repeat (first | (simp (disch := first | exact dis1 | fail) only [evA, Nat.reduceBEq, Nat.reduceAdd, Nat.reduceLeDiff, boxR, rboxR, allocR, fldR, binI, unR, pickR, mknilR, mkslR, buildSlR, buildR, extR, convI, eqB, evU, wrap64]) | (with_reducible intro _) | ((with_reducible apply And.intro); omega)))
      exact ⟨(i + 1, x + 1), ⟨by simp only; omega, by simp only; omega⟩, by simp only; omega, (Ent.tab [] [] rfl (by (try simp only [evWA, Nat.reduceBEq, Nat.reduceAdd, Nat.reduceSub, Nat.reduceLeDiff, Nat.reduceLT, implies_true, and_self, Int.natCast_zero, Int.natCast_one, Int.cast_ofNat_Int, evV, encInts, encNats, encBools, encP]) <;> exact fin2) (by (try simp only [evWA, Nat.reduceBEq, Nat.reduceAdd, Nat.reduceSub, Nat.reduceLeDiff, Nat.reduceLT, implies_true, and_self, Int.natCast_zero, Int.natCast_one, Int.cast_ofNat_Int, evV, encInts, encNats, encBools, encP]) <;> exact fin2))⟩
    · rw [if_neg h9] at hg
      rw [hg] at hgo
      simp only [List.length_nil] at hgo
      (repeat (first | (simp (disch := first | exact dis1 | fail) only [evA, Nat.reduceBEq, Nat.reduceAdd, Nat.reduceLeDiff, boxR, rboxR, allocR, fldR, binI, unR, pickR, mknilR, mkslR, buildSlR, buildR, extR, convI, eqB, evU, wrap64]) | (with_reducible intro _) | ((with_reducible apply And.intro); omega)))
      exact ⟨(i + 1, x), ⟨by simp only; omega, by simp only; omega⟩, by simp only; omega, (Ent.tab [] [] rfl (by (try simp only [evWA, Nat.reduceBEq, Nat.reduceAdd, Nat.reduceSub, Nat.reduceLeDiff, Nat.reduceLT, implies_true, and_self, Int.natCast_zero, Int.natCast_one, Int.cast_ofNat_Int, evV, encInts, encNats, encBools, encP]) <;> exact fin2) (by (try simp only [evWA, Nat.reduceBEq, Nat.reduceAdd, Nat.reduceSub, Nat.reduceLeDiff, Nat.reduceLT, implies_true, and_self, Int.natCast_zero, Int.natCast_one, Int.cast_ofNat_Int, evV, encInts, encNats, encBools, encP]) <;> exact fin2))⟩
  · rw [List.drop_of_length_le (by omega), fm_nil] at hgo
    simp only [List.length_nil, Nat.add_zero] at hgo
    subst hgo
    (repeat (first | (simp (disch := first | exact dis1 | fail) only [evA, Nat.reduceBEq, Nat.reduceAdd, Nat.reduceLeDiff, boxR, rboxR, allocR, fldR, binI, unR, pickR, mknilR, mkslR, buildSlR, buildR, extR, convI, eqB, evU, wrap64, dF]) | (with_reducible intro _) | ((with_reducible apply And.intro); omega)))
    unfold ac_structure_Gotos_k1
    (repeat (first | (simp (disch := first | exact dis1 | fail) only [evA, Nat.reduceBEq, Nat.reduceAdd, Nat.reduceLeDiff, boxR, rboxR, allocR, fldR, binI, unR, pickR, mknilR, mkslR, buildSlR, buildR, extR, convI, eqB, evU, wrap64, rs_structure_Gotos]) | (with_reducible intro _) | ((with_reducible apply And.intro); omega)))
    exact ⟨_, .int _ _ _, rfl⟩

theorem structure_Labels_ok (e : Nd) (hs : sizeN e ≤ 1000) : PureFn Tryz.prog f_structure_Labels [.agg (encN e)] (· = encInts (coll labP e)) := by
  refine fn_x cf_structure_Labels rfl ?_
  unfold ac_structure_Labels
  have hB : big = 9223372036854775807 := rfl
  rw [← fm_all]
  have hl := coll_len labP_one e
  rw [← fm_all] at hl
  (repeat (first | (simp (disch := first | exact dis1 | fail) only [evA, Nat.reduceBEq, Nat.reduceAdd, Nat.reduceLeDiff, boxR, rboxR, allocR, fldR, binI, unR, pickR, mknilR, mkslR, buildSlR, buildR, extR, convI, eqB, evU, wrap64, encN_len, encN_flat, encN_five]) | (with_reducible intro _) | ((with_reducible apply And.intro); omega)))
  refine callX_fix (call_flat (structure_all_ok e hs) (flN rfl)) ?_
  have hlen : (allN e).length ≤ 1000 := by rw [allN_len]; exact hs
  generalize allN e = l at *
  generalize hR : fm labP l = R at hl ⊢
  (repeat (first | (simp (disch := first | exact dis1 | fail) only [evA, Nat.reduceBEq, Nat.reduceAdd, Nat.reduceLeDiff, boxR, rboxR, allocR, fldR, binI, unR, pickR, mknilR, mkslR, buildSlR, buildR, extR, convI, eqB, evU, wrap64]) | (with_reducible intro _) | ((with_reducible apply And.intro); omega)))
  refine loopX_intro (fun s : Nat × List Int => ([(3, .own 0 0 0 0 s.2.length), (7, encL 5 encN l), (8, .int .i64 l.length), (9, .int .i64 s.1)], [(0, .row 1 (s.2.map cI) 0)])) 1 (fun s => s.1 ≤ l.length ∧ s.2 ++ fm labP (l.drop s.1) = R) (fun s => l.length - s.1) (0, []) ⟨Nat.zero_le _, by simp only [List.drop_zero, List.nil_append]; exact hR⟩ (Ent.tab [(0, 1, 0)] [] rfl (by (try simp only [evWA, Nat.reduceBEq, Nat.reduceAdd, Nat.reduceSub, Nat.reduceLeDiff, Nat.reduceLT, implies_true, and_self, Int.natCast_zero, Int.natCast_one, Int.cast_ofNat_Int, evV, encInts, encNats, encBools, encP]) <;> exact fin2) (by (try simp only [evWA, Nat.reduceBEq, Nat.reduceAdd, Nat.reduceSub, Nat.reduceLeDiff, Nat.reduceLT, implies_true, and_self, Int.natCast_zero, Int.natCast_one, Int.cast_ofNat_Int, evV, encInts, encNats, encBools, encP]) <;> exact fin2)) ?_
  rintro ⟨i, x⟩ ⟨hi, hgo⟩ wf
  simp only at hi hgo
  unfold ac_structure_Labels_l0
  by_cases hil : i < l.length
  · rw [fm_step hil] at hgo
    have hgd := getD_map (f := encN) (d := []) hil
    generalize hli : l[i] = y at hgd hgo
    obtain ⟨⟨kd, bl, lb⟩, c, m⟩ := y
    simp only [Nd.f] at hgo
    have hg : labP ⟨kd, bl, lb⟩ = if kd = 10 then [lb] else [] := rfl
    rw [encN_eq] at hgd
    simp only at hgd
    have hxl := congrArg List.length hgo
    simp only [List.length_append] at hxl
    (repeat (first | (simp (disch := first | exact dis1 | fail) only [evA, Nat.reduceBEq, Nat.reduceAdd, Nat.reduceLeDiff, boxR, rboxR, allocR, fldR, binI, unR, pickR, mknilR, mkslR, buildSlR, buildR, extR, convI, eqB, evU, wrap64, dT, hgd, List.length_cons, List.length_nil]) | (with_reducible intro _) | ((with_reducible apply And.intro); omega)))
    (refine condX_intro (fun h9 => ?_) (fun h9 => ?_)) <;> (try simp only [decide_eq_true_eq, decide_eq_false_iff_not, Bool.not_eq_true', Bool.not_eq_false', Bool.and_eq_true, Bool.or_eq_true, not_true_eq_false, not_false_eq_true] at h9)
    · rw [if_pos h9] at hg
      rw [hg, ← List.append_assoc] at hgo
      (repeat (first | (simp (disch := first | exact dis1 | fail) only [evA, Nat.reduceBEq, Nat.reduceAdd, Nat.reduceLeDiff, boxR, rboxR, allocR, fldR, binI, unR, pickR, mknilR, mkslR, buildSlR, buildR, extR, convI, eqB, evU, wrap64]) | (with_reducible intro _) | ((with_reducible apply And.intro); omega)))
      exact ⟨(i + 1, x ++ [lb]), ⟨by simp only; omega, hgo⟩, by simp only; omega, (Ent.tab [(0, 0, 1)] [] rfl (by (try simp only [evWA, Nat.reduceBEq, Nat.reduceAdd, Nat.reduceSub, Nat.reduceLeDiff, Nat.reduceLT, implies_true, and_self, Int.natCast_zero, Int.natCast_one, Int.cast_ofNat_Int, evV, encInts, encNats, encBools, encP, List.length_append, List.map_append, List.length_cons, List.length_nil, List.map_cons, List.map_nil]) <;> exact fin2) (by (try simp only [evWA, Nat.reduceBEq, Nat.reduceAdd, Nat.reduceSub, Nat.reduceLeDiff, Nat.reduceLT, implies_true, and_self, Int.natCast_zero, Int.natCast_one, Int.cast_ofNat_Int, evV, encInts, encNats, encBools, encP, List.length_append, List.map_append, List.length_cons, List.length_nil, List.map_cons, List.map_nil]) <;> exact fin2))⟩
    · rw [if_neg h9] at hg
      rw [hg, List.nil_append] at hgo
      (repeat (first | (simp (disch := first | exact dis1 | fail) only [evA, Nat.reduceBEq, Nat.reduceAdd, Nat.reduceLeDiff, boxR, rboxR, allocR, fldR, binI, unR, pickR, mknilR, mkslR, buildSlR, buildR, extR, convI, eqB, evU, wrap64]) | (with_reducible intro _) | ((with_reducible apply And.intro); omega)))
      exact ⟨(i + 1, x), ⟨by simp only; omega, hgo⟩, by simp only; omega, (Ent.tab [(0, 0, 0)] [] rfl (by (try simp only [evWA, Nat.reduceBEq, Nat.reduceAdd, Nat.reduceSub, Nat.reduceLeDiff, Nat.reduceLT, implies_true, and_self, Int.natCast_zero, Int.natCast_one, Int.cast_ofNat_Int, evV, encInts, encNats, encBools, encP]) <;> exact fin2) (by (try simp only [evWA, Nat.reduceBEq, Nat.reduceAdd, Nat.reduceSub, Nat.reduceLeDiff, Nat.reduceLT, implies_true, and_self, Int.natCast_zero, Int.natCast_one, Int.cast_ofNat_Int, evV, encInts, encNats, encBools, encP]) <;> exact fin2))⟩
  · rw [List.drop_of_length_le (by omega), fm_nil, List.append_nil] at hgo
    subst hgo
    (repeat (first | (simp (disch := first | exact dis1 | fail) only [evA, Nat.reduceBEq, Nat.reduceAdd, Nat.reduceLeDiff, boxR, rboxR, allocR, fldR, binI, unR, pickR, mknilR, mkslR, buildSlR, buildR, extR, convI, eqB, evU, wrap64, dF]) | (with_reducible intro _) | ((with_reducible apply And.intro); omega)))
    unfold ac_structure_Labels_k1
    (repeat (first | (simp (disch := first | exact dis1 | fail) only [evA, Nat.reduceBEq, Nat.reduceAdd, Nat.reduceLeDiff, boxR, rboxR, allocR, fldR, binI, unR, pickR, mknilR, mkslR, buildSlR, buildR, extR, convI, eqB, evU, wrap64, rs_structure_Labels]) | (with_reducible intro _) | ((with_reducible apply And.intro); omega)))
    exact ⟨_, vw_ints (l := x) trivial rfl (by omega), rfl⟩

theorem structure_Blocks_ok (e : Nd) (hs : sizeN e ≤ 1000) : PureFn Tryz.prog f_structure_Blocks [.agg (encN e)] (· = encInts (coll blkP e)) := by
  refine fn_x cf_structure_Blocks rfl ?_
  unfold ac_structure_Blocks
  have hB : big = 9223372036854775807 := rfl
  rw [← fm_all]
  have hl := coll_len blkP_one e
  rw [← fm_all] at hl
  (repeat (first | (simp (disch := first | exact dis1 | fail) only [evA, Nat.reduceBEq, Nat.reduceAdd, Nat.reduceLeDiff, boxR, rboxR, allocR, fldR, binI, unR, pickR, mknilR, mkslR, buildSlR, buildR, extR, convI, eqB, evU, wrap64, encN_len, encN_flat, encN_five]) | (with_reducible intro _) | ((with_reducible apply And.intro); omega)))
  refine callX_fix (call_flat (structure_all_ok e hs) (flN rfl)) ?_
  have hlen : (allN e).length ≤ 1000 := by rw [allN_len]; exact hs
  generalize allN e = l at *
  generalize hR : fm blkP l = R at hl ⊢
  (repeat (first | (simp (disch := first | exact dis1 | fail) only [evA, Nat.reduceBEq, Nat.reduceAdd, Nat.reduceLeDiff, boxR, rboxR, allocR, fldR, binI, unR, pickR, mknilR, mkslR, buildSlR, buildR, extR, convI, eqB, evU, wrap64]) | (with_reducible intro _) | ((with_reducible apply And.intro); omega)))
  refine loopX_intro (fun s : Nat × List Int => ([(3, .own 0 0 0 0 s.2.length), (7, encL 5 encN l), (8, .int .i64 l.length), (9, .int .i64 s.1)], [(0, .row 1 (s.2.map cI) 0)])) 1 (fun s => s.1 ≤ l.length ∧ s.2 ++ fm blkP (l.drop s.1) = R) (fun s => l.length - s.1) (0, []) ⟨Nat.zero_le _, by simp only [List.drop_zero, List.nil_append]; exact hR⟩ (Ent.tab [(0, 1, 0)] [] rfl (by (try simp only [evWA, Nat.reduceBEq, Nat.reduceAdd, Nat.reduceSub, Nat.reduceLeDiff, Nat.reduceLT, implies_true, and_self, Int.natCast_zero, Int.natCast_one, Int.cast_ofNat_Int, evV, encInts, encNats, encBools, encP]) <;> exact fin2) (by (try simp only [evWA, Nat.reduceBEq, Nat.reduceAdd, Nat.reduceSub, Nat.reduceLeDiff, Nat.reduceLT, implies_true, and_self, Int.natCast_zero, Int.natCast_one, Int.cast_ofNat_Int, evV, encInts, encNats, encBools, encP]) <;> exact fin2)) ?_
  rintro ⟨i, x⟩ ⟨hi, hgo⟩ wf
  simp only at hi hgo
  unfold ac_structure_Blocks_l0
  by_cases hil : i < l.length
  · rw [fm_step hil] at hgo
    have hgd := getD_map (f := encN) (d := []) hil
    generalize hli : l[i] = y at hgd hgo
    obtain ⟨⟨kd, bl, lb⟩, c, m⟩ := y
    simp only [Nd.f] at hgo
    have hg : blkP ⟨kd, bl, lb⟩ = if kd = 2 ∨ kd = 5 then [bl] else [] := rfl
    rw [encN_eq] at hgd
    simp only at hgd
    have hxl := congrArg List.length hgo
    simp only [List.length_append] at hxl
    (repeat (first | (simp (disch := first | exact dis1 | fail) only [evA, Nat.reduceBEq, Nat.reduceAdd, Nat.reduceLeDiff, boxR, rboxR, allocR, fldR, binI, unR, pickR, mknilR, mkslR, buildSlR, buildR, extR, convI, eqB, evU, wrap64, dT, hgd, List.length_cons, List.length_nil]) | (with_reducible intro _) | ((with_reducible apply And.intro); omega)))
    by_cases h2 : kd = 2 ∨ kd = 5
    · rw [if_pos h2] at hg
      rw [hg, ← List.append_assoc] at hgo
      rcases h2 with h2 | h2
      · (repeat (first | (simp (disch := first | exact dis1 | fail) only [evA, Nat.reduceBEq, Nat.reduceAdd, Nat.reduceLeDiff, boxR, rboxR, allocR, fldR, binI, unR, pickR, mknilR, mkslR, buildSlR, buildR, extR, convI, eqB, evU, wrap64, dT]) | (with_reducible intro _) | ((with_reducible apply And.intro); omega)))
        exact ⟨(i + 1, x ++ [bl]), ⟨by simp only; omega, hgo⟩, by simp only; omega, (Ent.tab [(0, 0, 1)] [] rfl (by (try simp only [evWA, Nat.reduceBEq, Nat.reduceAdd, Nat.reduceSub, Nat.reduceLeDiff, Nat.reduceLT, implies_true, and_self, Int.natCast_zero, Int.natCast_one, Int.cast_ofNat_Int, evV, encInts, encNats, encBools, encP, List.length_append, List.map_append, List.length_cons, List.length_nil, List.map_cons, List.map_nil]) <;> exact fin2) (by (try simp only [evWA, Nat.reduceBEq, Nat.reduceAdd, Nat.reduceSub, Nat.reduceLeDiff, Nat.reduceLT, implies_true, and_self, Int.natCast_zero, Int.natCast_one, Int.cast_ofNat_Int, evV, encInts, encNats, encBools, encP, List.length_append, List.map_append, List.length_cons, List.length_nil, List.map_cons, List.map_nil]) <;> exact fin2))⟩
      · (repeat (first | (simp (disch := first | exact dis1 | fail) only [evA, Nat.reduceBEq, Nat.reduceAdd, Nat.reduceLeDiff, boxR, rboxR, allocR, fldR, binI, unR, pickR, mknilR, mkslR, buildSlR, buildR, extR, convI, eqB, evU, wrap64, dT, dF]) | (with_reducible intro _) | ((with_reducible apply And.intro); omega)))
        exact ⟨(i + 1, x ++ [bl]), ⟨by simp only; omega, hgo⟩, by simp only; omega, (Ent.tab [(0, 0, 1)] [] rfl (by (try simp only [evWA, Nat.reduceBEq, Nat.reduceAdd, Nat.reduceSub, Nat.reduceLeDiff, Nat.reduceLT, implies_true, and_self, Int.natCast_zero, Int.natCast_one, Int.cast_ofNat_Int, evV, encInts, encNats, encBools, encP, List.length_append, List.map_append, List.length_cons, List.length_nil, List.map_cons, List.map_nil]) <;> exact fin2) (by (try simp only [evWA, Nat.reduceBEq, Nat.reduceAdd, Nat.reduceSub, Nat.reduceLeDiff, Nat.reduceLT, implies_true, and_self, Int.natCast_zero, Int.natCast_one, Int.cast_ofNat_Int, evV, encInts, encNats, encBools, encP, List.length_append, List.map_append, List.length_cons, List.length_nil, List.map_cons, List.map_nil]) <;> exact fin2))⟩
    · rw [if_neg h2] at hg
      rw [hg, List.nil_append] at hgo
      (repeat (first | (simp (disch := first | exact dis1 | fail) only [evA, Nat.reduceBEq, Nat.reduceAdd, Nat.reduceLeDiff, boxR, rboxR, allocR, fldR, binI, unR, pickR, mknilR, mkslR, buildSlR, buildR, extR, convI, eqB, evU, wrap64, dF]) | (with_reducible intro _) | ((with_reducible apply And.intro); omega)))
      exact ⟨(i + 1, x), ⟨by simp only; omega, hgo⟩, by simp only; omega, (Ent.tab [(0, 0, 0)] [] rfl (by (try simp only [evWA, Nat.reduceBEq, Nat.reduceAdd, Nat.reduceSub, Nat.reduceLeDiff, Nat.reduceLT, implies_true, and_self, Int.natCast_zero, Int.natCast_one, Int.cast_ofNat_Int, evV, encInts, encNats, encBools, encP]) <;> exact fin2) (by (try simp only [evWA, Nat.reduceBEq, Nat.reduceAdd, Nat.reduceSub, Nat.reduceLeDiff, Nat.reduceLT, implies_true, and_self, Int.natCast_zero, Int.natCast_one, Int.cast_ofNat_Int, evV, encInts, encNats, encBools, encP]) <;> exact fin2))⟩
  · rw [List.drop_of_length_le (by omega), fm_nil, List.append_nil] at hgo
    subst hgo
    (repeat (first | (simp (disch := first | exact dis1 | fail) only [evA, Nat.reduceBEq, Nat.reduceAdd, Nat.reduceLeDiff, boxR, rboxR, allocR, fldR, binI, unR, pickR, mknilR, mkslR, buildSlR, buildR, extR, convI, eqB, evU, wrap64, dF]) | (with_reducible intro _) | ((with_reducible apply And.intro); omega)))
    unfold ac_structure_Blocks_k1
    (repeat (first | (simp (disch := first | exact dis1 | fail) only [evA, Nat.reduceBEq, Nat.reduceAdd, Nat.reduceLeDiff, boxR, rboxR, allocR, fldR, binI, unR, pickR, mknilR, mkslR, buildSlR, buildR, extR, convI, eqB, evU, wrap64, rs_structure_Blocks]) | (with_reducible intro _) | ((with_reducible apply And.intro); omega)))
    exact ⟨_, vw_ints (l := x) trivial rfl (by omega), rfl⟩

end Go.Ab

namespace Go.Ab
open Go.RowKit Go.Proofs

/-- Lists of lists. -/
def encLL (A : List (List Int)) : AV := encL 1 (fun r => [encInts r]) A

theorem take_succ_eq {α : Type} {A B : List α} {i : Nat} (h : A.take i = B.take i) (ha : i < A.length) (hb : i < B.length) (he : A[i] = B[i]) : A.take (i + 1) = B.take (i + 1) := by
  rw [List.take_add_one, List.take_add_one, h, List.getElem?_eq_getElem ha, List.getElem?_eq_getElem hb, he]

theorem R24_Lists_ok (A B : List (List Int)) : PureFn Tryz.prog f_R24_Lists [encLL A, encLL B] (· = .bool (decide (A = B))) := by
  refine fn_x cf_R24_Lists rfl ?_
  unfold ac_R24_Lists
  have hB : big = 9223372036854775807 := rfl
  (repeat (first | (simp (disch := first | exact dis1 | fail) only [evA, Nat.reduceBEq, Nat.reduceAdd, Nat.reduceLeDiff, boxR, rboxR, allocR, fldR, binI, unR, pickR, mknilR, mkslR, buildSlR, buildR, extR, convI, eqB, evU, wrap64, encLL]) | (with_reducible intro _) | ((with_reducible apply And.intro); omega)))
  (refine condX_intro (fun h => ?_) (fun h => ?_)) <;> (try simp only [decide_eq_true_eq, decide_eq_false_iff_not, Bool.not_eq_true', Bool.not_eq_false', Bool.and_eq_true, Bool.or_eq_true, not_true_eq_false, not_false_eq_true] at h)
  · (repeat (first | (simp (disch := first | exact dis1 | fail) only [evA, Nat.reduceBEq, Nat.reduceAdd, Nat.reduceLeDiff, boxR, rboxR, allocR, fldR, binI, unR, pickR, mknilR, mkslR, buildSlR, buildR, extR, convI, eqB, evU, wrap64, rs_R24_Lists]) | (with_reducible intro _) | ((with_reducible apply And.intro); omega)))
    refine ⟨_, .bool _ _, ?_⟩
    have : A ≠ B := fun e => h (by rw [e])
    simp [this]
  (repeat (first | (simp (disch := first | exact dis1 | fail) only [evA, Nat.reduceBEq, Nat.reduceAdd, Nat.reduceLeDiff, boxR, rboxR, allocR, fldR, binI, unR, pickR, mknilR, mkslR, buildSlR, buildR, extR, convI, eqB, evU, wrap64]) | (with_reducible intro _) | ((with_reducible apply And.intro); omega)))
  have hl : A.length = B.length := by omega
  refine loopX_intro (fun i : Nat => ([(0, encLL A), (1, encLL B), (5, .int .i64 i)], [])) 0 (fun i => i ≤ A.length ∧ A.take i = B.take i) (fun i => A.length - i) 0 ⟨Nat.zero_le _, by simp⟩ (Ent.keep rfl (by (try simp [subK, Kn.get, beq_eq]) <;> (repeat' with_reducible apply And.intro) <;> first | rfl | omega | (simp; done))) ?_
  intro i ⟨hi, ht⟩ wf
  unfold ac_R24_Lists_l2
  (repeat (first | (simp (disch := first | exact dis1 | fail) only [evA, Nat.reduceBEq, Nat.reduceAdd, Nat.reduceLeDiff, boxR, rboxR, allocR, fldR, binI, unR, pickR, mknilR, mkslR, buildSlR, buildR, extR, convI, eqB, evU, wrap64, encLL]) | (with_reducible intro _) | ((with_reducible apply And.intro); omega)))
  (refine condX_intro (fun h2 => ?_) (fun h2 => ?_)) <;> (try simp only [decide_eq_true_eq, decide_eq_false_iff_not, Bool.not_eq_true', Bool.not_eq_false', Bool.and_eq_true, Bool.or_eq_true, not_true_eq_false, not_false_eq_true] at h2)
  · have ha : i < A.length := by omega
    have hb : i < B.length := by omega
    (repeat (first | (simp (disch := first | exact dis1 | fail) only [evA, Nat.reduceBEq, Nat.reduceAdd, Nat.reduceLeDiff, boxR, rboxR, allocR, fldR, binI, unR, pickR, mknilR, mkslR, buildSlR, buildR, extR, convI, eqB, evU, wrap64, encLL, getD_map ha, getD_map hb, encInts]) | (with_reducible intro _) | ((with_reducible apply And.intro); omega)))
    (refine condX_intro (fun h3 => ?_) (fun h3 => ?_)) <;> (try simp only [decide_eq_true_eq, decide_eq_false_iff_not, Bool.not_eq_true', Bool.not_eq_false', Bool.and_eq_true, Bool.or_eq_true, not_true_eq_false, not_false_eq_true] at h3)
    · (repeat (first | (simp (disch := first | exact dis1 | fail) only [evA, Nat.reduceBEq, Nat.reduceAdd, Nat.reduceLeDiff, boxR, rboxR, allocR, fldR, binI, unR, pickR, mknilR, mkslR, buildSlR, buildR, extR, convI, eqB, evU, wrap64, rs_R24_Lists]) | (with_reducible intro _) | ((with_reducible apply And.intro); omega)))
      refine ⟨_, .bool _ _, ?_⟩
      have : A ≠ B := fun e => by subst e; exact h3 rfl
      simp [this]
    (repeat (first | (simp (disch := first | exact dis1 | fail) only [evA, Nat.reduceBEq, Nat.reduceAdd, Nat.reduceLeDiff, boxR, rboxR, allocR, fldR, binI, unR, pickR, mknilR, mkslR, buildSlR, buildR, extR, convI, eqB, evU, wrap64]) | (with_reducible intro _) | ((with_reducible apply And.intro); omega)))
    have hl2 : A[i].length = B[i].length := by omega
    refine loopX_intro (fun k : Nat => ([(0, encLL A), (1, encLL B), (5, .int .i64 i), (6, .int .i64 k)], [])) 0 (fun k => k ≤ A[i].length ∧ A[i].take k = B[i].take k) (fun k => A[i].length - k) 0 ⟨Nat.zero_le _, by simp⟩ (Ent.keep rfl (by (try simp [subK, Kn.get, beq_eq]) <;> (repeat' with_reducible apply And.intro) <;> first | rfl | omega | (simp; done))) ?_
    intro k ⟨hk, htk⟩ wf
    unfold ac_R24_Lists_l0
    (repeat (first | (simp (disch := first | exact dis1 | fail) only [evA, Nat.reduceBEq, Nat.reduceAdd, Nat.reduceLeDiff, boxR, rboxR, allocR, fldR, binI, unR, pickR, mknilR, mkslR, buildSlR, buildR, extR, convI, eqB, evU, wrap64, encLL, getD_map ha, encInts]) | (with_reducible intro _) | ((with_reducible apply And.intro); omega)))
    (refine condX_intro (fun h4 => ?_) (fun h4 => ?_)) <;> (try simp only [decide_eq_true_eq, decide_eq_false_iff_not, Bool.not_eq_true', Bool.not_eq_false', Bool.and_eq_true, Bool.or_eq_true, not_true_eq_false, not_false_eq_true] at h4)
    · have hka : k < A[i].length := by omega
      have hkb : k < B[i].length := by omega
      (repeat (first | (simp (disch := first | exact dis1 | fail) only [evA, Nat.reduceBEq, Nat.reduceAdd, Nat.reduceLeDiff, boxR, rboxR, allocR, fldR, binI, unR, pickR, mknilR, mkslR, buildSlR, buildR, extR, convI, eqB, evU, wrap64, encLL, getD_map ha, getD_map hb, encInts, getD_map hka, getD_map hkb]) | (with_reducible intro _) | ((with_reducible apply And.intro); omega)))
      (refine condX_intro (fun h5 => ?_) (fun h5 => ?_)) <;> (try simp only [decide_eq_true_eq, decide_eq_false_iff_not, Bool.not_eq_true', Bool.not_eq_false', Bool.and_eq_true, Bool.or_eq_true, not_true_eq_false, not_false_eq_true] at h5)
      · (repeat (first | (simp (disch := first | exact dis1 | fail) only [evA, Nat.reduceBEq, Nat.reduceAdd, Nat.reduceLeDiff, boxR, rboxR, allocR, fldR, binI, unR, pickR, mknilR, mkslR, buildSlR, buildR, extR, convI, eqB, evU, wrap64, rs_R24_Lists]) | (with_reducible intro _) | ((with_reducible apply And.intro); omega)))
        refine ⟨_, .bool _ _, ?_⟩
        have : A ≠ B := fun e => by subst e; exact h5 rfl
        simp [this]
      · (repeat (first | (simp (disch := first | exact dis1 | fail) only [evA, Nat.reduceBEq, Nat.reduceAdd, Nat.reduceLeDiff, boxR, rboxR, allocR, fldR, binI, unR, pickR, mknilR, mkslR, buildSlR, buildR, extR, convI, eqB, evU, wrap64]) | (with_reducible intro _) | ((with_reducible apply And.intro); omega)))
        exact ⟨k + 1, ⟨by omega, take_succ_eq htk hka hkb (by simpa using h5)⟩, by omega, Ent.keep rfl (by (try simp [subK, Kn.get, beq_eq]) <;> (repeat' with_reducible apply And.intro) <;> first | rfl | omega | (simp; done))⟩
    · unfold ac_R24_Lists_k1
      (repeat (first | (simp (disch := first | exact dis1 | fail) only [evA, Nat.reduceBEq, Nat.reduceAdd, Nat.reduceLeDiff, boxR, rboxR, allocR, fldR, binI, unR, pickR, mknilR, mkslR, buildSlR, buildR, extR, convI, eqB, evU, wrap64]) | (with_reducible intro _) | ((with_reducible apply And.intro); omega)))
      rw [List.take_of_length_le (show A[i].length ≤ k by omega), List.take_of_length_le (show B[i].length ≤ k by omega)] at htk
      exact ⟨i + 1, ⟨by omega, take_succ_eq ht ha hb htk⟩, by omega, Ent.keep rfl (by (try simp [subK, Kn.get, beq_eq]) <;> (repeat' with_reducible apply And.intro) <;> first | rfl | omega | (simp; done))⟩
  · unfold ac_R24_Lists_k3
    (repeat (first | (simp (disch := first | exact dis1 | fail) only [evA, Nat.reduceBEq, Nat.reduceAdd, Nat.reduceLeDiff, boxR, rboxR, allocR, fldR, binI, unR, pickR, mknilR, mkslR, buildSlR, buildR, extR, convI, eqB, evU, wrap64, rs_R24_Lists]) | (with_reducible intro _) | ((with_reducible apply And.intro); omega)))
    refine ⟨_, .bool _ _, ?_⟩
    rw [List.take_of_length_le (show A.length ≤ i by omega), List.take_of_length_le (show B.length ≤ i by omega)] at ht
    simp [ht]

theorem vw_LL {H H2 : AH} {σ : Nat → Nat → Option (Nat × Nat × Nat)} {D : Nat → Nat → Prop} {t : Bool} {r q g : Nat} {l : List (List Int)} (hD : D r q) (hg : H.get r q = some (.row 1 (l.map fun r => [encInts r]) g)) (hb : l.length ≤ big) :
    Vw H H2 σ D t (.own r q g 0 l.length) (encLL l) := by
  refine vw_encL hD hg hb (fun a _ j hj => ?_)
  obtain rfl : j = 0 := by omega
  exact .sl _ _ _ _

theorem R24_Ints_ok (a b : List Int) : PureFn Tryz.prog f_R24_Ints [encInts a, encInts b] (· = .bool (decide (a = b))) := by
  refine fn_x cf_R24_Ints rfl ?_
  unfold ac_R24_Ints
  (repeat (first | (simp (disch := first | exact dis1 | fail) only [evA, Nat.reduceBEq, Nat.reduceAdd, Nat.reduceLeDiff, boxR, rboxR, allocR, fldR, binI, unR, pickR, mknilR, mkslR, buildSlR, buildR, extR, convI, eqB, evU, wrap64, encInts]) | (with_reducible intro _) | ((with_reducible apply And.intro); omega)))
  refine callX_fix (call_fix (D := allR) (R24_Lists_ok [a] [b]) (.cons (vw_LL (l := [a]) trivial rfl (by simp [big])) (.cons (vw_LL (l := [b]) trivial rfl (by simp [big])) .nil)) (.inl rfl)) ?_
  (repeat (first | (simp (disch := first | exact dis1 | fail) only [evA, Nat.reduceBEq, Nat.reduceAdd, Nat.reduceLeDiff, boxR, rboxR, allocR, fldR, binI, unR, pickR, mknilR, mkslR, buildSlR, buildR, extR, convI, eqB, evU, wrap64, rs_R24_Ints]) | (with_reducible intro _) | ((with_reducible apply And.intro); omega)))
  refine ⟨_, .bool _ _, ?_⟩
  simp


theorem smallN_size {e : Nd} (h : smallN e = true) : sizeN e ≤ 1000 := by
  unfold smallN at h
  have h0 : 0 ≤ weightN e 300 := of_decide_eq_true h
  have := weight_size e 300 h0
  omega

end Go.Ab

namespace Go.Ab
open Go.RowKit Go.Proofs

theorem renX {ρ : Nat → Nat} {l : List Ex} {g : Nat} : AObj.ren ρ (.row 5 (l.map encX) g) = .row 5 (l.map encX) g := by
  simp only [AObj.ren]
  rw [ren_rows (flat_map fun _ => encX_flat)]
theorem renN {ρ : Nat → Nat} {l : List Nd} {g : Nat} : AObj.ren ρ (.row 5 (l.map encN) g) = .row 5 (l.map encN) g := by
  simp only [AObj.ren]
  rw [ren_rows (flat_map fun _ => encN_flat)]

theorem cloneN_ok (l : List Nd) (hl : l.length ≤ 100000) : CallOk Tryz.prog f_slices_Clone_api_Node_api_Node [encL 5 encN l] [] 0 (fun v H nx => v = .own 0 0 0 0 l.length ∧ H = [(0, .row 5 (l.map encN) 0)] ∧ nx = 1) := by
  refine call_ent (fn_x cf_slices_Clone_api_Node_api_Node rfl ?_)
  unfold ac_slices_Clone_api_Node_api_Node
  have hB : big = 9223372036854775807 := rfl
  have hel : ∀ H, elsOf 5 (encL 5 encN l) H = some (l.map encN) := fun H => elsOf_encL (fun _ _ => encN_len)
  (repeat (first | (simp (disch := first | exact dis1 | fail) only [evA, Nat.reduceBEq, Nat.reduceAdd, Nat.reduceLeDiff, boxR, rboxR, allocR, fldR, binI, unR, pickR, mknilR, mkslR, buildSlR, buildR, extR, convI, eqB, evU, wrap64, nilB_encL]) | (with_reducible intro _) | ((with_reducible apply And.intro); omega)))
  cases h0 : (l.length == 0) with
  | true =>
    have e : l = [] := List.eq_nil_of_length_eq_zero (by simpa using h0)
    subst e
    (repeat (first | (simp (disch := first | exact dis1 | fail) only [evA, Nat.reduceBEq, Nat.reduceAdd, Nat.reduceLeDiff, boxR, rboxR, allocR, fldR, binI, unR, pickR, mknilR, mkslR, buildSlR, buildR, extR, convI, eqB, evU, wrap64]) | (with_reducible intro _) | ((with_reducible apply And.intro); omega)))
    rename_i b
    cases b
    · (repeat (first | (simp (disch := first | exact dis1 | fail) only [evA, Nat.reduceBEq, Nat.reduceAdd, Nat.reduceLeDiff, boxR, rboxR, allocR, fldR, binI, unR, pickR, mknilR, mkslR, buildSlR, buildR, extR, convI, eqB, evU, wrap64, hel, rs_slices_Clone_api_Node_api_Node]) | (with_reducible intro _) | ((with_reducible apply And.intro); omega)))
      exact ⟨.own 0 0 0 0 0, [(0, .row 5 [] 0)], 1, (Ent.tab [(0, 1, 1)] [] rfl (by (try simp only [evWA, Nat.reduceBEq, Nat.reduceAdd, Nat.reduceSub, Nat.reduceLeDiff, Nat.reduceLT, implies_true, and_self, Int.natCast_zero, Int.natCast_one, Int.cast_ofNat_Int, evV, encInts, encNats, encBools, encP]) <;> exact fin2) (by (try simp only [evWA, Nat.reduceBEq, Nat.reduceAdd, Nat.reduceSub, Nat.reduceLeDiff, Nat.reduceLT, implies_true, and_self, Int.natCast_zero, Int.natCast_one, Int.cast_ofNat_Int, evV, encInts, encNats, encBools, encP]) <;> exact fin2)), rfl, rfl, rfl⟩
    · (repeat (first | (simp (disch := first | exact dis1 | fail) only [evA, Nat.reduceBEq, Nat.reduceAdd, Nat.reduceLeDiff, boxR, rboxR, allocR, fldR, binI, unR, pickR, mknilR, mkslR, buildSlR, buildR, extR, convI, eqB, evU, wrap64, rs_slices_Clone_api_Node_api_Node]) | (with_reducible intro _) | ((with_reducible apply And.intro); omega)))
      exact ⟨.own 0 0 0 0 0, [(0, .row 5 [] 0)], 1, (Ent.tab [(0, 1, 0)] [] rfl (by (try simp only [evWA, Nat.reduceBEq, Nat.reduceAdd, Nat.reduceSub, Nat.reduceLeDiff, Nat.reduceLT, implies_true, and_self, Int.natCast_zero, Int.natCast_one, Int.cast_ofNat_Int, evV, encInts, encNats, encBools, encP]) <;> exact fin2) (by (try simp only [evWA, Nat.reduceBEq, Nat.reduceAdd, Nat.reduceSub, Nat.reduceLeDiff, Nat.reduceLT, implies_true, and_self, Int.natCast_zero, Int.natCast_one, Int.cast_ofNat_Int, evV, encInts, encNats, encBools, encP]) <;> exact fin2)), rfl, rfl, rfl⟩
  | false =>
    (repeat (first | (simp (disch := first | exact dis1 | fail) only [evA, Nat.reduceBEq, Nat.reduceAdd, Nat.reduceLeDiff, boxR, rboxR, allocR, fldR, binI, unR, pickR, mknilR, mkslR, buildSlR, buildR, extR, convI, eqB, evU, wrap64, hel, rs_slices_Clone_api_Node_api_Node]) | (with_reducible intro _) | ((with_reducible apply And.intro); omega)))
    exact ⟨.own 0 0 0 0 l.length, [(0, .row 5 (l.map encN) 0)], 1, (Ent.tab [(0, 1, 1)] [] rfl (by (try simp only [evWA, Nat.reduceBEq, Nat.reduceAdd, Nat.reduceSub, Nat.reduceLeDiff, Nat.reduceLT, implies_true, and_self, Int.natCast_zero, Int.natCast_one, Int.cast_ofNat_Int, evV, encInts, encNats, encBools, encP]) <;> exact fin2) (by (try simp only [evWA, Nat.reduceBEq, Nat.reduceAdd, Nat.reduceSub, Nat.reduceLeDiff, Nat.reduceLT, implies_true, and_self, Int.natCast_zero, Int.natCast_one, Int.cast_ofNat_Int, evV, encInts, encNats, encBools, encP]) <;> exact fin2)), rfl, rfl, rfl⟩

theorem cloneX_ok (l : List Ex) (hl : l.length ≤ 100000) : CallOk Tryz.prog f_slices_Clone_api_Expr_api_Expr [encL 5 encX l] [] 0 (fun v H nx => v = .own 0 0 0 0 l.length ∧ H = [(0, .row 5 (l.map encX) 0)] ∧ nx = 1) := by
  refine call_ent (fn_x cf_slices_Clone_api_Expr_api_Expr rfl ?_)
  unfold ac_slices_Clone_api_Expr_api_Expr
  have hB : big = 9223372036854775807 := rfl
  have hel : ∀ H, elsOf 5 (encL 5 encX l) H = some (l.map encX) := fun H => elsOf_encL (fun _ _ => encX_len)
  (repeat (first | (simp (disch := first | exact dis1 | fail) only [evA, Nat.reduceBEq, Nat.reduceAdd, Nat.reduceLeDiff, boxR, rboxR, allocR, fldR, binI, unR, pickR, mknilR, mkslR, buildSlR, buildR, extR, convI, eqB, evU, wrap64, nilB_encL]) | (with_reducible intro _) | ((with_reducible apply And.intro); omega)))
  cases h0 : (l.length == 0) with
  | true =>
    have e : l = [] := List.eq_nil_of_length_eq_zero (by simpa using h0)
    subst e
    (repeat (first | (simp (disch := first | exact dis1 | fail) only [evA, Nat.reduceBEq, Nat.reduceAdd, Nat.reduceLeDiff, boxR, rboxR, allocR, fldR, binI, unR, pickR, mknilR, mkslR, buildSlR, buildR, extR, convI, eqB, evU, wrap64]) | (with_reducible intro _) | ((with_reducible apply And.intro); omega)))
    rename_i b
    cases b
    · (repeat (first | (simp (disch := first | exact dis1 | fail) only [evA, Nat.reduceBEq, Nat.reduceAdd, Nat.reduceLeDiff, boxR, rboxR, allocR, fldR, binI, unR, pickR, mknilR, mkslR, buildSlR, buildR, extR, convI, eqB, evU, wrap64, hel, rs_slices_Clone_api_Expr_api_Expr]) | (with_reducible intro _) | ((with_reducible apply And.intro); omega)))
      exact ⟨.own 0 0 0 0 0, [(0, .row 5 [] 0)], 1, (Ent.tab [(0, 1, 1)] [] rfl (by (try simp only [evWA, Nat.reduceBEq, Nat.reduceAdd, Nat.reduceSub, Nat.reduceLeDiff, Nat.reduceLT, implies_true, and_self, Int.natCast_zero, Int.natCast_one, Int.cast_ofNat_Int, evV, encInts, encNats, encBools, encP]) <;> exact fin2) (by (try simp only [evWA, Nat.reduceBEq, Nat.reduceAdd, Nat.reduceSub, Nat.reduceLeDiff, Nat.reduceLT, implies_true, and_self, Int.natCast_zero, Int.natCast_one, Int.cast_ofNat_Int, evV, encInts, encNats, encBools, encP]) <;> exact fin2)), rfl, rfl, rfl⟩
    · (repeat (first | (simp (disch := first | exact dis1 | fail) only [evA, Nat.reduceBEq, Nat.reduceAdd, Nat.reduceLeDiff, boxR, rboxR, allocR, fldR, binI, unR, pickR, mknilR, mkslR, buildSlR, buildR, extR, convI, eqB, evU, wrap64, rs_slices_Clone_api_Expr_api_Expr]) | (with_reducible intro _) | ((with_reducible apply And.intro); omega)))
      exact ⟨.own 0 0 0 0 0, [(0, .row 5 [] 0)], 1, (Ent.tab [(0, 1, 0)] [] rfl (by (try simp only [evWA, Nat.reduceBEq, Nat.reduceAdd, Nat.reduceSub, Nat.reduceLeDiff, Nat.reduceLT, implies_true, and_self, Int.natCast_zero, Int.natCast_one, Int.cast_ofNat_Int, evV, encInts, encNats, encBools, encP]) <;> exact fin2) (by (try simp only [evWA, Nat.reduceBEq, Nat.reduceAdd, Nat.reduceSub, Nat.reduceLeDiff, Nat.reduceLT, implies_true, and_self, Int.natCast_zero, Int.natCast_one, Int.cast_ofNat_Int, evV, encInts, encNats, encBools, encP]) <;> exact fin2)), rfl, rfl, rfl⟩
  | false =>
    (repeat (first | (simp (disch := first | exact dis1 | fail) only [evA, Nat.reduceBEq, Nat.reduceAdd, Nat.reduceLeDiff, boxR, rboxR, allocR, fldR, binI, unR, pickR, mknilR, mkslR, buildSlR, buildR, extR, convI, eqB, evU, wrap64, hel, rs_slices_Clone_api_Expr_api_Expr]) | (with_reducible intro _) | ((with_reducible apply And.intro); omega)))
    exact ⟨.own 0 0 0 0 l.length, [(0, .row 5 (l.map encX) 0)], 1, (Ent.tab [(0, 1, 1)] [] rfl (by (try simp only [evWA, Nat.reduceBEq, Nat.reduceAdd, Nat.reduceSub, Nat.reduceLeDiff, Nat.reduceLT, implies_true, and_self, Int.natCast_zero, Int.natCast_one, Int.cast_ofNat_Int, evV, encInts, encNats, encBools, encP]) <;> exact fin2) (by (try simp only [evWA, Nat.reduceBEq, Nat.reduceAdd, Nat.reduceSub, Nat.reduceLeDiff, Nat.reduceLT, implies_true, and_self, Int.natCast_zero, Int.natCast_one, Int.cast_ofNat_Int, evV, encInts, encNats, encBools, encP]) <;> exact fin2)), rfl, rfl, rfl⟩

theorem structure_copyExpr_ok : ∀ (k : Nat) (e : Ex), sizeX e ≤ k → k ≤ 100000 → PureFn Tryz.prog f_structure_copyExpr [.agg (encX e)] (· = .agg (encX e)) := by
  intro k
  induction k with
  | zero => intro e h; obtain ⟨_, _, _, _, l⟩ := e; rw [sizeX] at h; omega
  | succ k ih =>
  intro e hk hk2
  obtain ⟨op, nn, v, w, l⟩ := e
  refine fn_x cf_structure_copyExpr rfl ?_
  unfold ac_structure_copyExpr
  have hB : big = 9223372036854775807 := rfl
  rw [sizeX] at hk
  have hll : l.length ≤ 100000 := by
    have : ∀ l : List Ex, l.length ≤ sizeXs l := by
      intro l
      induction l with
      | nil => rw [sizeXs]; simp
      | cons a l ih =>
        rw [sizeXs, List.length_cons]
        have : 1 ≤ sizeX a := by obtain ⟨_, _, _, _, m⟩ := a; rw [sizeX]; omega
        omega
    have := this l; omega
  generalize hE : encX (.mk op nn v w l) = E
  rw [encX_eq] at hE
  subst hE
  (repeat (first | (simp (disch := first | exact dis1 | fail) only [evA, Nat.reduceBEq, Nat.reduceAdd, Nat.reduceLeDiff, boxR, rboxR, allocR, fldR, binI, unR, pickR, mknilR, mkslR, buildSlR, buildR, extR, convI, eqB, evU, wrap64]) | (with_reducible intro _) | ((with_reducible apply And.intro); omega)))
  refine call_own [] 0 _ (cloneX_ok l hll) rfl rfl (by (try simp only [evWA, Nat.reduceBEq, Nat.reduceAdd, Nat.reduceSub, Nat.reduceLeDiff, Nat.reduceLT, implies_true, and_self, Int.natCast_zero, Int.natCast_one, Int.cast_ofNat_Int, evV, encInts, encNats, encBools, encP]) <;> exact fin1) (by (try simp only [evWA, Nat.reduceBEq, Nat.reduceAdd, Nat.reduceSub, Nat.reduceLeDiff, Nat.reduceLT, implies_true, and_self, Int.natCast_zero, Int.natCast_one, Int.cast_ofNat_Int, evV, encInts, encNats, encBools, encP]) <;> exact fin1) ?_
  rintro _ _ _ ⟨rfl, rfl, rfl⟩
  (repeat (first | (simp (disch := first | exact dis1 | fail) only [evA, Nat.reduceBEq, Nat.reduceAdd, Nat.reduceLeDiff, boxR, rboxR, allocR, fldR, binI, unR, pickR, mknilR, mkslR, buildSlR, buildR, extR, convI, eqB, evU, wrap64, renX]) | (with_reducible intro _) | ((with_reducible apply And.intro); omega)))
  refine loopX_intro (fun i : Nat => ([(1, .ptr 0 0 0 0 0), (2, .ptr 1 0 0 0 0), (10, .int .i64 l.length), (11, .int .i64 i)], [(0, .row 5 [[.int .i64 op, .int .u32 nn, .int .i64 v, .int .i64 w, .own 2 0 0 0 l.length]] 0), (1, .row 5 [[.int .i64 0, .int .u32 0, .int .i64 0, .int .i64 0, .nilsl]] 0), (2, .row 5 (l.map encX) 0)])) 3 (fun i => i ≤ l.length) (fun i => l.length - i) 0 (Nat.zero_le _) (Ent.tab [(0, 0, 0), (1, 1, 0), (2, 2, 0)] [] rfl (by (try simp only [evWA, Nat.reduceBEq, Nat.reduceAdd, Nat.reduceSub, Nat.reduceLeDiff, Nat.reduceLT, implies_true, and_self, Int.natCast_zero, Int.natCast_one, Int.cast_ofNat_Int, evV, encInts, encNats, encBools, encP]) <;> exact fin2) (by (try simp only [evWA, Nat.reduceBEq, Nat.reduceAdd, Nat.reduceSub, Nat.reduceLeDiff, Nat.reduceLT, implies_true, and_self, Int.natCast_zero, Int.natCast_one, Int.cast_ofNat_Int, evV, encInts, encNats, encBools, encP]) <;> exact fin2)) ?_
  intro i hi wf
  unfold ac_structure_copyExpr_l0
  by_cases hl : i < l.length
  · have hm := sizeX_mem (List.getElem_mem hl)
    have hset : (l.map encX).set i (encX l[i]) = l.map encX := by
      rw [← List.getElem_map (f := encX) (h := by simpa using hl)]
      exact List.set_getElem_self _
    (repeat (first | (simp (disch := first | exact dis1 | fail) only [evA, Nat.reduceBEq, Nat.reduceAdd, Nat.reduceLeDiff, boxR, rboxR, allocR, fldR, binI, unR, pickR, mknilR, mkslR, buildSlR, buildR, extR, convI, eqB, evU, wrap64, dT, getD_map hl, encX_len, encX_five]) | (with_reducible intro _) | ((with_reducible apply And.intro); omega)))
    refine callqX_fix (call_flat (ih l[i] (by omega) (by omega)) (flX rfl)) ?_
    (repeat (first | (simp (disch := first | exact dis1 | fail) only [evA, Nat.reduceBEq, Nat.reduceAdd, Nat.reduceLeDiff, boxR, rboxR, allocR, fldR, binI, unR, pickR, mknilR, mkslR, buildSlR, buildR, extR, convI, eqB, evU, wrap64, getD_map hl, encX_len, hset]) | (with_reducible intro _) | ((with_reducible apply And.intro); omega)))
    exact ⟨i + 1, by omega, by omega, (Ent.tab [(0, 0, 0), (1, 1, 0), (2, 2, 0)] [] rfl (by (try simp only [evWA, Nat.reduceBEq, Nat.reduceAdd, Nat.reduceSub, Nat.reduceLeDiff, Nat.reduceLT, implies_true, and_self, Int.natCast_zero, Int.natCast_one, Int.cast_ofNat_Int, evV, encInts, encNats, encBools, encP]) <;> exact fin2) (by (try simp only [evWA, Nat.reduceBEq, Nat.reduceAdd, Nat.reduceSub, Nat.reduceLeDiff, Nat.reduceLT, implies_true, and_self, Int.natCast_zero, Int.natCast_one, Int.cast_ofNat_Int, evV, encInts, encNats, encBools, encP]) <;> exact fin2))⟩
  · (repeat (first | (simp (disch := first | exact dis1 | fail) only [evA, Nat.reduceBEq, Nat.reduceAdd, Nat.reduceLeDiff, boxR, rboxR, allocR, fldR, binI, unR, pickR, mknilR, mkslR, buildSlR, buildR, extR, convI, eqB, evU, wrap64, dF]) | (with_reducible intro _) | ((with_reducible apply And.intro); omega)))
    unfold ac_structure_copyExpr_k1
    (repeat (first | (simp (disch := first | exact dis1 | fail) only [evA, Nat.reduceBEq, Nat.reduceAdd, Nat.reduceLeDiff, boxR, rboxR, allocR, fldR, binI, unR, pickR, mknilR, mkslR, buildSlR, buildR, extR, convI, eqB, evU, wrap64, rs_structure_copyExpr]) | (with_reducible intro _) | ((with_reducible apply And.intro); omega)))
    refine ⟨.agg [.int .i64 op, .int .u32 nn, .int .i64 v, .int .i64 w, encL 5 encX l], .agg _ _ _ rfl (fun j a c h1 h2 => ?_), rfl⟩
    match j with
    | 0 => cases h1; cases h2; exact .int _ _ _
    | 1 => cases h1; cases h2; exact .int _ _ _
    | 2 => cases h1; cases h2; exact .int _ _ _
    | 3 => cases h1; cases h2; exact .int _ _ _
    | 4 => cases h1; cases h2; exact vw_exprs trivial rfl (by omega)
    | j + 5 => cases h1

end Go.Ab

namespace Go.Ab
open Go.RowKit Go.Proofs

def zN : List AV := [.int .i64 0, .int .i64 0, .int .i64 0, .nilsl, .nilsl]

theorem xopR_capn {H : AH} {nx : Nat} : xopR .capn [.nilsl] H nx = ⟨True, True, .int .i64 0, H, nx⟩ := rfl
theorem xopR_apz {sz b : Nat} {z : List AV} {k : IntKind} {n : Int} {H : AH} {nx : Nat} : xopR (.apz sz b z) [.nilsl, .int k n] H nx = ⟨0 ≤ n ∧ n * b ≤ 140737488355328 ∧ 0 < sz ∧ 0 < b, True, .own nx 0 0 0 n.toNat, H.set nx 0 (.row sz (List.replicate n.toNat z) 0), nx + 1⟩ := rfl

theorem sliceR_nil {s : Nat} {k : IntKind} {b : Int} {H : AH} {nx : Nat} : sliceR s .nilsl none (some (.int k b)) H nx = ⟨(0 : Int) = 0 ∧ b = 0, True, .nilsl, H, nx⟩ := rfl

theorem flat_rep {n : Nat} {c : List AV} (h : allFlat c = true) : FlatRows (List.replicate n c) := fun d hd => by rw [List.eq_of_mem_replicate hd]; exact h

theorem renZ {ρ : Nat → Nat} {n g : Nat} : AObj.ren ρ (.row 5 (List.replicate n zN) g) = .row 5 (List.replicate n zN) g := by
  simp only [AObj.ren]
  rw [ren_rows (flat_rep rfl)]

theorem growN_ok (n : Nat) (hn : n ≤ 100000) : CallOk Tryz.prog f_slices_Grow_api_Node_api_Node [.nilsl, .int .i64 n] [] 0 (fun v H nx => v = .own 0 0 0 0 0 ∧ H = [(0, .row 5 (List.replicate n zN) 0)] ∧ nx = 1) := by
  refine call_ent (fn_x cf_slices_Grow_api_Node_api_Node rfl ?_)
  unfold ac_slices_Grow_api_Node_api_Node
  have hB : big = 9223372036854775807 := rfl
  by_cases h0 : 0 < n
  · have hsub : ((n : Int) - (0 - 0)).toNat = n := by omega
    (repeat (first | (simp (disch := first | exact dis1 | fail) only [evA, Nat.reduceBEq, Nat.reduceAdd, Nat.reduceLeDiff, boxR, rboxR, allocR, fldR, binI, unR, pickR, mknilR, mkslR, buildSlR, buildR, extR, convI, eqB, evU, wrap64, dF, dT, xopR_capn, xopR_apz, sliceR_nil, hsub, rs_slices_Grow_api_Node_api_Node]) | (with_reducible intro _) | ((with_reducible apply And.intro); omega)))
    exact ⟨.own 0 0 0 0 0, [(0, .row 5 (List.replicate n zN) 0)], 1, (Ent.tab [(0, 1, 0)] [] rfl (by (try simp only [evWA, Nat.reduceBEq, Nat.reduceAdd, Nat.reduceSub, Nat.reduceLeDiff, Nat.reduceLT, implies_true, and_self, Int.natCast_zero, Int.natCast_one, Int.cast_ofNat_Int, evV, encInts, encNats, encBools, encP, zN]) <;> exact fin2) (by (try simp only [evWA, Nat.reduceBEq, Nat.reduceAdd, Nat.reduceSub, Nat.reduceLeDiff, Nat.reduceLT, implies_true, and_self, Int.natCast_zero, Int.natCast_one, Int.cast_ofNat_Int, evV, encInts, encNats, encBools, encP, zN]) <;> exact fin2)), rfl, rfl, rfl⟩
  · obtain rfl : n = 0 := by omega
    (repeat (first | (simp (disch := first | exact dis1 | fail) only [evA, Nat.reduceBEq, Nat.reduceAdd, Nat.reduceLeDiff, boxR, rboxR, allocR, fldR, binI, unR, pickR, mknilR, mkslR, buildSlR, buildR, extR, convI, eqB, evU, wrap64, dF, xopR_capn, rs_slices_Grow_api_Node_api_Node]) | (with_reducible intro _) | ((with_reducible apply And.intro); omega)))
    exact ⟨.own 0 0 0 0 0, [(0, .row 5 (List.replicate 0 zN) 0)], 1, (Ent.tab [] [] rfl (by (try simp only [evWA, Nat.reduceBEq, Nat.reduceAdd, Nat.reduceSub, Nat.reduceLeDiff, Nat.reduceLT, implies_true, and_self, Int.natCast_zero, Int.natCast_one, Int.cast_ofNat_Int, evV, encInts, encNats, encBools, encP]) <;> exact fin2) (by (try simp only [evWA, Nat.reduceBEq, Nat.reduceAdd, Nat.reduceSub, Nat.reduceLeDiff, Nat.reduceLT, implies_true, and_self, Int.natCast_zero, Int.natCast_one, Int.cast_ofNat_Int, evV, encInts, encNats, encBools, encP]) <;> exact fin2)), rfl, rfl, rfl⟩

def LLN (A : List (List Nd)) : List (List AV) := A.map fun a => [encL 5 encN a]
def lenA (A : List (List Nd)) : Nat := (A.map List.length).sum
theorem take_snoc {α} {A : List α} {i : Nat} (h : i < A.length) : A.take (i + 1) = A.take i ++ [A[i]] := by
  rw [List.take_add_one, List.getElem?_eq_getElem h]
  rfl
theorem lenA_app (A B : List (List Nd)) : lenA (A ++ B) = lenA A + lenA B := by unfold lenA; rw [List.map_append, List.sum_append]
theorem lenA_take {A : List (List Nd)} {i : Nat} (h : i < A.length) : lenA (A.take (i + 1)) = lenA (A.take i) + A[i].length := by
  rw [take_snoc h, lenA_app]
  rfl
theorem lenA_le {A : List (List Nd)} (i : Nat) : lenA (A.take i) ≤ lenA A := by
  conv => rhs; rw [← List.take_append_drop i A, lenA_app]
  omega
theorem flatten_take {A : List (List Nd)} {i : Nat} (h : i < A.length) : (A.take (i + 1)).flatten = (A.take i).flatten ++ A[i] := by
  rw [take_snoc h, List.flatten_append]
  simp
theorem flatten_len (A : List (List Nd)) : A.flatten.length = lenA A := by rw [List.length_flatten]; rfl

theorem concatN_ok (A : List (List Nd)) (h1 : A.length ≤ 1000) (h2 : lenA A ≤ 100000) : CallOk Tryz.prog f_slices_Concat_api_Node_api_Node [.own 0 0 0 0 A.length] [(0, .row 1 (LLN A) 0)] 1 (fun v H nx => v = .own 1 0 0 0 A.flatten.length ∧ H = [(0, .row 1 (LLN A) 0), (1, .row 5 (A.flatten.map encN) 0)] ∧ nx = 2) := by
  refine call_ent (fn_x cf_slices_Concat_api_Node_api_Node rfl ?_)
  unfold ac_slices_Concat_api_Node_api_Node
  have hB : big = 9223372036854775807 := rfl
  have hrl : (LLN A).length = A.length := by simp [LLN]
  (repeat (first | (simp (disch := first | exact dis1 | fail) only [evA, Nat.reduceBEq, Nat.reduceAdd, Nat.reduceLeDiff, boxR, rboxR, allocR, fldR, binI, unR, pickR, mknilR, mkslR, buildSlR, buildR, extR, convI, eqB, evU, wrap64]) | (with_reducible intro _) | ((with_reducible apply And.intro); omega)))
  refine loopX_intro (fun i : Nat => ([(0, .own 0 0 0 0 A.length), (3, .int .i64 (lenA (A.take i) : Nat)), (9, .own 0 0 0 0 A.length), (10, .int .i64 A.length), (11, .int .i64 i)], [(0, .row 1 (LLN A) 0)])) 1 (fun i => i ≤ A.length) (fun i => A.length - i) 0 (Nat.zero_le _) (Ent.tabB [(0, 0, 0)] [] rfl rfl rfl (by (try simp only [evWA, Nat.reduceBEq, Nat.reduceAdd, Nat.reduceSub, Nat.reduceLeDiff, Nat.reduceLT, implies_true, and_self, Int.natCast_zero, Int.natCast_one, Int.cast_ofNat_Int, evV, encInts, encNats, encBools, encP]) <;> exact fin2) (by (try simp only [evWA, Nat.reduceBEq, Nat.reduceAdd, Nat.reduceSub, Nat.reduceLeDiff, Nat.reduceLT, implies_true, and_self, Int.natCast_zero, Int.natCast_one, Int.cast_ofNat_Int, evV, encInts, encNats, encBools, encP]) <;> exact fin2)) ?_
  intro i hi wf
  unfold ac_slices_Concat_api_Node_api_Node_l0
  have hle := lenA_le (A := A) i
  by_cases hil : i < A.length
  · have hg : (LLN A).getD i [] = [encL 5 encN A[i]] := getD_map hil
    have hst := lenA_take hil
    have hle2 := lenA_le (A := A) (i + 1)
    have hnn : decide (((lenA (A.take i) : Nat) : Int) + ((A[i].length : Nat) : Int) < 0) = false := decide_eq_false (by omega)
    (repeat (first | (simp (disch := first | exact dis1 | fail) only [evA, Nat.reduceBEq, Nat.reduceAdd, Nat.reduceLeDiff, boxR, rboxR, allocR, fldR, binI, unR, pickR, mknilR, mkslR, buildSlR, buildR, extR, convI, eqB, evU, wrap64, dT, hg, hrl, hnn]) | (with_reducible intro _) | ((with_reducible apply And.intro); omega)))
    refine ⟨i + 1, by omega, by omega, ?_⟩
    have hsi : ((lenA (A.take (i + 1)) : Nat) : Int) = ((lenA (A.take i) : Nat) : Int) + ((A[i].length : Nat) : Int) := by omega
    rw [hsi]
    exact (Ent.tabB [(0, 0, 0)] [] rfl rfl rfl (by (try simp only [evWA, Nat.reduceBEq, Nat.reduceAdd, Nat.reduceSub, Nat.reduceLeDiff, Nat.reduceLT, implies_true, and_self, Int.natCast_zero, Int.natCast_one, Int.cast_ofNat_Int, evV, encInts, encNats, encBools, encP]) <;> exact fin2) (by (try simp only [evWA, Nat.reduceBEq, Nat.reduceAdd, Nat.reduceSub, Nat.reduceLeDiff, Nat.reduceLT, implies_true, and_self, Int.natCast_zero, Int.natCast_one, Int.cast_ofNat_Int, evV, encInts, encNats, encBools, encP]) <;> exact fin2))
  · (repeat (first | (simp (disch := first | exact dis1 | fail) only [evA, Nat.reduceBEq, Nat.reduceAdd, Nat.reduceLeDiff, boxR, rboxR, allocR, fldR, binI, unR, pickR, mknilR, mkslR, buildSlR, buildR, extR, convI, eqB, evU, wrap64, dF]) | (with_reducible intro _) | ((with_reducible apply And.intro); omega)))
    unfold ac_slices_Concat_api_Node_api_Node_k3
    obtain rfl : i = A.length := by omega
    rw [List.take_length]
    (repeat (first | (simp (disch := first | exact dis1 | fail) only [evA, Nat.reduceBEq, Nat.reduceAdd, Nat.reduceLeDiff, boxR, rboxR, allocR, fldR, binI, unR, pickR, mknilR, mkslR, buildSlR, buildR, extR, convI, eqB, evU, wrap64, hrl]) | (with_reducible intro _) | ((with_reducible apply And.intro); omega)))
    refine call_own [] 0 _ (growN_ok (lenA A) h2) rfl rfl (by (try simp only [evWA, Nat.reduceBEq, Nat.reduceAdd, Nat.reduceSub, Nat.reduceLeDiff, Nat.reduceLT, implies_true, and_self, Int.natCast_zero, Int.natCast_one, Int.cast_ofNat_Int, evV, encInts, encNats, encBools, encP]) <;> exact fin1) (by (try simp only [evWA, Nat.reduceBEq, Nat.reduceAdd, Nat.reduceSub, Nat.reduceLeDiff, Nat.reduceLT, implies_true, and_self, Int.natCast_zero, Int.natCast_one, Int.cast_ofNat_Int, evV, encInts, encNats, encBools, encP]) <;> exact fin1) ?_
    rintro _ _ _ ⟨rfl, rfl, rfl⟩
    (repeat (first | (simp (disch := first | exact dis1 | fail) only [evA, Nat.reduceBEq, Nat.reduceAdd, Nat.reduceLeDiff, boxR, rboxR, allocR, fldR, binI, unR, pickR, mknilR, mkslR, buildSlR, buildR, extR, convI, eqB, evU, wrap64, hrl, renZ]) | (with_reducible intro _) | ((with_reducible apply And.intro); omega)))
    refine loopX_intro (fun j : Nat × Nat => ([(6, .own 1 0 0 0 (lenA (A.take j.1))), (25, .own 0 0 0 0 A.length), (26, .int .i64 A.length), (27, .int .i64 j.1)], [(0, .row 1 (LLN A) 0), (1, .row 5 ((A.take j.1).flatten.map encN ++ List.replicate j.2 zN) 0)])) 2 (fun j => j.1 ≤ A.length ∧ (j.1 = 0 → j.2 = lenA A) ∧ (j.1 ≠ 0 → j.2 = 0)) (fun j => A.length - j.1) (0, lenA A) ⟨Nat.zero_le _, fun _ => rfl, fun h => absurd rfl h⟩ ?_ ?_
    · exact (Ent.tabB [(0, 0, 0), (1, 1, 0)] [] rfl rfl rfl (by (try simp only [evWA, Nat.reduceBEq, Nat.reduceAdd, Nat.reduceSub, Nat.reduceLeDiff, Nat.reduceLT, implies_true, and_self, Int.natCast_zero, Int.natCast_one, Int.cast_ofNat_Int, evV, encInts, encNats, encBools, encP]) <;> exact fin2) (by (try simp only [evWA, Nat.reduceBEq, Nat.reduceAdd, Nat.reduceSub, Nat.reduceLeDiff, Nat.reduceLT, implies_true, and_self, Int.natCast_zero, Int.natCast_one, Int.cast_ofNat_Int, evV, encInts, encNats, encBools, encP]) <;> exact fin2))
    · rintro ⟨i, m⟩ ⟨hi, hm0, hm1⟩ wf
      unfold ac_slices_Concat_api_Node_api_Node_l1
      have hle := lenA_le (A := A) i
      simp only at hi hm0 hm1
      by_cases hil : i < A.length
      · have hg : (LLN A).getD i [] = [encL 5 encN A[i]] := getD_map hil
        have hst := lenA_take hil
        have hle2 := lenA_le (A := A) (i + 1)
        have hfl : ((A.take i).flatten.map encN).length = lenA (A.take i) := by rw [List.length_map, flatten_len]
        have htk : ((A.take i).flatten.map encN ++ List.replicate m zN).take (lenA (A.take i)) = (A.take i).flatten.map encN := List.take_left' hfl
        have hll : ((A.take i).flatten.map encN ++ List.replicate m zN).length = lenA (A.take i) + m := by rw [List.length_append, hfl, List.length_replicate]
        have hel : ∀ H, elsOf 5 (encL 5 encN A[i]) H = some (A[i].map encN) := fun H => elsOf_encL (fun _ _ => encN_len)
        have hsi : ((lenA (A.take (i + 1)) : Nat) : Int) = ((lenA (A.take i) : Nat) : Int) + ((A[i].length : Nat) : Int) := by omega
        have hap : (A.take (i + 1)).flatten.map encN ++ List.replicate 0 zN = (A.take i).flatten.map encN ++ A[i].map encN := by rw [flatten_take hil, List.map_append]; simp
        (repeat (first | (simp (disch := first | exact dis1 | fail) only [evA, Nat.reduceBEq, Nat.reduceAdd, Nat.reduceLeDiff, boxR, rboxR, allocR, fldR, binI, unR, pickR, mknilR, mkslR, buildSlR, buildR, extR, convI, eqB, evU, wrap64, dT, hg, hrl, hel, htk, hll]) | (with_reducible intro _) | ((with_reducible apply And.intro); omega)))
        refine ⟨(i + 1, 0), ⟨by simp only; omega, fun h => absurd h (Nat.succ_ne_zero i), fun _ => rfl⟩, by simp only; omega, ?_⟩
        simp only
        rw [hap, hst]
        exact (Ent.tabB [(0, 0, 0), (1, 1, 1)] [] rfl rfl rfl (by (try simp only [evWA, Nat.reduceBEq, Nat.reduceAdd, Nat.reduceSub, Nat.reduceLeDiff, Nat.reduceLT, implies_true, and_self, Int.natCast_zero, Int.natCast_one, Int.cast_ofNat_Int, evV, encInts, encNats, encBools, encP]) <;> exact fin2) (by (try simp only [evWA, Nat.reduceBEq, Nat.reduceAdd, Nat.reduceSub, Nat.reduceLeDiff, Nat.reduceLT, implies_true, and_self, Int.natCast_zero, Int.natCast_one, Int.cast_ofNat_Int, evV, encInts, encNats, encBools, encP]) <;> exact fin2))
      · (repeat (first | (simp (disch := first | exact dis1 | fail) only [evA, Nat.reduceBEq, Nat.reduceAdd, Nat.reduceLeDiff, boxR, rboxR, allocR, fldR, binI, unR, pickR, mknilR, mkslR, buildSlR, buildR, extR, convI, eqB, evU, wrap64, dF]) | (with_reducible intro _) | ((with_reducible apply And.intro); omega)))
        unfold ac_slices_Concat_api_Node_api_Node_k2
        obtain rfl : i = A.length := by omega
        obtain rfl : m = 0 := by
          by_cases h : A.length = 0
          · rw [hm0 h, List.eq_nil_of_length_eq_zero h]; rfl
          · exact hm1 h
        have hap : (A.take A.length).flatten.map encN ++ List.replicate 0 zN = A.flatten.map encN := by rw [List.take_length]; simp
        rw [hap, List.take_length, ← flatten_len]
        (repeat (first | (simp (disch := first | exact dis1 | fail) only [evA, Nat.reduceBEq, Nat.reduceAdd, Nat.reduceLeDiff, boxR, rboxR, allocR, fldR, binI, unR, pickR, mknilR, mkslR, buildSlR, buildR, extR, convI, eqB, evU, wrap64, rs_slices_Concat_api_Node_api_Node]) | (with_reducible intro _) | ((with_reducible apply And.intro); omega)))
        exact ⟨.own 1 0 0 0 A.flatten.length, [(0, .row 1 (LLN A) 0), (1, .row 5 (A.flatten.map encN) 0)], 2, (Ent.tabB [(0, 0, 0), (1, 1, 0)] [] rfl rfl rfl (by (try simp only [evWA, Nat.reduceBEq, Nat.reduceAdd, Nat.reduceSub, Nat.reduceLeDiff, Nat.reduceLT, implies_true, and_self, Int.natCast_zero, Int.natCast_one, Int.cast_ofNat_Int, evV, encInts, encNats, encBools, encP]) <;> exact fin2) (by (try simp only [evWA, Nat.reduceBEq, Nat.reduceAdd, Nat.reduceSub, Nat.reduceLeDiff, Nat.reduceLT, implies_true, and_self, Int.natCast_zero, Int.natCast_one, Int.cast_ofNat_Int, evV, encInts, encNats, encBools, encP]) <;> exact fin2)), rfl, rfl, rfl⟩

end Go.Ab

namespace Go.Ab
open Go.RowKit Go.Proofs

theorem frzN {H : AH} {r q g : Nat} {kd bl lb : Int} {c : List Ex} {l : List Nd} (hg : H.get r q = some (.row 5 (l.map encN) g)) (hb : l.length ≤ big) : Frz H (.agg [.int .i64 kd, .int .i64 bl, .int .i64 lb, encL 5 encX c, .own r q g 0 l.length]) (.agg (encN (.mk ⟨kd, bl, lb⟩ c l))) := by
  rw [encN_eq]
  refine .agg _ _ _ rfl (fun j a c h1 h2 => ?_)
  match j with
  | 0 => cases h1; cases h2; exact .int _ _ _
  | 1 => cases h1; cases h2; exact .int _ _ _
  | 2 => cases h1; cases h2; exact .int _ _ _
  | 3 => cases h1; cases h2; exact vw_flat rfl
  | 4 => cases h1; cases h2; exact vw_nodes trivial hg hb
  | j + 5 => cases h1
theorem flA {e : Nd} : (AV.agg (encN e)).flat = true := by
  have := flN (r := []) rfl (e := e)
  simpa using this
theorem frzA {H : AH} {e : Nd} : Frz H (.agg (encN e)) (.agg (encN e)) := vw_flat flA

def elN (x : Nd) : List Nd := if x.f.kind = 1 then x.l else [x]
theorem elN_pos {kd bl lb : Int} {c : List Ex} {m : List Nd} (h : kd = 1) : elN (.mk ⟨kd, bl, lb⟩ c m) = m := if_pos h
theorem elN_neg {kd bl lb : Int} {c : List Ex} {m : List Nd} (h : kd ≠ 1) : elN (.mk ⟨kd, bl, lb⟩ c m) = [.mk ⟨kd, bl, lb⟩ c m] := if_neg h
theorem flatL_step {l : List Nd} {i : Nat} (h : i < l.length) : flatL (l.drop i) = elN l[i] ++ flatL (l.drop (i + 1)) := by
  rw [List.drop_eq_getElem_cons h]
  rfl
theorem flatL_len : ∀ l : List Nd, (flatL l).length ≤ sizeNs l
  | [] => by simp [flatL]
  | x :: l => by
    have ih := flatL_len l
    unfold flatL at ih ⊢
    rw [List.flatMap_cons, List.length_append, sizeNs]
    obtain ⟨f, c, m⟩ := x
    have := sizeNs_len m
    rw [sizeN]
    have h0 : (if f.kind = 1 then m else [Nd.mk f c m]).length ≤ 1 + sizeNs m := by
      by_cases h : f.kind = 1
      · rw [if_pos h]; omega
      · rw [if_neg h]; simp only [List.length_singleton]; omega
    exact Nat.add_le_add h0 ih

theorem R36_seq_ok : PureFn Tryz.prog f_R36_seq [.nilsl] (· = .agg (encN (.mk seqF [] []))) := by
  refine fn_x cf_R36_seq rfl ?_
  unfold ac_R36_seq
  have hB : big = 9223372036854775807 := rfl
  (repeat (first | (simp (disch := first | exact dis1 | fail) only [evA, Nat.reduceBEq, Nat.reduceAdd, Nat.reduceLeDiff, boxR, rboxR, allocR, fldR, binI, unR, pickR, mknilR, mkslR, buildSlR, buildR, extR, convI, eqB, evU, wrap64, rs_R36_seq]) | (with_reducible intro _) | ((with_reducible apply And.intro); omega)))
  refine ⟨.agg (encN (.mk seqF [] [])), ?_, rfl⟩
  rw [encN_eq]
  refine .agg _ _ _ rfl (fun j a c h1 h2 => ?_)
  match j with
  | 0 => cases h1; cases h2; exact .int _ _ _
  | 1 => cases h1; cases h2; exact .int _ _ _
  | 2 => cases h1; cases h2; exact .int _ _ _
  | 3 => cases h1; cases h2; exact vw_nil
  | 4 => cases h1; cases h2; exact vw_nil
  | j + 5 => cases h1

theorem R36_flat_ok (e : Nd) (hs : sizeN e ≤ 100000) : PureFn Tryz.prog f_R36_flat [.agg (encN e)] (· = .agg (encN (flatN e))) := by
  obtain ⟨⟨kd, bl, lb⟩, c, l⟩ := e
  refine fn_x cf_R36_flat rfl ?_
  unfold ac_R36_flat
  have hB : big = 9223372036854775807 := rfl
  rw [sizeN] at hs
  have hRl := flatL_len l
  have hll := sizeNs_len l
  have hE := encN_eq ⟨kd, bl, lb⟩ c l
  simp only at hE
  by_cases h1 : kd = 1
  · rw [flatN_mk, if_pos h1]
    generalize hR : flatL l = R at hRl ⊢
    subst h1
    rw [hE]
    (repeat (first | (simp (disch := first | exact dis1 | fail) only [evA, Nat.reduceBEq, Nat.reduceAdd, Nat.reduceLeDiff, boxR, rboxR, allocR, fldR, binI, unR, pickR, mknilR, mkslR, buildSlR, buildR, extR, convI, eqB, evU, wrap64, dF]) | (with_reducible intro _) | ((with_reducible apply And.intro); omega)))
    refine loopX_intro (fun s : Nat × List Nd => ([(1, .ptr 0 0 0 0 0), (2, .ptr 1 0 0 0 0), (3, .own 2 0 0 0 s.2.length), (4, .int .i64 s.1)], [(0, .row 5 [[.int .i64 1, .int .i64 bl, .int .i64 lb, encL 5 encX c, encL 5 encN l]] 0), (1, .row 5 [zN] 0), (2, .row 5 (s.2.map encN) 0)])) 3 (fun s => s.1 ≤ l.length ∧ s.2 ++ flatL (l.drop s.1) = R) (fun s => l.length - s.1) (0, []) ⟨Nat.zero_le _, by simpa using hR⟩ (Ent.tab [(0, 0, 0), (1, 1, 0), (2, 2, 0)] [] rfl (by (try simp only [evWA, Nat.reduceBEq, Nat.reduceAdd, Nat.reduceSub, Nat.reduceLeDiff, Nat.reduceLT, implies_true, and_self, Int.natCast_zero, Int.natCast_one, Int.cast_ofNat_Int, evV, encInts, encNats, encBools, encP, zN]) <;> exact fin2) (by (try simp only [evWA, Nat.reduceBEq, Nat.reduceAdd, Nat.reduceSub, Nat.reduceLeDiff, Nat.reduceLT, implies_true, and_self, Int.natCast_zero, Int.natCast_one, Int.cast_ofNat_Int, evV, encInts, encNats, encBools, encP, zN]) <;> exact fin2)) ?_
    rintro ⟨i, x⟩ ⟨hi, hgo⟩ wf
    simp only at hi hgo
    unfold ac_R36_flat_l0
    by_cases hl : i < l.length
    · rw [flatL_step hl, ← List.append_assoc] at hgo
      have hlen := congrArg List.length hgo
      have hg := getD_map (f := encN) (d := []) hl
      generalize l[i] = y at hg hgo hlen
      obtain ⟨⟨kd', bl', lb'⟩, c', m⟩ := y
      rw [encN_eq] at hg
      simp only [List.length_append] at hg hgo hlen
      have hel : ∀ H, elsOf 5 (encL 5 encN m) H = some (m.map encN) := fun H => elsOf_encL (fun _ _ => encN_len)
      by_cases h1 : kd' = 1
      · rw [elN_pos h1] at hgo hlen
        subst h1
        (repeat (first | (simp (disch := first | exact dis1 | fail) only [evA, Nat.reduceBEq, Nat.reduceAdd, Nat.reduceLeDiff, boxR, rboxR, allocR, fldR, binI, unR, pickR, mknilR, mkslR, buildSlR, buildR, extR, convI, eqB, evU, wrap64, dT, hg, fldP, hel]) | (with_reducible intro _) | ((with_reducible apply And.intro); omega)))
        exact ⟨(i + 1, x ++ m), ⟨by simp only; omega, hgo⟩, by simp only; omega, (Ent.tab [(0, 0, 0), (1, 1, 0), (2, 2, 1)] [] rfl (by (try simp only [evWA, Nat.reduceBEq, Nat.reduceAdd, Nat.reduceSub, Nat.reduceLeDiff, Nat.reduceLT, implies_true, and_self, Int.natCast_zero, Int.natCast_one, Int.cast_ofNat_Int, evV, encInts, encNats, encBools, encP, zN, List.length_append, List.map_append]) <;> exact fin2) (by (try simp only [evWA, Nat.reduceBEq, Nat.reduceAdd, Nat.reduceSub, Nat.reduceLeDiff, Nat.reduceLT, implies_true, and_self, Int.natCast_zero, Int.natCast_one, Int.cast_ofNat_Int, evV, encInts, encNats, encBools, encP, zN, List.length_append, List.map_append]) <;> exact fin2))⟩
      · rw [elN_neg h1] at hgo hlen
        simp only [List.length_singleton] at hlen
        (repeat (first | (simp (disch := first | exact dis1 | fail) only [evA, Nat.reduceBEq, Nat.reduceAdd, Nat.reduceLeDiff, boxR, rboxR, allocR, fldR, binI, unR, pickR, mknilR, mkslR, buildSlR, buildR, extR, convI, eqB, evU, wrap64, dT, dF, hg, fldP, encN_len]) | (with_reducible intro _) | ((with_reducible apply And.intro); omega)))
        exact ⟨(i + 1, x ++ [.mk ⟨kd', bl', lb'⟩ c' m]), ⟨by simp only; omega, hgo⟩, by simp only; omega, (Ent.tab [(0, 0, 0), (1, 1, 0), (2, 2, 1)] [] rfl (by (try simp only [evWA, Nat.reduceBEq, Nat.reduceAdd, Nat.reduceSub, Nat.reduceLeDiff, Nat.reduceLT, implies_true, and_self, Int.natCast_zero, Int.natCast_one, Int.cast_ofNat_Int, evV, encInts, encNats, encBools, encP, zN, List.length_append, List.map_append, List.map_cons, List.map_nil, encN_eq, List.length_singleton]) <;> exact fin2) (by (try simp only [evWA, Nat.reduceBEq, Nat.reduceAdd, Nat.reduceSub, Nat.reduceLeDiff, Nat.reduceLT, implies_true, and_self, Int.natCast_zero, Int.natCast_one, Int.cast_ofNat_Int, evV, encInts, encNats, encBools, encP, zN, List.length_append, List.map_append, List.map_cons, List.map_nil, encN_eq, List.length_singleton]) <;> exact fin2))⟩
    · rw [List.drop_of_length_le (by omega)] at hgo
      replace hgo : x = R := by rw [← hgo]; simp [flatL]
      subst hgo
      (repeat (first | (simp (disch := first | exact dis1 | fail) only [evA, Nat.reduceBEq, Nat.reduceAdd, Nat.reduceLeDiff, boxR, rboxR, allocR, fldR, binI, unR, pickR, mknilR, mkslR, buildSlR, buildR, extR, convI, eqB, evU, wrap64, dF]) | (with_reducible intro _) | ((with_reducible apply And.intro); omega)))
      unfold ac_R36_flat_k1
      by_cases hone : x.length = 1
      · obtain ⟨a, rfl⟩ : ∃ a, x = [a] := List.length_eq_one_iff.1 hone
        have hg : ([a].map encN).getD (Int.toNat 0) [] = encN a := rfl
        simp only [List.map_cons, List.map_nil] at hg
        (repeat (first | (simp (disch := first | exact dis1 | fail) only [evA, Nat.reduceBEq, Nat.reduceAdd, Nat.reduceLeDiff, boxR, rboxR, allocR, fldR, binI, unR, pickR, mknilR, mkslR, buildSlR, buildR, extR, convI, eqB, evU, wrap64, dT, hg, rs_R36_flat, encN_len, encN_five]) | (with_reducible intro _) | ((with_reducible apply And.intro); omega)))
        exact ⟨_, frzA, rfl⟩
      · have ho : oneOr ⟨1, bl, lb⟩ c x = .mk ⟨1, bl, lb⟩ c x := by
          unfold oneOr
          split
          · rename_i a; simp at hone
          · rfl
        rw [ho]
        (repeat (first | (simp (disch := first | exact dis1 | fail) only [evA, Nat.reduceBEq, Nat.reduceAdd, Nat.reduceLeDiff, boxR, rboxR, allocR, fldR, binI, unR, pickR, mknilR, mkslR, buildSlR, buildR, extR, convI, eqB, evU, wrap64, dF, rs_R36_flat]) | (with_reducible intro _) | ((with_reducible apply And.intro); omega)))
        exact ⟨_, frzN rfl (by omega), rfl⟩
  · rw [flatN_mk, if_neg h1]
    rw [hE]
    (repeat (first | (simp (disch := first | exact dis1 | fail) only [evA, Nat.reduceBEq, Nat.reduceAdd, Nat.reduceLeDiff, boxR, rboxR, allocR, fldR, binI, unR, pickR, mknilR, mkslR, buildSlR, buildR, extR, convI, eqB, evU, wrap64, dT, rs_R36_flat]) | (with_reducible intro _) | ((with_reducible apply And.intro); omega)))
    rw [← hE]
    exact ⟨_, frzA, rfl⟩

/-! Sizes. -/

theorem sizeNs_elN (x : Nd) : sizeNs (elN x) ≤ sizeN x := by
  obtain ⟨⟨kd, bl, lb⟩, c, m⟩ := x
  rw [sizeN]
  by_cases h : kd = 1
  · rw [elN_pos h]; omega
  · rw [elN_neg h, sizeNs, sizeNs, sizeN]; omega
theorem sizeNs_flatL : ∀ l : List Nd, sizeNs (flatL l) ≤ sizeNs l
  | [] => Nat.le_refl _
  | x :: l => by
    have ih := sizeNs_flatL l
    have h0 := sizeNs_elN x
    show sizeNs (elN x ++ flatL l) ≤ _
    rw [sizeNs_append, sizeNs]
    omega
theorem sizeN_flatN (n : Nd) : sizeN (flatN n) ≤ sizeN n := by
  obtain ⟨f, c, l⟩ := n
  rw [flatN_mk]
  have := sizeNs_flatL l
  split
  · unfold oneOr
    split
    · rename_i a ha
      rw [ha, sizeNs, sizeNs] at this
      rw [sizeN]
      omega
    · rw [sizeN, sizeN]
      omega
  · exact Nat.le_refl _

mutual
theorem sizeN_againN : ∀ n : Nd, sizeN (againN n) ≤ sizeN n
  | .mk f c l => by
    rw [againN, sizeN]
    have h1 := sizeN_flatN (.mk f c (againNs l))
    have h2 := sizeNs_againNs l
    rw [sizeN] at h1
    omega
theorem sizeNs_againNs : ∀ l : List Nd, sizeNs (againNs l) ≤ sizeNs l
  | [] => by rw [againNs]; exact Nat.le_refl _
  | x :: l => by
    have h1 := sizeN_againN x
    have h2 := sizeNs_againNs l
    rw [againNs, sizeNs, sizeNs]
    omega
end

mutual
theorem sizeN_cutN : ∀ n : Nd, sizeN (cutN n) ≤ sizeN n
  | .mk f c l => by
    have h1 := sizeNs_cutLast l
    have h2 := sizeNs_cutAll l
    rw [cutN]
    split
    · simp only [sizeN, sizeNs]; omega
    · split
      · simp only [sizeN]; omega
      · split
        · simp only [sizeN]; omega
        · exact Nat.le_refl _
theorem sizeNs_cutLast : ∀ l : List Nd, sizeNs (cutLast l) ≤ sizeNs l
  | [] => by rw [cutLast]; exact Nat.le_refl _
  | [x] => by
    have h1 := sizeN_cutN x
    simp only [cutLast, sizeNs]
    omega
  | x :: y :: l => by
    have h1 := sizeNs_cutLast (y :: l)
    rw [cutLast, sizeNs]
    rw [sizeNs.eq_2]
    omega
theorem sizeNs_cutAll : ∀ l : List Nd, sizeNs (cutAll l) ≤ sizeNs l
  | [] => by rw [cutAll]; exact Nat.le_refl _
  | x :: l => by
    have h1 := sizeN_cutN x
    have h2 := sizeNs_cutAll l
    rw [cutAll, sizeNs, sizeNs]
    omega
end

mutual
theorem sizeN_simpN : ∀ n : Nd, sizeN (simpN n) ≤ sizeN n
  | .mk f c l => by
    rw [simpN, sizeN]
    have h1 := sizeN_flatN (.mk f c (simpNs (isLoopK f.kind) l))
    have h2 := sizeNs_simpNs (isLoopK f.kind) l
    rw [sizeN] at h1
    omega
theorem sizeNs_simpNs : ∀ (b : Bool) (l : List Nd), sizeNs (simpNs b l) ≤ sizeNs l
  | b, [] => by rw [simpNs]; exact Nat.le_refl _
  | b, x :: l => by
    have h1 := sizeN_simpN x
    have h2 := sizeNs_simpNs b l
    have h3 := sizeN_cutN (simpN x)
    have h4 := sizeN_againN (cutN (simpN x))
    rw [simpNs, sizeNs, sizeNs]
    split <;> omega
end

theorem R36_again_ok : ∀ (k : Nat) (e : Nd), sizeN e ≤ k → k ≤ 100000 → PureFn Tryz.prog f_R36_again [.agg (encN e)] (· = .agg (encN (againN e))) := by
  intro k
  induction k with
  | zero => intro e h; obtain ⟨_, _, l⟩ := e; rw [sizeN] at h; omega
  | succ k ih =>
  intro e hk hk2
  obtain ⟨⟨kd, bl, lb⟩, c, l⟩ := e
  refine fn_x cf_R36_again rfl ?_
  unfold ac_R36_again
  have hB : big = 9223372036854775807 := rfl
  rw [sizeN] at hk
  have hll := sizeNs_len l
  have hE := encN_eq ⟨kd, bl, lb⟩ c l
  simp only at hE
  rw [hE, againN]
  (repeat (first | (simp (disch := first | exact dis1 | fail) only [evA, Nat.reduceBEq, Nat.reduceAdd, Nat.reduceLeDiff, boxR, rboxR, allocR, fldR, binI, unR, pickR, mknilR, mkslR, buildSlR, buildR, extR, convI, eqB, evU, wrap64]) | (with_reducible intro _) | ((with_reducible apply And.intro); omega)))
  refine loopX_intro (fun s : Nat × List Nd => ([(1, .ptr 0 0 0 0 0), (2, .ptr 1 0 0 0 0), (3, .own 2 0 0 0 s.2.length), (4, .int .i64 s.1)], [(0, .row 5 [[.int .i64 kd, .int .i64 bl, .int .i64 lb, encL 5 encX c, encL 5 encN l]] 0), (1, .row 5 [zN] 0), (2, .row 5 (s.2.map encN) 0)])) 3 (fun s => s.1 ≤ l.length ∧ s.2 = (l.take s.1).map againN) (fun s => l.length - s.1) (0, []) ⟨Nat.zero_le _, rfl⟩ (Ent.tab [(0, 0, 0), (1, 1, 0), (2, 2, 0)] [] rfl (by (try simp only [evWA, Nat.reduceBEq, Nat.reduceAdd, Nat.reduceSub, Nat.reduceLeDiff, Nat.reduceLT, implies_true, and_self, Int.natCast_zero, Int.natCast_one, Int.cast_ofNat_Int, evV, encInts, encNats, encBools, encP, zN]) <;> exact fin2) (by (try simp only [evWA, Nat.reduceBEq, Nat.reduceAdd, Nat.reduceSub, Nat.reduceLeDiff, Nat.reduceLT, implies_true, and_self, Int.natCast_zero, Int.natCast_one, Int.cast_ofNat_Int, evV, encInts, encNats, encBools, encP, zN]) <;> exact fin2)) ?_
  rintro ⟨i, x⟩ ⟨hi, hx⟩ wf
  simp only at hi hx
  unfold ac_R36_again_l0
  have hxl : x.length = i := by rw [hx, List.length_map, List.length_take]; omega
  by_cases hl : i < l.length
  · have hm := sizeN_mem (List.getElem_mem hl)
    (repeat (first | (simp (disch := first | exact dis1 | fail) only [evA, Nat.reduceBEq, Nat.reduceAdd, Nat.reduceLeDiff, boxR, rboxR, allocR, fldR, binI, unR, pickR, mknilR, mkslR, buildSlR, buildR, extR, convI, eqB, evU, wrap64, dT, getD_map hl, encN_len, encN_five]) | (with_reducible intro _) | ((with_reducible apply And.intro); omega)))
    refine callX_fix (call_flat (ih l[i] (by omega) (by omega)) (flN rfl)) ?_
    (repeat (first | (simp (disch := first | exact dis1 | fail) only [evA, Nat.reduceBEq, Nat.reduceAdd, Nat.reduceLeDiff, boxR, rboxR, allocR, fldR, binI, unR, pickR, mknilR, mkslR, buildSlR, buildR, extR, convI, eqB, evU, wrap64, encN_len, encN_five]) | (with_reducible intro _) | ((with_reducible apply And.intro); omega)))
    exact ⟨(i + 1, x ++ [againN l[i]]), ⟨by simp only; omega, by simp only; rw [take_snoc hl, List.map_append, hx]; rfl⟩, by simp only; omega, (Ent.tab [(0, 0, 0), (1, 1, 0), (2, 2, 1)] [] rfl (by (try simp only [evWA, Nat.reduceBEq, Nat.reduceAdd, Nat.reduceSub, Nat.reduceLeDiff, Nat.reduceLT, implies_true, and_self, Int.natCast_zero, Int.natCast_one, Int.cast_ofNat_Int, evV, encInts, encNats, encBools, encP, zN, List.length_append, List.map_append, List.map_cons, List.map_nil, List.length_singleton]) <;> exact fin2) (by (try simp only [evWA, Nat.reduceBEq, Nat.reduceAdd, Nat.reduceSub, Nat.reduceLeDiff, Nat.reduceLT, implies_true, and_self, Int.natCast_zero, Int.natCast_one, Int.cast_ofNat_Int, evV, encInts, encNats, encBools, encP, zN, List.length_append, List.map_append, List.map_cons, List.map_nil, List.length_singleton]) <;> exact fin2))⟩
  · replace hx : x = againNs l := by rw [hx, againNs_map, List.take_of_length_le (by omega)]
    have hsz := sizeNs_againNs l
    have hxl2 := sizeNs_len x
    subst hx
    (repeat (first | (simp (disch := first | exact dis1 | fail) only [evA, Nat.reduceBEq, Nat.reduceAdd, Nat.reduceLeDiff, boxR, rboxR, allocR, fldR, binI, unR, pickR, mknilR, mkslR, buildSlR, buildR, extR, convI, eqB, evU, wrap64, dF]) | (with_reducible intro _) | ((with_reducible apply And.intro); omega)))
    unfold ac_R36_again_k1
    (repeat (first | (simp (disch := first | exact dis1 | fail) only [evA, Nat.reduceBEq, Nat.reduceAdd, Nat.reduceLeDiff, boxR, rboxR, allocR, fldR, binI, unR, pickR, mknilR, mkslR, buildSlR, buildR, extR, convI, eqB, evU, wrap64]) | (with_reducible intro _) | ((with_reducible apply And.intro); omega)))
    refine markX_intro [(1, .ptr 0 0 0 0 0), (2, .ptr 1 0 0 0 0)] [(0, .row 5 [[.int .i64 kd, .int .i64 bl, .int .i64 lb, encL 5 encX c, encL 5 encN (againNs l)]] 0), (1, .row 5 [zN] 0)] 2 fun _ => ⟨(Ent.tab [(0, 0, 0), (1, 1, 0)] [2] rfl (by (try simp only [evWA, Nat.reduceBEq, Nat.reduceAdd, Nat.reduceSub, Nat.reduceLeDiff, Nat.reduceLT, implies_true, and_self, Int.natCast_zero, Int.natCast_one, Int.cast_ofNat_Int, evV, encInts, encNats, encBools, encP, zN]) <;> ((repeat' with_reducible apply And.intro) <;> first | omega | rfl | exact vwl_flat rfl | (refine RowV.of_flat ?_; (repeat' (first | exact flat_map (fun _ => rfl) | exact flat_map (fun _ => encN_flat) | exact flat_map (fun _ => encX_flat) | exact flat_one encN_flat | exact flat_one encX_flat | exact flat_rep rfl | exact flat_nil | exact flat_one rfl | refine flat_plus ?_ ?_ | refine flat_cons rfl ?_ | refine flat_cons encN_flat ?_ | refine flat_cons encX_flat ?_)); done) | ((repeat' (first | exact flat_map (fun _ => rfl) | exact flat_map (fun _ => encN_flat) | exact flat_map (fun _ => encX_flat) | exact flat_one encN_flat | exact flat_one encX_flat | exact flat_rep rfl | exact flat_nil | exact flat_one rfl | refine flat_plus ?_ ?_ | refine flat_cons rfl ?_ | refine flat_cons encN_flat ?_ | refine flat_cons encX_flat ?_)); done) | exact vw_nodes rfl rfl (by omega) | exact vw_exprs rfl rfl (by omega) | exact vw_nats rfl rfl (by omega) | exact vw_ints rfl rfl (by omega) | exact vw_bools rfl rfl (by omega) | exact rowV_fe (fun _ => rfl) | exact rowsV_fam (fun _ => rfl) (by decide) ⟨rfl, rfl⟩ trivial | exact rowsV_fam (fun _ => rfl) (by decide) (fun _ _ => ⟨rfl, rfl⟩) trivial | (simp; done))) (by (try simp only [evWA, Nat.reduceBEq, Nat.reduceAdd, Nat.reduceSub, Nat.reduceLeDiff, Nat.reduceLT, implies_true, and_self, Int.natCast_zero, Int.natCast_one, Int.cast_ofNat_Int, evV, encInts, encNats, encBools, encP, zN]) <;> ((repeat' with_reducible apply And.intro) <;> first | omega | rfl | exact vwl_flat rfl | (refine RowV.of_flat ?_; (repeat' (first | exact flat_map (fun _ => rfl) | exact flat_map (fun _ => encN_flat) | exact flat_map (fun _ => encX_flat) | exact flat_one encN_flat | exact flat_one encX_flat | exact flat_rep rfl | exact flat_nil | exact flat_one rfl | refine flat_plus ?_ ?_ | refine flat_cons rfl ?_ | refine flat_cons encN_flat ?_ | refine flat_cons encX_flat ?_)); done) | ((repeat' (first | exact flat_map (fun _ => rfl) | exact flat_map (fun _ => encN_flat) | exact flat_map (fun _ => encX_flat) | exact flat_one encN_flat | exact flat_one encX_flat | exact flat_rep rfl | exact flat_nil | exact flat_one rfl | refine flat_plus ?_ ?_ | refine flat_cons rfl ?_ | refine flat_cons encN_flat ?_ | refine flat_cons encX_flat ?_)); done) | exact vw_nodes rfl rfl (by omega) | exact vw_exprs rfl rfl (by omega) | exact vw_nats rfl rfl (by omega) | exact vw_ints rfl rfl (by omega) | exact vw_bools rfl rfl (by omega) | exact rowV_fe (fun _ => rfl) | exact rowsV_fam (fun _ => rfl) (by decide) ⟨rfl, rfl⟩ trivial | exact rowsV_fam (fun _ => rfl) (by decide) (fun _ _ => ⟨rfl, rfl⟩) trivial | (simp; done)))), ?_⟩
    have hf := R36_flat_ok (.mk ⟨kd, bl, lb⟩ c (againNs l)) (by rw [sizeN]; omega)
    rw [encN_eq] at hf
    (repeat (first | (simp (disch := first | exact dis1 | fail) only [evA, Nat.reduceBEq, Nat.reduceAdd, Nat.reduceLeDiff, boxR, rboxR, allocR, fldR, binI, unR, pickR, mknilR, mkslR, buildSlR, buildR, extR, convI, eqB, evU, wrap64]) | (with_reducible intro _) | ((with_reducible apply And.intro); omega)))
    refine callX_fix (call_flat hf rfl) ?_
    (repeat (first | (simp (disch := first | exact dis1 | fail) only [evA, Nat.reduceBEq, Nat.reduceAdd, Nat.reduceLeDiff, boxR, rboxR, allocR, fldR, binI, unR, pickR, mknilR, mkslR, buildSlR, buildR, extR, convI, eqB, evU, wrap64, encN_len, rs_R36_again]) | (with_reducible intro _) | ((with_reducible apply And.intro); omega)))
    exact ⟨_, frzA, rfl⟩

end Go.Ab

namespace Go.Ab
open Go.RowKit Go.Proofs

/-- A list whose first elements are changed. -/
def pm {α : Type} (g : α → α) (l : List α) (i : Nat) : List α := (l.take i).map g ++ l.drop i
theorem pm_zero {α : Type} {g : α → α} {l : List α} : pm g l 0 = l := rfl
theorem pm_all {α : Type} {g : α → α} {l : List α} {i : Nat} (h : l.length ≤ i) : pm g l i = l.map g := by
  unfold pm
  rw [List.take_of_length_le h, List.drop_of_length_le h, List.append_nil]
theorem pm_len {α : Type} {g : α → α} {l : List α} {i : Nat} (h : i ≤ l.length) : (pm g l i).length = l.length := by
  unfold pm
  rw [List.length_append, List.length_map, List.length_take, List.length_drop]
  omega
theorem pm_getD {α : Type} {f : α → List AV} {g : α → α} {l : List α} {i : Nat} {d : List AV} (h : i < l.length) : ((pm g l i).map f).getD i d = f l[i] := by
  have h1 : (pm g l i)[i]? = some l[i] := by
    unfold pm
    rw [List.getElem?_append_right (by rw [List.length_map, List.length_take]; omega), List.length_map, List.length_take, List.getElem?_drop]
    rw [show i + (i - min i l.length) = i by omega]
    exact List.getElem?_eq_getElem h
  rw [List.getD_eq_getElem?_getD, List.getElem?_map, h1]
  rfl
theorem pm_set {α : Type} {f : α → List AV} {g : α → α} {l : List α} {i : Nat} (h : i < l.length) : ((pm g l i).map f).set i (f (g l[i])) = (pm g l (i + 1)).map f := by
  rw [← List.map_set]
  congr 1
  unfold pm
  have hl : ((l.take i).map g).length = i := by rw [List.length_map, List.length_take]; omega
  rw [List.set_append_right (h := by omega), hl, Nat.sub_self, List.drop_eq_getElem_cons h, List.set_cons_zero, take_snoc h, List.map_append, List.append_assoc]
  rfl

theorem cutLast_set : ∀ (l : List Nd) (h : l.length - 1 < l.length), cutLast l = l.set (l.length - 1) (cutN (l[l.length - 1]'h))
  | [], h => by simp at h
  | [x], h => by rw [cutLast]; rfl
  | x :: y :: l, h => by
    rw [cutLast, cutLast_set (y :: l) (by simp)]
    simp

theorem R36_cut_ok : ∀ (k : Nat) (e : Nd), sizeN e ≤ k → k ≤ 100000 → PureFn Tryz.prog f_R36_cut [.agg (encN e)] (· = .agg (encN (cutN e))) := by
  intro k
  induction k with
  | zero => intro e h; obtain ⟨_, _, l⟩ := e; rw [sizeN] at h; omega
  | succ k ih =>
  intro e hk hk2
  obtain ⟨⟨kd, bl, lb⟩, c, l⟩ := e
  refine fn_x cf_R36_cut rfl ?_
  unfold ac_R36_cut
  have hB : big = 9223372036854775807 := rfl
  rw [sizeN] at hk
  have hll := sizeNs_len l
  have hE := encN_eq ⟨kd, bl, lb⟩ c l
  simp only at hE
  rw [hE]
  have hel : ∀ H, elsOf 5 (encL 5 encN l) H = some (l.map encN) := fun H => elsOf_encL (fun _ _ => encN_len)
  have hcut : cutN (.mk ⟨kd, bl, lb⟩ c l) = if kd = 8 then .mk seqF [] [] else if kd = 1 then .mk ⟨kd, bl, lb⟩ c (cutLast l) else if kd = 3 ∨ kd = 6 then .mk ⟨kd, bl, lb⟩ c (cutAll l) else .mk ⟨kd, bl, lb⟩ c l := by rw [cutN]
  generalize hR : cutN (.mk ⟨kd, bl, lb⟩ c l) = R
  rw [hR] at hcut
  subst hcut
  (repeat (first | (simp (disch := first | exact dis1 | fail) only [evA, Nat.reduceBEq, Nat.reduceAdd, Nat.reduceLeDiff, boxR, rboxR, allocR, fldR, binI, unR, pickR, mknilR, mkslR, buildSlR, buildR, extR, convI, eqB, evU, wrap64, hel]) | (with_reducible intro _) | ((with_reducible apply And.intro); omega)))
  by_cases h8 : kd = 8
  · rw [if_pos h8]
    (repeat (first | (simp (disch := first | exact dis1 | fail) only [evA, Nat.reduceBEq, Nat.reduceAdd, Nat.reduceLeDiff, boxR, rboxR, allocR, fldR, binI, unR, pickR, mknilR, mkslR, buildSlR, buildR, extR, convI, eqB, evU, wrap64, dT]) | (with_reducible intro _) | ((with_reducible apply And.intro); omega)))
    refine callX_fix (call_flat R36_seq_ok rfl) ?_
    (repeat (first | (simp (disch := first | exact dis1 | fail) only [evA, Nat.reduceBEq, Nat.reduceAdd, Nat.reduceLeDiff, boxR, rboxR, allocR, fldR, binI, unR, pickR, mknilR, mkslR, buildSlR, buildR, extR, convI, eqB, evU, wrap64, encN_len, rs_R36_cut]) | (with_reducible intro _) | ((with_reducible apply And.intro); omega)))
    exact ⟨_, frzA, rfl⟩
  rw [if_neg h8]
  by_cases h1 : kd = 1
  · rw [if_pos h1]
    (repeat (first | (simp (disch := first | exact dis1 | fail) only [evA, Nat.reduceBEq, Nat.reduceAdd, Nat.reduceLeDiff, boxR, rboxR, allocR, fldR, binI, unR, pickR, mknilR, mkslR, buildSlR, buildR, extR, convI, eqB, evU, wrap64, dF, dT]) | (with_reducible intro _) | ((with_reducible apply And.intro); omega)))
    by_cases h0 : 0 < l.length
    · have hi : l.length - 1 < l.length := by omega
      have hidx : (((l.length : Nat) : Int) - 1).toNat = l.length - 1 := by omega
      have hm := sizeN_mem (List.getElem_mem hi)
      (repeat (first | (simp (disch := first | exact dis1 | fail) only [evA, Nat.reduceBEq, Nat.reduceAdd, Nat.reduceLeDiff, boxR, rboxR, allocR, fldR, binI, unR, pickR, mknilR, mkslR, buildSlR, buildR, extR, convI, eqB, evU, wrap64, dT, hidx, getD_map hi, encN_len, encN_five]) | (with_reducible intro _) | ((with_reducible apply And.intro); omega)))
      refine callX_fix (call_flat (ih l[l.length - 1] (by omega) (by omega)) (flN rfl)) ?_
      have hset : (l.map encN).set (l.length - 1) (encN (cutN l[l.length - 1])) = (cutLast l).map encN := by rw [cutLast_set l hi, List.map_set]
      have hcl : l.length = (cutLast l).length := by rw [cutLast_set l hi, List.length_set]
      (repeat (first | (simp (disch := first | exact dis1 | fail) only [evA, Nat.reduceBEq, Nat.reduceAdd, Nat.reduceLeDiff, boxR, rboxR, allocR, fldR, binI, unR, pickR, mknilR, mkslR, buildSlR, buildR, extR, convI, eqB, evU, wrap64, dT, hidx, getD_map hi, encN_len, encN_five, hset]) | (with_reducible intro _) | ((with_reducible apply And.intro); omega)))
      unfold ac_R36_cut_k1
      (repeat (first | (simp (disch := first | exact dis1 | fail) only [evA, Nat.reduceBEq, Nat.reduceAdd, Nat.reduceLeDiff, boxR, rboxR, allocR, fldR, binI, unR, pickR, mknilR, mkslR, buildSlR, buildR, extR, convI, eqB, evU, wrap64, rs_R36_cut]) | (with_reducible intro _) | ((with_reducible apply And.intro); omega)))
      rw [hcl]
      exact ⟨_, frzN rfl (by omega), rfl⟩
    · obtain rfl : l = [] := List.eq_nil_of_length_eq_zero (by omega)
      (repeat (first | (simp (disch := first | exact dis1 | fail) only [evA, Nat.reduceBEq, Nat.reduceAdd, Nat.reduceLeDiff, boxR, rboxR, allocR, fldR, binI, unR, pickR, mknilR, mkslR, buildSlR, buildR, extR, convI, eqB, evU, wrap64, dF, List.length_nil]) | (with_reducible intro _) | ((with_reducible apply And.intro); omega)))
      unfold ac_R36_cut_k1
      (repeat (first | (simp (disch := first | exact dis1 | fail) only [evA, Nat.reduceBEq, Nat.reduceAdd, Nat.reduceLeDiff, boxR, rboxR, allocR, fldR, binI, unR, pickR, mknilR, mkslR, buildSlR, buildR, extR, convI, eqB, evU, wrap64, rs_R36_cut]) | (with_reducible intro _) | ((with_reducible apply And.intro); omega)))
      exact ⟨_, frzN (l := []) rfl (by simp), by rw [cutLast]⟩
  rw [if_neg h1]
  have loop : ∀ (K : Kn) (H : AH) (nx : Nat), Ent 0 K H nx [(1, .ptr 0 0 0 0 0), (2, .ptr 1 0 0 0 0), (3, .own 2 0 0 0 l.length), (4, .int .i64 0)] [(0, .row 5 [[.int .i64 kd, .int .i64 bl, .int .i64 lb, encL 5 encX c, encL 5 encN l]] 0), (1, .row 5 [zN] 0), (2, .row 5 (l.map encN) 0)] 3 → loopX Tryz.prog 0 ac_R36_cut_l0 (blockQ 1 (blockQ 0 (seqQ Tryz.prog 0 ac_R36_cut_k1 (retK rs_R36_cut fun v H' x => ∃ a, Frz H' v a ∧ a = .agg (encN (.mk ⟨kd, bl, lb⟩ c (cutAll l))))))) K H nx := by
    intro K H nx hent
    refine loopX_intro (fun i : Nat => ([(1, .ptr 0 0 0 0 0), (2, .ptr 1 0 0 0 0), (3, .own 2 0 0 0 l.length), (4, .int .i64 i)], [(0, .row 5 [[.int .i64 kd, .int .i64 bl, .int .i64 lb, encL 5 encX c, encL 5 encN l]] 0), (1, .row 5 [zN] 0), (2, .row 5 ((pm cutN l i).map encN) 0)])) 3 (fun i => i ≤ l.length) (fun i => l.length - i) 0 (Nat.zero_le _) hent ?_
    intro i hi wf
    unfold ac_R36_cut_l0
    have hpl : (pm cutN l i).length = l.length := pm_len hi
    by_cases hl : i < l.length
    · have hm := sizeN_mem (List.getElem_mem hl)
      (repeat (first | (simp (disch := first | exact dis1 | fail) only [evA, Nat.reduceBEq, Nat.reduceAdd, Nat.reduceLeDiff, boxR, rboxR, allocR, fldR, binI, unR, pickR, mknilR, mkslR, buildSlR, buildR, extR, convI, eqB, evU, wrap64, dT, hpl, pm_getD hl, encN_len, encN_five]) | (with_reducible intro _) | ((with_reducible apply And.intro); omega)))
      refine callX_fix (call_flat (ih l[i] (by omega) (by omega)) (flN rfl)) ?_
      (repeat (first | (simp (disch := first | exact dis1 | fail) only [evA, Nat.reduceBEq, Nat.reduceAdd, Nat.reduceLeDiff, boxR, rboxR, allocR, fldR, binI, unR, pickR, mknilR, mkslR, buildSlR, buildR, extR, convI, eqB, evU, wrap64, hpl, pm_getD hl, encN_len, encN_five, pm_set hl]) | (with_reducible intro _) | ((with_reducible apply And.intro); omega)))
      exact ⟨i + 1, by omega, by omega, (Ent.tab [(0, 0, 0), (1, 1, 0), (2, 2, 0)] [] rfl (by (try simp only [evWA, Nat.reduceBEq, Nat.reduceAdd, Nat.reduceSub, Nat.reduceLeDiff, Nat.reduceLT, implies_true, and_self, Int.natCast_zero, Int.natCast_one, Int.cast_ofNat_Int, evV, encInts, encNats, encBools, encP, zN]) <;> exact fin2) (by (try simp only [evWA, Nat.reduceBEq, Nat.reduceAdd, Nat.reduceSub, Nat.reduceLeDiff, Nat.reduceLT, implies_true, and_self, Int.natCast_zero, Int.natCast_one, Int.cast_ofNat_Int, evV, encInts, encNats, encBools, encP, zN]) <;> exact fin2))⟩
    · (repeat (first | (simp (disch := first | exact dis1 | fail) only [evA, Nat.reduceBEq, Nat.reduceAdd, Nat.reduceLeDiff, boxR, rboxR, allocR, fldR, binI, unR, pickR, mknilR, mkslR, buildSlR, buildR, extR, convI, eqB, evU, wrap64, dF, hpl]) | (with_reducible intro _) | ((with_reducible apply And.intro); omega)))
      unfold ac_R36_cut_k1
      have hp : pm cutN l i = cutAll l := by rw [pm_all (by omega), cutAll_map]
      have hcl : l.length = (cutAll l).length := by rw [cutAll_map, List.length_map]
      rw [hp, hcl]
      (repeat (first | (simp (disch := first | exact dis1 | fail) only [evA, Nat.reduceBEq, Nat.reduceAdd, Nat.reduceLeDiff, boxR, rboxR, allocR, fldR, binI, unR, pickR, mknilR, mkslR, buildSlR, buildR, extR, convI, eqB, evU, wrap64, rs_R36_cut]) | (with_reducible intro _) | ((with_reducible apply And.intro); omega)))
      exact ⟨_, frzN rfl (by omega), rfl⟩
  by_cases h3 : kd = 3
  · rw [if_pos (.inl h3)]
    (repeat (first | (simp (disch := first | exact dis1 | fail) only [evA, Nat.reduceBEq, Nat.reduceAdd, Nat.reduceLeDiff, boxR, rboxR, allocR, fldR, binI, unR, pickR, mknilR, mkslR, buildSlR, buildR, extR, convI, eqB, evU, wrap64, dF, dT]) | (with_reducible intro _) | ((with_reducible apply And.intro); omega)))
    exact loop _ _ _ (Ent.tab [(0, 0, 0), (1, 1, 0), (2, 2, 1)] [] rfl (by (try simp only [evWA, Nat.reduceBEq, Nat.reduceAdd, Nat.reduceSub, Nat.reduceLeDiff, Nat.reduceLT, implies_true, and_self, Int.natCast_zero, Int.natCast_one, Int.cast_ofNat_Int, evV, encInts, encNats, encBools, encP, zN]) <;> exact fin2) (by (try simp only [evWA, Nat.reduceBEq, Nat.reduceAdd, Nat.reduceSub, Nat.reduceLeDiff, Nat.reduceLT, implies_true, and_self, Int.natCast_zero, Int.natCast_one, Int.cast_ofNat_Int, evV, encInts, encNats, encBools, encP, zN]) <;> exact fin2))
  by_cases h6 : kd = 6
  · rw [if_pos (.inr h6)]
    (repeat (first | (simp (disch := first | exact dis1 | fail) only [evA, Nat.reduceBEq, Nat.reduceAdd, Nat.reduceLeDiff, boxR, rboxR, allocR, fldR, binI, unR, pickR, mknilR, mkslR, buildSlR, buildR, extR, convI, eqB, evU, wrap64, dF, dT]) | (with_reducible intro _) | ((with_reducible apply And.intro); omega)))
    exact loop _ _ _ (Ent.tab [(0, 0, 0), (1, 1, 0), (2, 2, 1)] [] rfl (by (try simp only [evWA, Nat.reduceBEq, Nat.reduceAdd, Nat.reduceSub, Nat.reduceLeDiff, Nat.reduceLT, implies_true, and_self, Int.natCast_zero, Int.natCast_one, Int.cast_ofNat_Int, evV, encInts, encNats, encBools, encP, zN]) <;> exact fin2) (by (try simp only [evWA, Nat.reduceBEq, Nat.reduceAdd, Nat.reduceSub, Nat.reduceLeDiff, Nat.reduceLT, implies_true, and_self, Int.natCast_zero, Int.natCast_one, Int.cast_ofNat_Int, evV, encInts, encNats, encBools, encP, zN]) <;> exact fin2))
  rw [if_neg (by omega)]
  (repeat (first | (simp (disch := first | exact dis1 | fail) only [evA, Nat.reduceBEq, Nat.reduceAdd, Nat.reduceLeDiff, boxR, rboxR, allocR, fldR, binI, unR, pickR, mknilR, mkslR, buildSlR, buildR, extR, convI, eqB, evU, wrap64, dF]) | (with_reducible intro _) | ((with_reducible apply And.intro); omega)))
  unfold ac_R36_cut_k1
  (repeat (first | (simp (disch := first | exact dis1 | fail) only [evA, Nat.reduceBEq, Nat.reduceAdd, Nat.reduceLeDiff, boxR, rboxR, allocR, fldR, binI, unR, pickR, mknilR, mkslR, buildSlR, buildR, extR, convI, eqB, evU, wrap64, rs_R36_cut]) | (with_reducible intro _) | ((with_reducible apply And.intro); omega)))
  exact ⟨_, frzN rfl (by omega), rfl⟩

/-- What becomes of a node's nodes. -/
def simp1 (b : Bool) (x : Nd) : Nd := if b = true then againN (cutN (simpN x)) else simpN x
theorem simp1_true {x : Nd} : simp1 true x = againN (cutN (simpN x)) := rfl
theorem simp1_false {x : Nd} : simp1 false x = simpN x := rfl
theorem simpNs_one {b : Bool} {l : List Nd} : simpNs b l = l.map (simp1 b) := simpNs_map b l

theorem R36_Simplify_ok : ∀ (k : Nat) (e : Nd), sizeN e ≤ k → k ≤ 100000 → PureFn Tryz.prog f_R36_Simplify [.agg (encN e)] (· = .agg (encN (simpN e))) := by
  intro k
  induction k with
  | zero => intro e h; obtain ⟨_, _, l⟩ := e; rw [sizeN] at h; omega
  | succ k ih =>
  intro e hk hk2
  obtain ⟨⟨kd, bl, lb⟩, c, l⟩ := e
  refine fn_x cf_R36_Simplify rfl ?_
  unfold ac_R36_Simplify
  have hB : big = 9223372036854775807 := rfl
  rw [sizeN] at hk
  have hll := sizeNs_len l
  have hE := encN_eq ⟨kd, bl, lb⟩ c l
  simp only at hE
  have hb0 : isLoopK kd = decide (kd = 4 ∨ kd = 5) := rfl
  rw [hE, simpN]
  simp only
  generalize isLoopK kd = b at hb0 ⊢
  (repeat (first | (simp (disch := first | exact dis1 | fail) only [evA, Nat.reduceBEq, Nat.reduceAdd, Nat.reduceLeDiff, boxR, rboxR, allocR, fldR, binI, unR, pickR, mknilR, mkslR, buildSlR, buildR, extR, convI, eqB, evU, wrap64]) | (with_reducible intro _) | ((with_reducible apply And.intro); omega)))
  refine loopX_intro (fun s : Nat × List Nd => ([(1, .ptr 0 0 0 0 0), (2, .ptr 1 0 0 0 0), (3, .own 2 0 0 0 s.2.length), (4, .int .i64 s.1)], [(0, .row 5 [[.int .i64 kd, .int .i64 bl, .int .i64 lb, encL 5 encX c, encL 5 encN l]] 0), (1, .row 5 [zN] 0), (2, .row 5 (s.2.map encN) 0)])) 3 (fun s => s.1 ≤ l.length ∧ s.2 = (l.take s.1).map (simp1 b)) (fun s => l.length - s.1) (0, []) ⟨Nat.zero_le _, rfl⟩ (Ent.tab [(0, 0, 0), (1, 1, 0), (2, 2, 0)] [] rfl (by (try simp only [evWA, Nat.reduceBEq, Nat.reduceAdd, Nat.reduceSub, Nat.reduceLeDiff, Nat.reduceLT, implies_true, and_self, Int.natCast_zero, Int.natCast_one, Int.cast_ofNat_Int, evV, encInts, encNats, encBools, encP, zN]) <;> exact fin2) (by (try simp only [evWA, Nat.reduceBEq, Nat.reduceAdd, Nat.reduceSub, Nat.reduceLeDiff, Nat.reduceLT, implies_true, and_self, Int.natCast_zero, Int.natCast_one, Int.cast_ofNat_Int, evV, encInts, encNats, encBools, encP, zN]) <;> exact fin2)) ?_
  rintro ⟨i, x⟩ ⟨hi, hx⟩ wf
  simp only at hi hx
  unfold ac_R36_Simplify_l0
  have hxl : x.length = i := by rw [hx, List.length_map, List.length_take]; omega
  by_cases hl : i < l.length
  · have hm := sizeN_mem (List.getElem_mem hl)
    have hs1 := sizeN_simpN l[i]
    have hs2 := sizeN_cutN (simpN l[i])
    have hnext : x ++ [simp1 b l[i]] = (l.take (i + 1)).map (simp1 b) := by rw [take_snoc hl, List.map_append, hx]; rfl
    (repeat (first | (simp (disch := first | exact dis1 | fail) only [evA, Nat.reduceBEq, Nat.reduceAdd, Nat.reduceLeDiff, boxR, rboxR, allocR, fldR, binI, unR, pickR, mknilR, mkslR, buildSlR, buildR, extR, convI, eqB, evU, wrap64, dT, getD_map hl, encN_len, encN_five]) | (with_reducible intro _) | ((with_reducible apply And.intro); omega)))
    refine callX_fix (call_flat (ih l[i] (by omega) (by omega)) (flN rfl)) ?_
    by_cases h45 : kd = 4 ∨ kd = 5
    · rw [decide_eq_true h45] at hb0
      subst hb0
      rw [simp1_true] at hnext
      rcases h45 with h4 | h5
      · (repeat (first | (simp (disch := first | exact dis1 | fail) only [evA, Nat.reduceBEq, Nat.reduceAdd, Nat.reduceLeDiff, boxR, rboxR, allocR, fldR, binI, unR, pickR, mknilR, mkslR, buildSlR, buildR, extR, convI, eqB, evU, wrap64, dT, encN_len, encN_five]) | (with_reducible intro _) | ((with_reducible apply And.intro); omega)))
        refine callX_fix (call_flat (R36_cut_ok (k + 1) (simpN l[i]) (by omega) (by omega)) (flN rfl)) ?_
        (repeat (first | (simp (disch := first | exact dis1 | fail) only [evA, Nat.reduceBEq, Nat.reduceAdd, Nat.reduceLeDiff, boxR, rboxR, allocR, fldR, binI, unR, pickR, mknilR, mkslR, buildSlR, buildR, extR, convI, eqB, evU, wrap64, encN_len, encN_five]) | (with_reducible intro _) | ((with_reducible apply And.intro); omega)))
        refine callX_fix (call_flat (R36_again_ok (k + 1) (cutN (simpN l[i])) (by omega) (by omega)) (flN rfl)) ?_
        (repeat (first | (simp (disch := first | exact dis1 | fail) only [evA, Nat.reduceBEq, Nat.reduceAdd, Nat.reduceLeDiff, boxR, rboxR, allocR, fldR, binI, unR, pickR, mknilR, mkslR, buildSlR, buildR, extR, convI, eqB, evU, wrap64, encN_len, encN_five]) | (with_reducible intro _) | ((with_reducible apply And.intro); omega)))
        exact ⟨(i + 1, x ++ [againN (cutN (simpN l[i]))]), ⟨by simp only; omega, hnext⟩, by simp only; omega, (Ent.tab [(0, 0, 0), (1, 1, 0), (2, 2, 1)] [] rfl (by (try simp only [evWA, Nat.reduceBEq, Nat.reduceAdd, Nat.reduceSub, Nat.reduceLeDiff, Nat.reduceLT, implies_true, and_self, Int.natCast_zero, Int.natCast_one, Int.cast_ofNat_Int, evV, encInts, encNats, encBools, encP, zN, List.length_append, List.map_append, List.map_cons, List.map_nil, List.length_singleton]) <;> exact fin2) (by (try simp only [evWA, Nat.reduceBEq, Nat.reduceAdd, Nat.reduceSub, Nat.reduceLeDiff, Nat.reduceLT, implies_true, and_self, Int.natCast_zero, Int.natCast_one, Int.cast_ofNat_Int, evV, encInts, encNats, encBools, encP, zN, List.length_append, List.map_append, List.map_cons, List.map_nil, List.length_singleton]) <;> exact fin2))⟩
      · (repeat (first | (simp (disch := first | exact dis1 | fail) only [evA, Nat.reduceBEq, Nat.reduceAdd, Nat.reduceLeDiff, boxR, rboxR, allocR, fldR, binI, unR, pickR, mknilR, mkslR, buildSlR, buildR, extR, convI, eqB, evU, wrap64, dF, dT, encN_len, encN_five]) | (with_reducible intro _) | ((with_reducible apply And.intro); omega)))
        refine callX_fix (call_flat (R36_cut_ok (k + 1) (simpN l[i]) (by omega) (by omega)) (flN rfl)) ?_
        (repeat (first | (simp (disch := first | exact dis1 | fail) only [evA, Nat.reduceBEq, Nat.reduceAdd, Nat.reduceLeDiff, boxR, rboxR, allocR, fldR, binI, unR, pickR, mknilR, mkslR, buildSlR, buildR, extR, convI, eqB, evU, wrap64, encN_len, encN_five]) | (with_reducible intro _) | ((with_reducible apply And.intro); omega)))
        refine callX_fix (call_flat (R36_again_ok (k + 1) (cutN (simpN l[i])) (by omega) (by omega)) (flN rfl)) ?_
        (repeat (first | (simp (disch := first | exact dis1 | fail) only [evA, Nat.reduceBEq, Nat.reduceAdd, Nat.reduceLeDiff, boxR, rboxR, allocR, fldR, binI, unR, pickR, mknilR, mkslR, buildSlR, buildR, extR, convI, eqB, evU, wrap64, encN_len, encN_five]) | (with_reducible intro _) | ((with_reducible apply And.intro); omega)))
        exact ⟨(i + 1, x ++ [againN (cutN (simpN l[i]))]), ⟨by simp only; omega, hnext⟩, by simp only; omega, (Ent.tab [(0, 0, 0), (1, 1, 0), (2, 2, 1)] [] rfl (by (try simp only [evWA, Nat.reduceBEq, Nat.reduceAdd, Nat.reduceSub, Nat.reduceLeDiff, Nat.reduceLT, implies_true, and_self, Int.natCast_zero, Int.natCast_one, Int.cast_ofNat_Int, evV, encInts, encNats, encBools, encP, zN, List.length_append, List.map_append, List.map_cons, List.map_nil, List.length_singleton]) <;> exact fin2) (by (try simp only [evWA, Nat.reduceBEq, Nat.reduceAdd, Nat.reduceSub, Nat.reduceLeDiff, Nat.reduceLT, implies_true, and_self, Int.natCast_zero, Int.natCast_one, Int.cast_ofNat_Int, evV, encInts, encNats, encBools, encP, zN, List.length_append, List.map_append, List.map_cons, List.map_nil, List.length_singleton]) <;> exact fin2))⟩
    · rw [decide_eq_false h45] at hb0
      subst hb0
      rw [simp1_false] at hnext
      (repeat (first | (simp (disch := first | exact dis1 | fail) only [evA, Nat.reduceBEq, Nat.reduceAdd, Nat.reduceLeDiff, boxR, rboxR, allocR, fldR, binI, unR, pickR, mknilR, mkslR, buildSlR, buildR, extR, convI, eqB, evU, wrap64, dF, encN_len, encN_five]) | (with_reducible intro _) | ((with_reducible apply And.intro); omega)))
      exact ⟨(i + 1, x ++ [simpN l[i]]), ⟨by simp only; omega, hnext⟩, by simp only; omega, (Ent.tab [(0, 0, 0), (1, 1, 0), (2, 2, 1)] [] rfl (by (try simp only [evWA, Nat.reduceBEq, Nat.reduceAdd, Nat.reduceSub, Nat.reduceLeDiff, Nat.reduceLT, implies_true, and_self, Int.natCast_zero, Int.natCast_one, Int.cast_ofNat_Int, evV, encInts, encNats, encBools, encP, zN, List.length_append, List.map_append, List.map_cons, List.map_nil, List.length_singleton]) <;> exact fin2) (by (try simp only [evWA, Nat.reduceBEq, Nat.reduceAdd, Nat.reduceSub, Nat.reduceLeDiff, Nat.reduceLT, implies_true, and_self, Int.natCast_zero, Int.natCast_one, Int.cast_ofNat_Int, evV, encInts, encNats, encBools, encP, zN, List.length_append, List.map_append, List.map_cons, List.map_nil, List.length_singleton]) <;> exact fin2))⟩
  · replace hx : x = simpNs b l := by rw [hx, simpNs_one, List.take_of_length_le (by omega)]
    have hsz := sizeNs_simpNs b l
    have hxl2 := sizeNs_len x
    subst hx
    (repeat (first | (simp (disch := first | exact dis1 | fail) only [evA, Nat.reduceBEq, Nat.reduceAdd, Nat.reduceLeDiff, boxR, rboxR, allocR, fldR, binI, unR, pickR, mknilR, mkslR, buildSlR, buildR, extR, convI, eqB, evU, wrap64, dF]) | (with_reducible intro _) | ((with_reducible apply And.intro); omega)))
    unfold ac_R36_Simplify_k1
    (repeat (first | (simp (disch := first | exact dis1 | fail) only [evA, Nat.reduceBEq, Nat.reduceAdd, Nat.reduceLeDiff, boxR, rboxR, allocR, fldR, binI, unR, pickR, mknilR, mkslR, buildSlR, buildR, extR, convI, eqB, evU, wrap64]) | (with_reducible intro _) | ((with_reducible apply And.intro); omega)))
    refine markX_intro [(1, .ptr 0 0 0 0 0), (2, .ptr 1 0 0 0 0)] [(0, .row 5 [[.int .i64 kd, .int .i64 bl, .int .i64 lb, encL 5 encX c, encL 5 encN (simpNs b l)]] 0), (1, .row 5 [zN] 0)] 2 fun _ => ⟨(Ent.tab [(0, 0, 0), (1, 1, 0)] [2] rfl (by (try simp only [evWA, Nat.reduceBEq, Nat.reduceAdd, Nat.reduceSub, Nat.reduceLeDiff, Nat.reduceLT, implies_true, and_self, Int.natCast_zero, Int.natCast_one, Int.cast_ofNat_Int, evV, encInts, encNats, encBools, encP, zN]) <;> ((repeat' with_reducible apply And.intro) <;> first | omega | rfl | exact vwl_flat rfl | (refine RowV.of_flat ?_; (repeat' (first | exact flat_map (fun _ => rfl) | exact flat_map (fun _ => encN_flat) | exact flat_map (fun _ => encX_flat) | exact flat_one encN_flat | exact flat_one encX_flat | exact flat_rep rfl | exact flat_nil | exact flat_one rfl | refine flat_plus ?_ ?_ | refine flat_cons rfl ?_ | refine flat_cons encN_flat ?_ | refine flat_cons encX_flat ?_)); done) | ((repeat' (first | exact flat_map (fun _ => rfl) | exact flat_map (fun _ => encN_flat) | exact flat_map (fun _ => encX_flat) | exact flat_one encN_flat | exact flat_one encX_flat | exact flat_rep rfl | exact flat_nil | exact flat_one rfl | refine flat_plus ?_ ?_ | refine flat_cons rfl ?_ | refine flat_cons encN_flat ?_ | refine flat_cons encX_flat ?_)); done) | exact vw_nodes rfl rfl (by omega) | exact vw_exprs rfl rfl (by omega) | exact vw_nats rfl rfl (by omega) | exact vw_ints rfl rfl (by omega) | exact vw_bools rfl rfl (by omega) | exact rowV_fe (fun _ => rfl) | exact rowsV_fam (fun _ => rfl) (by decide) ⟨rfl, rfl⟩ trivial | exact rowsV_fam (fun _ => rfl) (by decide) (fun _ _ => ⟨rfl, rfl⟩) trivial | (simp; done))) (by (try simp only [evWA, Nat.reduceBEq, Nat.reduceAdd, Nat.reduceSub, Nat.reduceLeDiff, Nat.reduceLT, implies_true, and_self, Int.natCast_zero, Int.natCast_one, Int.cast_ofNat_Int, evV, encInts, encNats, encBools, encP, zN]) <;> ((repeat' with_reducible apply And.intro) <;> first | omega | rfl | exact vwl_flat rfl | (refine RowV.of_flat ?_; (repeat' (first | exact flat_map (fun _ => rfl) | exact flat_map (fun _ => encN_flat) | exact flat_map (fun _ => encX_flat) | exact flat_one encN_flat | exact flat_one encX_flat | exact flat_rep rfl | exact flat_nil | exact flat_one rfl | refine flat_plus ?_ ?_ | refine flat_cons rfl ?_ | refine flat_cons encN_flat ?_ | refine flat_cons encX_flat ?_)); done) | ((repeat' (first | exact flat_map (fun _ => rfl) | exact flat_map (fun _ => encN_flat) | exact flat_map (fun _ => encX_flat) | exact flat_one encN_flat | exact flat_one encX_flat | exact flat_rep rfl | exact flat_nil | exact flat_one rfl | refine flat_plus ?_ ?_ | refine flat_cons rfl ?_ | refine flat_cons encN_flat ?_ | refine flat_cons encX_flat ?_)); done) | exact vw_nodes rfl rfl (by omega) | exact vw_exprs rfl rfl (by omega) | exact vw_nats rfl rfl (by omega) | exact vw_ints rfl rfl (by omega) | exact vw_bools rfl rfl (by omega) | exact rowV_fe (fun _ => rfl) | exact rowsV_fam (fun _ => rfl) (by decide) ⟨rfl, rfl⟩ trivial | exact rowsV_fam (fun _ => rfl) (by decide) (fun _ _ => ⟨rfl, rfl⟩) trivial | (simp; done)))), ?_⟩
    have hf := R36_flat_ok (.mk ⟨kd, bl, lb⟩ c (simpNs b l)) (by rw [sizeN]; omega)
    rw [encN_eq] at hf
    (repeat (first | (simp (disch := first | exact dis1 | fail) only [evA, Nat.reduceBEq, Nat.reduceAdd, Nat.reduceLeDiff, boxR, rboxR, allocR, fldR, binI, unR, pickR, mknilR, mkslR, buildSlR, buildR, extR, convI, eqB, evU, wrap64]) | (with_reducible intro _) | ((with_reducible apply And.intro); omega)))
    refine callX_fix (call_flat hf rfl) ?_
    (repeat (first | (simp (disch := first | exact dis1 | fail) only [evA, Nat.reduceBEq, Nat.reduceAdd, Nat.reduceLeDiff, boxR, rboxR, allocR, fldR, binI, unR, pickR, mknilR, mkslR, buildSlR, buildR, extR, convI, eqB, evU, wrap64, encN_len, rs_R36_Simplify]) | (with_reducible intro _) | ((with_reducible apply And.intro); omega)))
    exact ⟨_, frzA, rfl⟩

end Go.Ab

namespace Go.Ab
open Go.RowKit Go.Proofs

def noSeq (l : List Nd) : Prop := ∀ x ∈ l, x.f.kind ≠ 1
theorem flatL_cons {x : Nd} {l : List Nd} : flatL (x :: l) = elN x ++ flatL l := rfl
theorem flatL_append : ∀ l m : List Nd, flatL (l ++ m) = flatL l ++ flatL m
  | [], m => rfl
  | x :: l, m => by rw [List.cons_append, flatL_cons, flatL_cons, flatL_append l m, List.append_assoc]
theorem flatL_noSeq : ∀ {l : List Nd}, noSeq l → flatL l = l
  | [], _ => rfl
  | x :: l, h => by
    have hx := h x (by simp)
    obtain ⟨⟨kd, bl, lb⟩, c, m⟩ := x
    rw [flatL_cons, elN_neg (kd := kd) hx, flatL_noSeq (l := l) (fun y hy => h y (by simp [hy]))]
    rfl

/-- The sequence at i replaced by its nodes. -/
def openAt (l m : List Nd) (i : Nat) : List Nd := l.take i ++ m ++ l.drop (i + 1)
theorem take_drop_at {l : List Nd} {i : Nat} (h : i < l.length) : l = l.take i ++ l[i] :: l.drop (i + 1) := by
  rw [← List.drop_eq_getElem_cons h, List.take_append_drop]
theorem openAt_flat {l : List Nd} {i : Nat} {kd bl lb : Int} {c : List Ex} {m : List Nd} (h : i < l.length) (hx : l[i] = .mk ⟨kd, bl, lb⟩ c m) (hk : kd = 1) (ho : ∀ x ∈ l, flatOk x) : flatL (openAt l m i) = flatL l := by
  have hn : noSeq m := by
    have := ho _ (List.getElem_mem h)
    rw [hx] at this
    exact this hk
  conv => rhs; rw [take_drop_at h]
  unfold openAt
  rw [flatL_append, flatL_append, flatL_append, flatL_cons, hx, elN_pos hk, flatL_noSeq hn, List.append_assoc]
theorem openAt_size {l : List Nd} {i : Nat} {f : NdF} {c : List Ex} {m : List Nd} (h : i < l.length) (hx : l[i] = .mk f c m) : sizeNs (openAt l m i) < sizeNs l := by
  conv => rhs; rw [take_drop_at h]
  unfold openAt
  rw [sizeNs_append, sizeNs_append, sizeNs_append, sizeNs, hx, sizeN]
  omega
theorem openAt_ok {l : List Nd} {i : Nat} {kd bl lb : Int} {c : List Ex} {m : List Nd} (h : i < l.length) (hx : l[i] = .mk ⟨kd, bl, lb⟩ c m) (hk : kd = 1) (ho : ∀ x ∈ l, flatOk x) : ∀ x ∈ openAt l m i, flatOk x := by
  intro x hxm
  have hn : noSeq m := by
    have := ho _ (List.getElem_mem h)
    rw [hx] at this
    exact this hk
  unfold openAt at hxm
  rcases List.mem_append.1 hxm with hxm | hxm
  · rcases List.mem_append.1 hxm with hxm | hxm
    · exact ho x (List.mem_of_mem_take hxm)
    · have := hn x hxm
      obtain ⟨f, c, l⟩ := x
      exact fun hk => absurd hk this
  · exact ho x (List.mem_of_mem_drop hxm)

section
variable {H HH : AH} {σ : Nat → Nat → Option (Nat × Nat × Nat)} {D : Nat → Nat → Prop} {t : Bool}
theorem vw_to {cur : List Nd} {i : Nat} (hi : i ≤ cur.length) : Vw H HH σ D t (.sl 5 ((i : Int) - 0).toNat fun a j => ((cur.map encN).getD ((0 : Int).toNat + a) []).getD j .undef) (encL 5 encN (cur.take i)) := by
  have hn : ((i : Int) - 0).toNat = (cur.take i).length := by rw [List.length_take]; omega
  rw [hn]
  refine .slf _ _ _ _ _ (fun a j ha hj => ?_)
  have ha2 : a < cur.length := by rw [List.length_take] at ha; omega
  rw [show (0 : Int).toNat + a = a by simp, getD_map ha2, getD_map ha, List.getElem_take]
  exact vwN_cell _ j hj
theorem vw_after {cur : List Nd} {i : Nat} (hi : i < cur.length) : Vw H HH σ D t (.sl 5 ((cur.length : Int) - ((i : Int) + 1)).toNat fun a j => ((cur.map encN).getD (((i : Int) + 1).toNat + a) []).getD j .undef) (encL 5 encN (cur.drop (i + 1))) := by
  have hn : ((cur.length : Int) - ((i : Int) + 1)).toNat = (cur.drop (i + 1)).length := by rw [List.length_drop]; omega
  rw [hn]
  refine .slf _ _ _ _ _ (fun a j ha hj => ?_)
  have ha2 : i + 1 + a < cur.length := by rw [List.length_drop] at ha; omega
  rw [show ((i : Int) + 1).toNat + a = i + 1 + a by omega, getD_map ha2, getD_map ha, List.getElem_drop]
  exact vwN_cell _ j hj
theorem rowV_three {a1 a2 a3 b1 b2 b3 : AV} (h1 : Vw H HH σ D true a1 b1) (h2 : Vw H HH σ D true a2 b2) (h3 : Vw H HH σ D true a3 b3) : RowV H HH σ D [[a1], [a2], [a3]] [[b1], [b2], [b3]] := by
  refine ⟨rfl, fun i c2 h => ?_⟩
  match i with
  | 0 => cases h; exact ⟨_, rfl, rfl, fun j a b ha hb => by match j with | 0 => cases ha; cases hb; exact h1 | j + 1 => cases ha⟩
  | 1 => cases h; exact ⟨_, rfl, rfl, fun j a b ha hb => by match j with | 0 => cases ha; cases hb; exact h2 | j + 1 => cases ha⟩
  | 2 => cases h; exact ⟨_, rfl, rfl, fun j a b ha hb => by match j with | 0 => cases ha; cases hb; exact h3 | j + 1 => cases ha⟩
  | i + 3 => cases h
theorem rowV_parts {cur m : List Nd} {i : Nat} (hi : i < cur.length) : RowV H HH σ D [[.sl 5 ((i : Int) - 0).toNat fun a j => ((cur.map encN).getD ((0 : Int).toNat + a) []).getD j .undef], [encL 5 encN m], [.sl 5 ((cur.length : Int) - ((i : Int) + 1)).toNat fun a j => ((cur.map encN).getD (((i : Int) + 1).toNat + a) []).getD j .undef]] [[encL 5 encN (cur.take i)], [encL 5 encN m], [encL 5 encN (cur.drop (i + 1))]] :=
  rowV_three (vw_to (by omega)) (vw_flat rfl) (vw_after hi)
end

section
variable (bl lb : Int) (c : List Ex) (l : List Nd)
def fS (cur : List Nd) : Kn × AH := ([(1, .ptr 0 0 0 0 0), (2, .ptr 1 0 0 0 0), (3, encL 5 encN cur)], [(0, .row 5 [[.int .i64 1, .int .i64 bl, .int .i64 lb, encL 5 encX c, encL 5 encN l]] 0), (1, .row 5 [zN] 0)])
def fInv (cur : List Nd) : Prop := (∀ x ∈ cur, flatOk x) ∧ flatL cur = flatL l ∧ sizeNs cur ≤ 100000

theorem flat_body (Q : QT) (cur : List Nd) (hi : fInv l cur) (K : Kn) (H : AH) (nx : Nat)
    (hQr : ∀ K H nx, Q .ret K H nx = retK rs_structure_flat (fun v H' _ => ∃ a, Frz H' v a ∧ a = .agg (encN (oneOr ⟨1, bl, lb⟩ c (flatL l)))) .ret K H nx)
    (hQg : ∀ K H nx cur', fInv l cur' → sizeNs cur' < sizeNs cur → Ent 0 K H nx (fS bl lb c l cur').1 (fS bl lb c l cur').2 2 → Q (.goto 0) K H nx)
    (hent : Ent 0 K H nx [(1, .ptr 0 0 0 0 0), (2, .ptr 1 0 0 0 0), (3, encL 5 encN cur), (13, encL 5 encN cur), (14, .int .i64 cur.length), (15, .int .i64 0)] [(0, .row 5 [[.int .i64 1, .int .i64 bl, .int .i64 lb, encL 5 encX c, encL 5 encN l]] 0), (1, .row 5 [zN] 0)] 2) :
    loopX Tryz.prog 0 ac_structure_flat_l0 (blockQ 0 (seqQ Tryz.prog 0 ac_structure_flat_k1 Q)) K H nx := by
  have hB : big = 9223372036854775807 := rfl
  obtain ⟨hok, hfl, hsz⟩ := hi
  have hcl := sizeNs_len cur
  refine loopX_intro (fun i : Nat => ([(1, .ptr 0 0 0 0 0), (2, .ptr 1 0 0 0 0), (3, encL 5 encN cur), (13, encL 5 encN cur), (14, .int .i64 cur.length), (15, .int .i64 i)], [(0, .row 5 [[.int .i64 1, .int .i64 bl, .int .i64 lb, encL 5 encX c, encL 5 encN l]] 0), (1, .row 5 [zN] 0)])) 2 (fun i => i ≤ cur.length ∧ noSeq (cur.take i)) (fun i => cur.length - i) 0 ⟨Nat.zero_le _, by intro x hx; simp at hx⟩ hent ?_
  rintro i ⟨hi, hns⟩ wf
  unfold ac_structure_flat_l0
  by_cases hl : i < cur.length
  · have hg := getD_map (f := encN) (d := []) hl
    generalize hx : cur[i] = y at hg
    obtain ⟨⟨kd', bl', lb'⟩, c', m⟩ := y
    rw [encN_eq] at hg
    simp only at hg
    by_cases h1 : kd' = 1
    · subst h1
      have hfla : [cur.take i, m, cur.drop (i + 1)].flatten = openAt cur m i := by simp [openAt]
      have hsz2 := openAt_size hl hx
      have hln2 := sizeNs_len (openAt cur m i)
      have hcc := concatN_ok [cur.take i, m, cur.drop (i + 1)] (by simp) (by rw [← flatten_len, hfla]; omega)
      rw [hfla] at hcc
      (repeat (first | (simp (disch := first | exact dis1 | fail) only [evA, Nat.reduceBEq, Nat.reduceAdd, Nat.reduceLeDiff, boxR, rboxR, allocR, fldR, binI, unR, pickR, mknilR, mkslR, buildSlR, buildR, extR, convI, eqB, evU, wrap64, dT, hg, fldP, sliceR_to, sliceR_from]) | (with_reducible intro _) | ((with_reducible apply And.intro); omega)))
      (repeat' with_reducible apply And.intro) <;> (first | omega | skip) <;> (repeat (first | (simp (disch := first | exact dis1 | fail) only [evA, Nat.reduceBEq, Nat.reduceAdd, Nat.reduceLeDiff, boxR, rboxR, allocR, fldR, binI, unR, pickR, mknilR, mkslR, buildSlR, buildR, extR, convI, eqB, evU, wrap64, dT, hg, fldP, sliceR_to, sliceR_from]) | (with_reducible intro _) | ((with_reducible apply And.intro); omega)))
      all_goals (repeat' with_reducible apply And.intro) <;> (first | omega | skip) <;> (repeat (first | (simp (disch := first | exact dis1 | fail) only [evA, Nat.reduceBEq, Nat.reduceAdd, Nat.reduceLeDiff, boxR, rboxR, allocR, fldR, binI, unR, pickR, mknilR, mkslR, buildSlR, buildR, extR, convI, eqB, evU, wrap64, dT, hg, fldP, sliceR_to, sliceR_from]) | (with_reducible intro _) | ((with_reducible apply And.intro); omega)))
      all_goals (repeat' with_reducible apply And.intro) <;> (first | omega | skip) <;> (repeat (first | (simp (disch := first | exact dis1 | fail) only [evA, Nat.reduceBEq, Nat.reduceAdd, Nat.reduceLeDiff, boxR, rboxR, allocR, fldR, binI, unR, pickR, mknilR, mkslR, buildSlR, buildR, extR, convI, eqB, evU, wrap64, dT, hg, fldP, sliceR_to, sliceR_from]) | (with_reducible intro _) | ((with_reducible apply And.intro); omega)))
      all_goals
        refine call_own [(0, 3, 0)] 1 _ (hcc) rfl rfl (by (try simp only [evWA, Nat.reduceBEq, Nat.reduceAdd, Nat.reduceSub, Nat.reduceLeDiff, Nat.reduceLT, implies_true, and_self, Int.natCast_zero, Int.natCast_one, Int.cast_ofNat_Int, evV, encInts, encNats, encBools, encP, LLN, List.map_cons, List.map_nil, rowV_parts hl]) <;> exact fin1) (by (try simp only [evWA, Nat.reduceBEq, Nat.reduceAdd, Nat.reduceSub, Nat.reduceLeDiff, Nat.reduceLT, implies_true, and_self, Int.natCast_zero, Int.natCast_one, Int.cast_ofNat_Int, evV, encInts, encNats, encBools, encP, LLN, List.map_cons, List.map_nil, rowV_parts hl]) <;> exact fin1) ?_
        rintro _ _ _ ⟨rfl, rfl, rfl⟩
        (repeat (first | (simp (disch := first | exact dis1 | fail) only [evA, Nat.reduceBEq, Nat.reduceAdd, Nat.reduceLeDiff, boxR, rboxR, allocR, fldR, binI, unR, pickR, mknilR, mkslR, buildSlR, buildR, extR, convI, eqB, evU, wrap64, renN]) | (with_reducible intro _) | ((with_reducible apply And.intro); omega)))
        exact hQg _ _ _ (openAt cur m i) ⟨openAt_ok hl hx rfl hok, (openAt_flat hl hx rfl hok).trans hfl, by omega⟩ hsz2 (Ent.tab [(0, 0, 0), (1, 1, 0)] [5] rfl (by (try simp only [evWA, Nat.reduceBEq, Nat.reduceAdd, Nat.reduceSub, Nat.reduceLeDiff, Nat.reduceLT, implies_true, and_self, Int.natCast_zero, Int.natCast_one, Int.cast_ofNat_Int, evV, encInts, encNats, encBools, encP, zN, fS]) <;> ((repeat' with_reducible apply And.intro) <;> first | omega | rfl | exact vwl_flat rfl | (refine RowV.of_flat ?_; (repeat' (first | exact flat_map (fun _ => rfl) | exact flat_map (fun _ => encN_flat) | exact flat_map (fun _ => encX_flat) | exact flat_one encN_flat | exact flat_one encX_flat | exact flat_rep rfl | exact flat_nil | exact flat_one rfl | refine flat_plus ?_ ?_ | refine flat_cons rfl ?_ | refine flat_cons encN_flat ?_ | refine flat_cons encX_flat ?_)); done) | ((repeat' (first | exact flat_map (fun _ => rfl) | exact flat_map (fun _ => encN_flat) | exact flat_map (fun _ => encX_flat) | exact flat_one encN_flat | exact flat_one encX_flat | exact flat_rep rfl | exact flat_nil | exact flat_one rfl | refine flat_plus ?_ ?_ | refine flat_cons rfl ?_ | refine flat_cons encN_flat ?_ | refine flat_cons encX_flat ?_)); done) | exact vw_nodes rfl rfl (by omega) | exact vw_exprs rfl rfl (by omega) | exact vw_nats rfl rfl (by omega) | exact vw_ints rfl rfl (by omega) | exact vw_bools rfl rfl (by omega) | exact rowV_fe (fun _ => rfl) | exact rowsV_fam (fun _ => rfl) (by decide) ⟨rfl, rfl⟩ trivial | exact rowsV_fam (fun _ => rfl) (by decide) (fun _ _ => ⟨rfl, rfl⟩) trivial | (simp; done))) (by (try simp only [evWA, Nat.reduceBEq, Nat.reduceAdd, Nat.reduceSub, Nat.reduceLeDiff, Nat.reduceLT, implies_true, and_self, Int.natCast_zero, Int.natCast_one, Int.cast_ofNat_Int, evV, encInts, encNats, encBools, encP, zN, fS]) <;> ((repeat' with_reducible apply And.intro) <;> first | omega | rfl | exact vwl_flat rfl | (refine RowV.of_flat ?_; (repeat' (first | exact flat_map (fun _ => rfl) | exact flat_map (fun _ => encN_flat) | exact flat_map (fun _ => encX_flat) | exact flat_one encN_flat | exact flat_one encX_flat | exact flat_rep rfl | exact flat_nil | exact flat_one rfl | refine flat_plus ?_ ?_ | refine flat_cons rfl ?_ | refine flat_cons encN_flat ?_ | refine flat_cons encX_flat ?_)); done) | ((repeat' (first | exact flat_map (fun _ => rfl) | exact flat_map (fun _ => encN_flat) | exact flat_map (fun _ => encX_flat) | exact flat_one encN_flat | exact flat_one encX_flat | exact flat_rep rfl | exact flat_nil | exact flat_one rfl | refine flat_plus ?_ ?_ | refine flat_cons rfl ?_ | refine flat_cons encN_flat ?_ | refine flat_cons encX_flat ?_)); done) | exact vw_nodes rfl rfl (by omega) | exact vw_exprs rfl rfl (by omega) | exact vw_nats rfl rfl (by omega) | exact vw_ints rfl rfl (by omega) | exact vw_bools rfl rfl (by omega) | exact rowV_fe (fun _ => rfl) | exact rowsV_fam (fun _ => rfl) (by decide) ⟨rfl, rfl⟩ trivial | exact rowsV_fam (fun _ => rfl) (by decide) (fun _ _ => ⟨rfl, rfl⟩) trivial | (simp; done))))
    · (repeat (first | (simp (disch := first | exact dis1 | fail) only [evA, Nat.reduceBEq, Nat.reduceAdd, Nat.reduceLeDiff, boxR, rboxR, allocR, fldR, binI, unR, pickR, mknilR, mkslR, buildSlR, buildR, extR, convI, eqB, evU, wrap64, dT, dF, hg, fldP]) | (with_reducible intro _) | ((with_reducible apply And.intro); omega)))
      exact ⟨i + 1, ⟨by omega, by
        rw [take_snoc hl]
        intro x hxm
        rcases List.mem_append.1 hxm with hxm | hxm
        · exact hns x hxm
        · rw [List.mem_singleton.1 hxm, hx]; exact h1⟩, by omega, (Ent.tab [(0, 0, 0), (1, 1, 0)] [] rfl (by (try simp only [evWA, Nat.reduceBEq, Nat.reduceAdd, Nat.reduceSub, Nat.reduceLeDiff, Nat.reduceLT, implies_true, and_self, Int.natCast_zero, Int.natCast_one, Int.cast_ofNat_Int, evV, encInts, encNats, encBools, encP, zN]) <;> exact fin2) (by (try simp only [evWA, Nat.reduceBEq, Nat.reduceAdd, Nat.reduceSub, Nat.reduceLeDiff, Nat.reduceLT, implies_true, and_self, Int.natCast_zero, Int.natCast_one, Int.cast_ofNat_Int, evV, encInts, encNats, encBools, encP, zN]) <;> exact fin2))⟩
  · rw [List.take_of_length_le (by omega)] at hns
    have hR : flatL l = cur := by rw [← hfl, flatL_noSeq hns]
    rw [hR] at hQr
    (repeat (first | (simp (disch := first | exact dis1 | fail) only [evA, Nat.reduceBEq, Nat.reduceAdd, Nat.reduceLeDiff, boxR, rboxR, allocR, fldR, binI, unR, pickR, mknilR, mkslR, buildSlR, buildR, extR, convI, eqB, evU, wrap64, dF]) | (with_reducible intro _) | ((with_reducible apply And.intro); omega)))
    unfold ac_structure_flat_k1
    by_cases hone : cur.length = 1
    · obtain ⟨a, rfl⟩ : ∃ a, cur = [a] := List.length_eq_one_iff.1 hone
      have hg : ([a].map encN).getD (Int.toNat 0) [] = encN a := rfl
      simp only [List.map_cons, List.map_nil] at hg
      (repeat (first | (simp (disch := first | exact dis1 | fail) only [evA, Nat.reduceBEq, Nat.reduceAdd, Nat.reduceLeDiff, boxR, rboxR, allocR, fldR, binI, unR, pickR, mknilR, mkslR, buildSlR, buildR, extR, convI, eqB, evU, wrap64, dT, hg, rs_structure_flat, encN_len, encN_five, hQr]) | (with_reducible intro _) | ((with_reducible apply And.intro); omega)))
      exact ⟨_, frzA, rfl⟩
    · have ho : oneOr ⟨1, bl, lb⟩ c cur = .mk ⟨1, bl, lb⟩ c cur := by
        unfold oneOr
        split
        · rename_i a; simp at hone
        · rfl
      rw [ho, encN_eq] at hQr
      simp only at hQr
      (repeat (first | (simp (disch := first | exact dis1 | fail) only [evA, Nat.reduceBEq, Nat.reduceAdd, Nat.reduceLeDiff, boxR, rboxR, allocR, fldR, binI, unR, pickR, mknilR, mkslR, buildSlR, buildR, extR, convI, eqB, evU, wrap64, dF, hQr, rs_structure_flat]) | (with_reducible intro _) | ((with_reducible apply And.intro); omega)))
      exact ⟨_, vw_flat rfl, rfl⟩

end

theorem structure_flat_ok (e : Nd) (hs : sizeN e ≤ 100000) (hok : ∀ x ∈ e.l, flatOk x) : PureFn Tryz.prog f_structure_flat [.agg (encN e)] (· = .agg (encN (flatN e))) := by
  obtain ⟨⟨kd, bl, lb⟩, c, l⟩ := e
  refine fn_x cf_structure_flat rfl ?_
  unfold ac_structure_flat
  have hB : big = 9223372036854775807 := rfl
  rw [sizeN] at hs
  have hll := sizeNs_len l
  have hE := encN_eq ⟨kd, bl, lb⟩ c l
  simp only at hE
  simp only [Nd.l] at hok
  rw [hE]
  by_cases h1 : kd = 1
  · rw [flatN_mk, if_pos h1]
    subst h1
    (repeat (first | (simp (disch := first | exact dis1 | fail) only [evA, Nat.reduceBEq, Nat.reduceAdd, Nat.reduceLeDiff, boxR, rboxR, allocR, fldR, binI, unR, pickR, mknilR, mkslR, buildSlR, buildR, extR, convI, eqB, evU, wrap64]) | (with_reducible intro _) | ((with_reducible apply And.intro); omega)))
    refine jumpX_intro (fS bl lb c l) 2 (fInv l) sizeNs ?_ ?_
    · (repeat (first | (simp (disch := first | exact dis1 | fail) only [evA, Nat.reduceBEq, Nat.reduceAdd, Nat.reduceLeDiff, boxR, rboxR, allocR, fldR, binI, unR, pickR, mknilR, mkslR, buildSlR, buildR, extR, convI, eqB, evU, wrap64, dF]) | (with_reducible intro _) | ((with_reducible apply And.intro); omega)))
      refine call_own [] 0 _ (cloneN_ok l (by omega)) rfl rfl (by (try simp only [evWA, Nat.reduceBEq, Nat.reduceAdd, Nat.reduceSub, Nat.reduceLeDiff, Nat.reduceLT, implies_true, and_self, Int.natCast_zero, Int.natCast_one, Int.cast_ofNat_Int, evV, encInts, encNats, encBools, encP]) <;> exact fin1) (by (try simp only [evWA, Nat.reduceBEq, Nat.reduceAdd, Nat.reduceSub, Nat.reduceLeDiff, Nat.reduceLT, implies_true, and_self, Int.natCast_zero, Int.natCast_one, Int.cast_ofNat_Int, evV, encInts, encNats, encBools, encP]) <;> exact fin1) ?_
      rintro _ _ _ ⟨rfl, rfl, rfl⟩
      (repeat (first | (simp (disch := first | exact dis1 | fail) only [evA, Nat.reduceBEq, Nat.reduceAdd, Nat.reduceLeDiff, boxR, rboxR, allocR, fldR, binI, unR, pickR, mknilR, mkslR, buildSlR, buildR, extR, convI, eqB, evU, wrap64, renN]) | (with_reducible intro _) | ((with_reducible apply And.intro); omega)))
      exact flat_body bl lb c l _ l ⟨hok, rfl, by omega⟩ _ _ _ (fun _ _ _ => rfl) (fun K H nx cur' h1 h2 h3 => ⟨rfl, cur', h1, h3⟩) (Ent.tab [(0, 0, 0), (1, 1, 0)] [2] rfl (by (try simp only [evWA, Nat.reduceBEq, Nat.reduceAdd, Nat.reduceSub, Nat.reduceLeDiff, Nat.reduceLT, implies_true, and_self, Int.natCast_zero, Int.natCast_one, Int.cast_ofNat_Int, evV, encInts, encNats, encBools, encP, zN]) <;> ((repeat' with_reducible apply And.intro) <;> first | omega | rfl | exact vwl_flat rfl | (refine RowV.of_flat ?_; (repeat' (first | exact flat_map (fun _ => rfl) | exact flat_map (fun _ => encN_flat) | exact flat_map (fun _ => encX_flat) | exact flat_one encN_flat | exact flat_one encX_flat | exact flat_rep rfl | exact flat_nil | exact flat_one rfl | refine flat_plus ?_ ?_ | refine flat_cons rfl ?_ | refine flat_cons encN_flat ?_ | refine flat_cons encX_flat ?_)); done) | ((repeat' (first | exact flat_map (fun _ => rfl) | exact flat_map (fun _ => encN_flat) | exact flat_map (fun _ => encX_flat) | exact flat_one encN_flat | exact flat_one encX_flat | exact flat_rep rfl | exact flat_nil | exact flat_one rfl | refine flat_plus ?_ ?_ | refine flat_cons rfl ?_ | refine flat_cons encN_flat ?_ | refine flat_cons encX_flat ?_)); done) | exact vw_nodes rfl rfl (by omega) | exact vw_exprs rfl rfl (by omega) | exact vw_nats rfl rfl (by omega) | exact vw_ints rfl rfl (by omega) | exact vw_bools rfl rfl (by omega) | exact rowV_fe (fun _ => rfl) | exact rowsV_fam (fun _ => rfl) (by decide) ⟨rfl, rfl⟩ trivial | exact rowsV_fam (fun _ => rfl) (by decide) (fun _ _ => ⟨rfl, rfl⟩) trivial | (simp; done))) (by (try simp only [evWA, Nat.reduceBEq, Nat.reduceAdd, Nat.reduceSub, Nat.reduceLeDiff, Nat.reduceLT, implies_true, and_self, Int.natCast_zero, Int.natCast_one, Int.cast_ofNat_Int, evV, encInts, encNats, encBools, encP, zN]) <;> ((repeat' with_reducible apply And.intro) <;> first | omega | rfl | exact vwl_flat rfl | (refine RowV.of_flat ?_; (repeat' (first | exact flat_map (fun _ => rfl) | exact flat_map (fun _ => encN_flat) | exact flat_map (fun _ => encX_flat) | exact flat_one encN_flat | exact flat_one encX_flat | exact flat_rep rfl | exact flat_nil | exact flat_one rfl | refine flat_plus ?_ ?_ | refine flat_cons rfl ?_ | refine flat_cons encN_flat ?_ | refine flat_cons encX_flat ?_)); done) | ((repeat' (first | exact flat_map (fun _ => rfl) | exact flat_map (fun _ => encN_flat) | exact flat_map (fun _ => encX_flat) | exact flat_one encN_flat | exact flat_one encX_flat | exact flat_rep rfl | exact flat_nil | exact flat_one rfl | refine flat_plus ?_ ?_ | refine flat_cons rfl ?_ | refine flat_cons encN_flat ?_ | refine flat_cons encX_flat ?_)); done) | exact vw_nodes rfl rfl (by omega) | exact vw_exprs rfl rfl (by omega) | exact vw_nats rfl rfl (by omega) | exact vw_ints rfl rfl (by omega) | exact vw_bools rfl rfl (by omega) | exact rowV_fe (fun _ => rfl) | exact rowsV_fam (fun _ => rfl) (by decide) ⟨rfl, rfl⟩ trivial | exact rowsV_fam (fun _ => rfl) (by decide) (fun _ _ => ⟨rfl, rfl⟩) trivial | (simp; done))))
    · rintro cur hinv wf
      have hcl := sizeNs_len cur
      have hcs := hinv.2.2
      unfold ac_structure_flat_j4 fS
      (repeat (first | (simp (disch := first | exact dis1 | fail) only [evA, Nat.reduceBEq, Nat.reduceAdd, Nat.reduceLeDiff, boxR, rboxR, allocR, fldR, binI, unR, pickR, mknilR, mkslR, buildSlR, buildR, extR, convI, eqB, evU, wrap64]) | (with_reducible intro _) | ((with_reducible apply And.intro); omega)))
      exact flat_body bl lb c l _ cur hinv _ _ _ (fun _ _ _ => rfl) (fun K H nx cur' h1 h2 h3 => ⟨rfl, cur', h1, h2, h3⟩) (Ent.tab [(0, 0, 0), (1, 1, 0)] [] rfl (by (try simp only [evWA, Nat.reduceBEq, Nat.reduceAdd, Nat.reduceSub, Nat.reduceLeDiff, Nat.reduceLT, implies_true, and_self, Int.natCast_zero, Int.natCast_one, Int.cast_ofNat_Int, evV, encInts, encNats, encBools, encP, zN]) <;> ((repeat' with_reducible apply And.intro) <;> first | omega | rfl | exact vwl_flat rfl | (refine RowV.of_flat ?_; (repeat' (first | exact flat_map (fun _ => rfl) | exact flat_map (fun _ => encN_flat) | exact flat_map (fun _ => encX_flat) | exact flat_one encN_flat | exact flat_one encX_flat | exact flat_rep rfl | exact flat_nil | exact flat_one rfl | refine flat_plus ?_ ?_ | refine flat_cons rfl ?_ | refine flat_cons encN_flat ?_ | refine flat_cons encX_flat ?_)); done) | ((repeat' (first | exact flat_map (fun _ => rfl) | exact flat_map (fun _ => encN_flat) | exact flat_map (fun _ => encX_flat) | exact flat_one encN_flat | exact flat_one encX_flat | exact flat_rep rfl | exact flat_nil | exact flat_one rfl | refine flat_plus ?_ ?_ | refine flat_cons rfl ?_ | refine flat_cons encN_flat ?_ | refine flat_cons encX_flat ?_)); done) | exact vw_nodes rfl rfl (by omega) | exact vw_exprs rfl rfl (by omega) | exact vw_nats rfl rfl (by omega) | exact vw_ints rfl rfl (by omega) | exact vw_bools rfl rfl (by omega) | exact rowV_fe (fun _ => rfl) | exact rowsV_fam (fun _ => rfl) (by decide) ⟨rfl, rfl⟩ trivial | exact rowsV_fam (fun _ => rfl) (by decide) (fun _ _ => ⟨rfl, rfl⟩) trivial | (simp; done))) (by (try simp only [evWA, Nat.reduceBEq, Nat.reduceAdd, Nat.reduceSub, Nat.reduceLeDiff, Nat.reduceLT, implies_true, and_self, Int.natCast_zero, Int.natCast_one, Int.cast_ofNat_Int, evV, encInts, encNats, encBools, encP, zN]) <;> ((repeat' with_reducible apply And.intro) <;> first | omega | rfl | exact vwl_flat rfl | (refine RowV.of_flat ?_; (repeat' (first | exact flat_map (fun _ => rfl) | exact flat_map (fun _ => encN_flat) | exact flat_map (fun _ => encX_flat) | exact flat_one encN_flat | exact flat_one encX_flat | exact flat_rep rfl | exact flat_nil | exact flat_one rfl | refine flat_plus ?_ ?_ | refine flat_cons rfl ?_ | refine flat_cons encN_flat ?_ | refine flat_cons encX_flat ?_)); done) | ((repeat' (first | exact flat_map (fun _ => rfl) | exact flat_map (fun _ => encN_flat) | exact flat_map (fun _ => encX_flat) | exact flat_one encN_flat | exact flat_one encX_flat | exact flat_rep rfl | exact flat_nil | exact flat_one rfl | refine flat_plus ?_ ?_ | refine flat_cons rfl ?_ | refine flat_cons encN_flat ?_ | refine flat_cons encX_flat ?_)); done) | exact vw_nodes rfl rfl (by omega) | exact vw_exprs rfl rfl (by omega) | exact vw_nats rfl rfl (by omega) | exact vw_ints rfl rfl (by omega) | exact vw_bools rfl rfl (by omega) | exact rowV_fe (fun _ => rfl) | exact rowsV_fam (fun _ => rfl) (by decide) ⟨rfl, rfl⟩ trivial | exact rowsV_fam (fun _ => rfl) (by decide) (fun _ _ => ⟨rfl, rfl⟩) trivial | (simp; done))))
  · rw [flatN_mk, if_neg h1]
    (repeat (first | (simp (disch := first | exact dis1 | fail) only [evA, Nat.reduceBEq, Nat.reduceAdd, Nat.reduceLeDiff, boxR, rboxR, allocR, fldR, binI, unR, pickR, mknilR, mkslR, buildSlR, buildR, extR, convI, eqB, evU, wrap64]) | (with_reducible intro _) | ((with_reducible apply And.intro); omega)))
    refine jumpX_intro (fS bl lb c l) 2 (fun _ => False) (fun _ => 0) ?_ (fun _ h => h.elim)
    (repeat (first | (simp (disch := first | exact dis1 | fail) only [evA, Nat.reduceBEq, Nat.reduceAdd, Nat.reduceLeDiff, boxR, rboxR, allocR, fldR, binI, unR, pickR, mknilR, mkslR, buildSlR, buildR, extR, convI, eqB, evU, wrap64, dT, rs_structure_flat]) | (with_reducible intro _) | ((with_reducible apply And.intro); omega)))
    rw [← hE]
    exact ⟨_, frzA, rfl⟩

end Go.Ab

namespace Go.Ab
open Go.RowKit Go.Proofs

theorem structure_seq_ok : PureFn Tryz.prog f_structure_seq [.nilsl] (· = .agg (encN (.mk seqF [] []))) := by
  refine fn_x cf_structure_seq rfl ?_
  unfold ac_structure_seq
  have hB : big = 9223372036854775807 := rfl
  (repeat (first | (simp (disch := first | exact dis1 | fail) only [evA, Nat.reduceBEq, Nat.reduceAdd, Nat.reduceLeDiff, boxR, rboxR, allocR, fldR, binI, unR, pickR, mknilR, mkslR, buildSlR, buildR, extR, convI, eqB, evU, wrap64, rs_structure_seq]) | (with_reducible intro _) | ((with_reducible apply And.intro); omega)))
  refine ⟨.agg (encN (.mk seqF [] [])), ?_, rfl⟩
  rw [encN_eq]
  refine .agg _ _ _ rfl (fun j a c h1 h2 => ?_)
  match j with
  | 0 => cases h1; cases h2; exact .int _ _ _
  | 1 => cases h1; cases h2; exact .int _ _ _
  | 2 => cases h1; cases h2; exact .int _ _ _
  | 3 => cases h1; cases h2; exact vw_nil
  | 4 => cases h1; cases h2; exact vw_nil
  | j + 5 => cases h1

theorem structure_flatten_ok : ∀ (k : Nat) (e : Nd), sizeN e ≤ k → k ≤ 100000 → PureFn Tryz.prog f_structure_flatten [.agg (encN e)] (· = .agg (encN (againN e))) := by
  intro k
  induction k with
  | zero => intro e h; obtain ⟨_, _, l⟩ := e; rw [sizeN] at h; omega
  | succ k ih =>
  intro e hk hk2
  obtain ⟨⟨kd, bl, lb⟩, c, l⟩ := e
  refine fn_x cf_structure_flatten rfl ?_
  unfold ac_structure_flatten
  have hB : big = 9223372036854775807 := rfl
  rw [sizeN] at hk
  have hll := sizeNs_len l
  have hE := encN_eq ⟨kd, bl, lb⟩ c l
  simp only at hE
  rw [hE, againN]
  (repeat (first | (simp (disch := first | exact dis1 | fail) only [evA, Nat.reduceBEq, Nat.reduceAdd, Nat.reduceLeDiff, boxR, rboxR, allocR, fldR, binI, unR, pickR, mknilR, mkslR, buildSlR, buildR, extR, convI, eqB, evU, wrap64]) | (with_reducible intro _) | ((with_reducible apply And.intro); omega)))
  refine call_own [] 0 _ (cloneN_ok l (by omega)) rfl rfl (by (try simp only [evWA, Nat.reduceBEq, Nat.reduceAdd, Nat.reduceSub, Nat.reduceLeDiff, Nat.reduceLT, implies_true, and_self, Int.natCast_zero, Int.natCast_one, Int.cast_ofNat_Int, evV, encInts, encNats, encBools, encP]) <;> exact fin1) (by (try simp only [evWA, Nat.reduceBEq, Nat.reduceAdd, Nat.reduceSub, Nat.reduceLeDiff, Nat.reduceLT, implies_true, and_self, Int.natCast_zero, Int.natCast_one, Int.cast_ofNat_Int, evV, encInts, encNats, encBools, encP]) <;> exact fin1) ?_
  rintro _ _ _ ⟨rfl, rfl, rfl⟩
  (repeat (first | (simp (disch := first | exact dis1 | fail) only [evA, Nat.reduceBEq, Nat.reduceAdd, Nat.reduceLeDiff, boxR, rboxR, allocR, fldR, binI, unR, pickR, mknilR, mkslR, buildSlR, buildR, extR, convI, eqB, evU, wrap64, renN]) | (with_reducible intro _) | ((with_reducible apply And.intro); omega)))
  refine loopX_intro (fun i : Nat => ([(1, .ptr 0 0 0 0 0), (2, .ptr 1 0 0 0 0), (3, .own 2 0 0 0 l.length), (9, .int .i64 l.length), (10, .int .i64 i)], [(0, .row 5 [[.int .i64 kd, .int .i64 bl, .int .i64 lb, encL 5 encX c, encL 5 encN l]] 0), (1, .row 5 [zN] 0), (2, .row 5 ((pm againN l i).map encN) 0)])) 3 (fun i => i ≤ l.length) (fun i => l.length - i) 0 (Nat.zero_le _) (Ent.tab [(0, 0, 0), (1, 1, 0), (2, 2, 0)] [] rfl (by (try simp only [evWA, Nat.reduceBEq, Nat.reduceAdd, Nat.reduceSub, Nat.reduceLeDiff, Nat.reduceLT, implies_true, and_self, Int.natCast_zero, Int.natCast_one, Int.cast_ofNat_Int, evV, encInts, encNats, encBools, encP, zN, pm_zero]) <;> exact fin2) (by (try simp only [evWA, Nat.reduceBEq, Nat.reduceAdd, Nat.reduceSub, Nat.reduceLeDiff, Nat.reduceLT, implies_true, and_self, Int.natCast_zero, Int.natCast_one, Int.cast_ofNat_Int, evV, encInts, encNats, encBools, encP, zN, pm_zero]) <;> exact fin2)) ?_
  intro i hi wf
  unfold ac_structure_flatten_l0
  have hpl : (pm againN l i).length = l.length := pm_len hi
  by_cases hl : i < l.length
  · have hm := sizeN_mem (List.getElem_mem hl)
    (repeat (first | (simp (disch := first | exact dis1 | fail) only [evA, Nat.reduceBEq, Nat.reduceAdd, Nat.reduceLeDiff, boxR, rboxR, allocR, fldR, binI, unR, pickR, mknilR, mkslR, buildSlR, buildR, extR, convI, eqB, evU, wrap64, dT, hpl, pm_getD hl, encN_len, encN_five]) | (with_reducible intro _) | ((with_reducible apply And.intro); omega)))
    refine callX_fix (call_flat (ih l[i] (by omega) (by omega)) (flN rfl)) ?_
    (repeat (first | (simp (disch := first | exact dis1 | fail) only [evA, Nat.reduceBEq, Nat.reduceAdd, Nat.reduceLeDiff, boxR, rboxR, allocR, fldR, binI, unR, pickR, mknilR, mkslR, buildSlR, buildR, extR, convI, eqB, evU, wrap64, hpl, pm_getD hl, encN_len, encN_five, pm_set hl]) | (with_reducible intro _) | ((with_reducible apply And.intro); omega)))
    exact ⟨i + 1, by omega, by omega, (Ent.tab [(0, 0, 0), (1, 1, 0), (2, 2, 0)] [] rfl (by (try simp only [evWA, Nat.reduceBEq, Nat.reduceAdd, Nat.reduceSub, Nat.reduceLeDiff, Nat.reduceLT, implies_true, and_self, Int.natCast_zero, Int.natCast_one, Int.cast_ofNat_Int, evV, encInts, encNats, encBools, encP, zN]) <;> exact fin2) (by (try simp only [evWA, Nat.reduceBEq, Nat.reduceAdd, Nat.reduceSub, Nat.reduceLeDiff, Nat.reduceLT, implies_true, and_self, Int.natCast_zero, Int.natCast_one, Int.cast_ofNat_Int, evV, encInts, encNats, encBools, encP, zN]) <;> exact fin2))⟩
  · have hp : pm againN l i = againNs l := by rw [pm_all (by omega), againNs_map]
    have hcl : l.length = (againNs l).length := by rw [againNs_map, List.length_map]
    have hsz := sizeNs_againNs l
    have hok : ∀ x ∈ againNs l, flatOk x := by
      intro x hx
      rw [againNs_map] at hx
      obtain ⟨y, _, rfl⟩ := List.mem_map.1 hx
      exact flatOk_againN y
    rw [hp]
    (repeat (first | (simp (disch := first | exact dis1 | fail) only [evA, Nat.reduceBEq, Nat.reduceAdd, Nat.reduceLeDiff, boxR, rboxR, allocR, fldR, binI, unR, pickR, mknilR, mkslR, buildSlR, buildR, extR, convI, eqB, evU, wrap64, dF]) | (with_reducible intro _) | ((with_reducible apply And.intro); omega)))
    unfold ac_structure_flatten_k1
    (repeat (first | (simp (disch := first | exact dis1 | fail) only [evA, Nat.reduceBEq, Nat.reduceAdd, Nat.reduceLeDiff, boxR, rboxR, allocR, fldR, binI, unR, pickR, mknilR, mkslR, buildSlR, buildR, extR, convI, eqB, evU, wrap64]) | (with_reducible intro _) | ((with_reducible apply And.intro); omega)))
    rw [hcl]
    have hb2 : (againNs l).length ≤ big := by omega
    refine markX_intro [(1, .ptr 0 0 0 0 0), (2, .ptr 1 0 0 0 0)] [(0, .row 5 [[.int .i64 kd, .int .i64 bl, .int .i64 lb, encL 5 encX c, encL 5 encN (againNs l)]] 0), (1, .row 5 [zN] 0)] 2 fun _ => ⟨(Ent.tab [(0, 0, 0), (1, 1, 0)] [2] rfl (by (try simp only [evWA, Nat.reduceBEq, Nat.reduceAdd, Nat.reduceSub, Nat.reduceLeDiff, Nat.reduceLT, implies_true, and_self, Int.natCast_zero, Int.natCast_one, Int.cast_ofNat_Int, evV, encInts, encNats, encBools, encP, zN]) <;> ((repeat' with_reducible apply And.intro) <;> first | omega | rfl | exact vwl_flat rfl | (refine RowV.of_flat ?_; (repeat' (first | exact flat_map (fun _ => rfl) | exact flat_map (fun _ => encN_flat) | exact flat_map (fun _ => encX_flat) | exact flat_one encN_flat | exact flat_one encX_flat | exact flat_rep rfl | exact flat_nil | exact flat_one rfl | refine flat_plus ?_ ?_ | refine flat_cons rfl ?_ | refine flat_cons encN_flat ?_ | refine flat_cons encX_flat ?_)); done) | ((repeat' (first | exact flat_map (fun _ => rfl) | exact flat_map (fun _ => encN_flat) | exact flat_map (fun _ => encX_flat) | exact flat_one encN_flat | exact flat_one encX_flat | exact flat_rep rfl | exact flat_nil | exact flat_one rfl | refine flat_plus ?_ ?_ | refine flat_cons rfl ?_ | refine flat_cons encN_flat ?_ | refine flat_cons encX_flat ?_)); done) | exact vw_nodes rfl rfl (by omega) | exact vw_exprs rfl rfl (by omega) | exact vw_nats rfl rfl (by omega) | exact vw_ints rfl rfl (by omega) | exact vw_bools rfl rfl (by omega) | exact rowV_fe (fun _ => rfl) | exact rowsV_fam (fun _ => rfl) (by decide) ⟨rfl, rfl⟩ trivial | exact rowsV_fam (fun _ => rfl) (by decide) (fun _ _ => ⟨rfl, rfl⟩) trivial | (simp; done))) (by (try simp only [evWA, Nat.reduceBEq, Nat.reduceAdd, Nat.reduceSub, Nat.reduceLeDiff, Nat.reduceLT, implies_true, and_self, Int.natCast_zero, Int.natCast_one, Int.cast_ofNat_Int, evV, encInts, encNats, encBools, encP, zN]) <;> ((repeat' with_reducible apply And.intro) <;> first | omega | rfl | exact vwl_flat rfl | (refine RowV.of_flat ?_; (repeat' (first | exact flat_map (fun _ => rfl) | exact flat_map (fun _ => encN_flat) | exact flat_map (fun _ => encX_flat) | exact flat_one encN_flat | exact flat_one encX_flat | exact flat_rep rfl | exact flat_nil | exact flat_one rfl | refine flat_plus ?_ ?_ | refine flat_cons rfl ?_ | refine flat_cons encN_flat ?_ | refine flat_cons encX_flat ?_)); done) | ((repeat' (first | exact flat_map (fun _ => rfl) | exact flat_map (fun _ => encN_flat) | exact flat_map (fun _ => encX_flat) | exact flat_one encN_flat | exact flat_one encX_flat | exact flat_rep rfl | exact flat_nil | exact flat_one rfl | refine flat_plus ?_ ?_ | refine flat_cons rfl ?_ | refine flat_cons encN_flat ?_ | refine flat_cons encX_flat ?_)); done) | exact vw_nodes rfl rfl (by omega) | exact vw_exprs rfl rfl (by omega) | exact vw_nats rfl rfl (by omega) | exact vw_ints rfl rfl (by omega) | exact vw_bools rfl rfl (by omega) | exact rowV_fe (fun _ => rfl) | exact rowsV_fam (fun _ => rfl) (by decide) ⟨rfl, rfl⟩ trivial | exact rowsV_fam (fun _ => rfl) (by decide) (fun _ _ => ⟨rfl, rfl⟩) trivial | (simp; done)))), ?_⟩
    have hf := structure_flat_ok (.mk ⟨kd, bl, lb⟩ c (againNs l)) (by rw [sizeN]; omega) hok
    rw [encN_eq] at hf
    (repeat (first | (simp (disch := first | exact dis1 | fail) only [evA, Nat.reduceBEq, Nat.reduceAdd, Nat.reduceLeDiff, boxR, rboxR, allocR, fldR, binI, unR, pickR, mknilR, mkslR, buildSlR, buildR, extR, convI, eqB, evU, wrap64]) | (with_reducible intro _) | ((with_reducible apply And.intro); omega)))
    refine callX_fix (call_flat hf rfl) ?_
    (repeat (first | (simp (disch := first | exact dis1 | fail) only [evA, Nat.reduceBEq, Nat.reduceAdd, Nat.reduceLeDiff, boxR, rboxR, allocR, fldR, binI, unR, pickR, mknilR, mkslR, buildSlR, buildR, extR, convI, eqB, evU, wrap64, encN_len, rs_structure_flatten]) | (with_reducible intro _) | ((with_reducible apply And.intro); omega)))
    exact ⟨_, frzA, rfl⟩

theorem structure_trim_ok : ∀ (k : Nat) (e : Nd), sizeN e ≤ k → k ≤ 100000 → PureFn Tryz.prog f_structure_trim [.agg (encN e)] (· = .agg (encN (cutN e))) := by
  intro k
  induction k with
  | zero => intro e h; obtain ⟨_, _, l⟩ := e; rw [sizeN] at h; omega
  | succ k ih =>
  intro e hk hk2
  obtain ⟨⟨kd, bl, lb⟩, c, l⟩ := e
  refine fn_x cf_structure_trim rfl ?_
  unfold ac_structure_trim
  have hB : big = 9223372036854775807 := rfl
  rw [sizeN] at hk
  have hll := sizeNs_len l
  have hE := encN_eq ⟨kd, bl, lb⟩ c l
  simp only at hE
  rw [hE]
  have hcut : cutN (.mk ⟨kd, bl, lb⟩ c l) = if kd = 8 then .mk seqF [] [] else if kd = 1 then .mk ⟨kd, bl, lb⟩ c (cutLast l) else if kd = 3 ∨ kd = 6 then .mk ⟨kd, bl, lb⟩ c (cutAll l) else .mk ⟨kd, bl, lb⟩ c l := by rw [cutN]
  generalize hR : cutN (.mk ⟨kd, bl, lb⟩ c l) = R
  rw [hR] at hcut
  subst hcut
  (repeat (first | (simp (disch := first | exact dis1 | fail) only [evA, Nat.reduceBEq, Nat.reduceAdd, Nat.reduceLeDiff, boxR, rboxR, allocR, fldR, binI, unR, pickR, mknilR, mkslR, buildSlR, buildR, extR, convI, eqB, evU, wrap64]) | (with_reducible intro _) | ((with_reducible apply And.intro); omega)))
  refine call_own [] 0 _ (cloneN_ok l (by omega)) rfl rfl (by (try simp only [evWA, Nat.reduceBEq, Nat.reduceAdd, Nat.reduceSub, Nat.reduceLeDiff, Nat.reduceLT, implies_true, and_self, Int.natCast_zero, Int.natCast_one, Int.cast_ofNat_Int, evV, encInts, encNats, encBools, encP]) <;> exact fin1) (by (try simp only [evWA, Nat.reduceBEq, Nat.reduceAdd, Nat.reduceSub, Nat.reduceLeDiff, Nat.reduceLT, implies_true, and_self, Int.natCast_zero, Int.natCast_one, Int.cast_ofNat_Int, evV, encInts, encNats, encBools, encP]) <;> exact fin1) ?_
  rintro _ _ _ ⟨rfl, rfl, rfl⟩
  (repeat (first | (simp (disch := first | exact dis1 | fail) only [evA, Nat.reduceBEq, Nat.reduceAdd, Nat.reduceLeDiff, boxR, rboxR, allocR, fldR, binI, unR, pickR, mknilR, mkslR, buildSlR, buildR, extR, convI, eqB, evU, wrap64, renN]) | (with_reducible intro _) | ((with_reducible apply And.intro); omega)))
  by_cases h8 : kd = 8
  · rw [if_pos h8]
    (repeat (first | (simp (disch := first | exact dis1 | fail) only [evA, Nat.reduceBEq, Nat.reduceAdd, Nat.reduceLeDiff, boxR, rboxR, allocR, fldR, binI, unR, pickR, mknilR, mkslR, buildSlR, buildR, extR, convI, eqB, evU, wrap64, dT]) | (with_reducible intro _) | ((with_reducible apply And.intro); omega)))
    refine callX_fix (call_flat structure_seq_ok rfl) ?_
    (repeat (first | (simp (disch := first | exact dis1 | fail) only [evA, Nat.reduceBEq, Nat.reduceAdd, Nat.reduceLeDiff, boxR, rboxR, allocR, fldR, binI, unR, pickR, mknilR, mkslR, buildSlR, buildR, extR, convI, eqB, evU, wrap64, encN_len, rs_structure_trim]) | (with_reducible intro _) | ((with_reducible apply And.intro); omega)))
    exact ⟨_, frzA, rfl⟩
  rw [if_neg h8]
  by_cases h1 : kd = 1
  · rw [if_pos h1]
    (repeat (first | (simp (disch := first | exact dis1 | fail) only [evA, Nat.reduceBEq, Nat.reduceAdd, Nat.reduceLeDiff, boxR, rboxR, allocR, fldR, binI, unR, pickR, mknilR, mkslR, buildSlR, buildR, extR, convI, eqB, evU, wrap64, dF, dT]) | (with_reducible intro _) | ((with_reducible apply And.intro); omega)))
    by_cases h0 : 0 < l.length
    · have hi : l.length - 1 < l.length := by omega
      have hidx : (((l.length : Nat) : Int) - 1).toNat = l.length - 1 := by omega
      have hm := sizeN_mem (List.getElem_mem hi)
      (repeat (first | (simp (disch := first | exact dis1 | fail) only [evA, Nat.reduceBEq, Nat.reduceAdd, Nat.reduceLeDiff, boxR, rboxR, allocR, fldR, binI, unR, pickR, mknilR, mkslR, buildSlR, buildR, extR, convI, eqB, evU, wrap64, dT, hidx, getD_map hi, encN_len, encN_five]) | (with_reducible intro _) | ((with_reducible apply And.intro); omega)))
      refine callX_fix (call_flat (ih l[l.length - 1] (by omega) (by omega)) (flN rfl)) ?_
      have hset : (l.map encN).set (l.length - 1) (encN (cutN l[l.length - 1])) = (cutLast l).map encN := by rw [cutLast_set l hi, List.map_set]
      have hcl : l.length = (cutLast l).length := by rw [cutLast_set l hi, List.length_set]
      (repeat (first | (simp (disch := first | exact dis1 | fail) only [evA, Nat.reduceBEq, Nat.reduceAdd, Nat.reduceLeDiff, boxR, rboxR, allocR, fldR, binI, unR, pickR, mknilR, mkslR, buildSlR, buildR, extR, convI, eqB, evU, wrap64, dT, hidx, getD_map hi, encN_len, encN_five, hset]) | (with_reducible intro _) | ((with_reducible apply And.intro); omega)))
      unfold ac_structure_trim_k1
      (repeat (first | (simp (disch := first | exact dis1 | fail) only [evA, Nat.reduceBEq, Nat.reduceAdd, Nat.reduceLeDiff, boxR, rboxR, allocR, fldR, binI, unR, pickR, mknilR, mkslR, buildSlR, buildR, extR, convI, eqB, evU, wrap64, rs_structure_trim]) | (with_reducible intro _) | ((with_reducible apply And.intro); omega)))
      rw [hcl]
      exact ⟨_, frzN rfl (by omega), rfl⟩
    · obtain rfl : l = [] := List.eq_nil_of_length_eq_zero (by omega)
      (repeat (first | (simp (disch := first | exact dis1 | fail) only [evA, Nat.reduceBEq, Nat.reduceAdd, Nat.reduceLeDiff, boxR, rboxR, allocR, fldR, binI, unR, pickR, mknilR, mkslR, buildSlR, buildR, extR, convI, eqB, evU, wrap64, dF, List.length_nil]) | (with_reducible intro _) | ((with_reducible apply And.intro); omega)))
      unfold ac_structure_trim_k1
      (repeat (first | (simp (disch := first | exact dis1 | fail) only [evA, Nat.reduceBEq, Nat.reduceAdd, Nat.reduceLeDiff, boxR, rboxR, allocR, fldR, binI, unR, pickR, mknilR, mkslR, buildSlR, buildR, extR, convI, eqB, evU, wrap64, rs_structure_trim]) | (with_reducible intro _) | ((with_reducible apply And.intro); omega)))
      exact ⟨_, frzN (l := []) rfl (by simp), by rw [cutLast]⟩
  rw [if_neg h1]
  have loop : ∀ (K : Kn) (H : AH) (nx : Nat), Ent 0 K H nx [(1, .ptr 0 0 0 0 0), (2, .ptr 1 0 0 0 0), (3, .own 2 0 0 0 l.length), (34, .int .i64 l.length), (35, .int .i64 0)] [(0, .row 5 [[.int .i64 kd, .int .i64 bl, .int .i64 lb, encL 5 encX c, encL 5 encN l]] 0), (1, .row 5 [zN] 0), (2, .row 5 (l.map encN) 0)] 3 → loopX Tryz.prog 0 ac_structure_trim_l0 (blockQ 1 (blockQ 0 (seqQ Tryz.prog 0 ac_structure_trim_k1 (retK rs_structure_trim fun v H' x => ∃ a, Frz H' v a ∧ a = .agg (encN (.mk ⟨kd, bl, lb⟩ c (cutAll l))))))) K H nx := by
    intro K H nx hent
    refine loopX_intro (fun i : Nat => ([(1, .ptr 0 0 0 0 0), (2, .ptr 1 0 0 0 0), (3, .own 2 0 0 0 l.length), (34, .int .i64 l.length), (35, .int .i64 i)], [(0, .row 5 [[.int .i64 kd, .int .i64 bl, .int .i64 lb, encL 5 encX c, encL 5 encN l]] 0), (1, .row 5 [zN] 0), (2, .row 5 ((pm cutN l i).map encN) 0)])) 3 (fun i => i ≤ l.length) (fun i => l.length - i) 0 (Nat.zero_le _) hent ?_
    intro i hi wf
    unfold ac_structure_trim_l0
    have hpl : (pm cutN l i).length = l.length := pm_len hi
    by_cases hl : i < l.length
    · have hm := sizeN_mem (List.getElem_mem hl)
      (repeat (first | (simp (disch := first | exact dis1 | fail) only [evA, Nat.reduceBEq, Nat.reduceAdd, Nat.reduceLeDiff, boxR, rboxR, allocR, fldR, binI, unR, pickR, mknilR, mkslR, buildSlR, buildR, extR, convI, eqB, evU, wrap64, dT, hpl, pm_getD hl, encN_len, encN_five]) | (with_reducible intro _) | ((with_reducible apply And.intro); omega)))
      refine callX_fix (call_flat (ih l[i] (by omega) (by omega)) (flN rfl)) ?_
      (repeat (first | (simp (disch := first | exact dis1 | fail) only [evA, Nat.reduceBEq, Nat.reduceAdd, Nat.reduceLeDiff, boxR, rboxR, allocR, fldR, binI, unR, pickR, mknilR, mkslR, buildSlR, buildR, extR, convI, eqB, evU, wrap64, hpl, pm_getD hl, encN_len, encN_five, pm_set hl]) | (with_reducible intro _) | ((with_reducible apply And.intro); omega)))
      exact ⟨i + 1, by omega, by omega, (Ent.tab [(0, 0, 0), (1, 1, 0), (2, 2, 0)] [] rfl (by (try simp only [evWA, Nat.reduceBEq, Nat.reduceAdd, Nat.reduceSub, Nat.reduceLeDiff, Nat.reduceLT, implies_true, and_self, Int.natCast_zero, Int.natCast_one, Int.cast_ofNat_Int, evV, encInts, encNats, encBools, encP, zN]) <;> exact fin2) (by (try simp only [evWA, Nat.reduceBEq, Nat.reduceAdd, Nat.reduceSub, Nat.reduceLeDiff, Nat.reduceLT, implies_true, and_self, Int.natCast_zero, Int.natCast_one, Int.cast_ofNat_Int, evV, encInts, encNats, encBools, encP, zN]) <;> exact fin2))⟩
    · (repeat (first | (simp (disch := first | exact dis1 | fail) only [evA, Nat.reduceBEq, Nat.reduceAdd, Nat.reduceLeDiff, boxR, rboxR, allocR, fldR, binI, unR, pickR, mknilR, mkslR, buildSlR, buildR, extR, convI, eqB, evU, wrap64, dF, hpl]) | (with_reducible intro _) | ((with_reducible apply And.intro); omega)))
      unfold ac_structure_trim_k1
      have hp : pm cutN l i = cutAll l := by rw [pm_all (by omega), cutAll_map]
      have hcl : l.length = (cutAll l).length := by rw [cutAll_map, List.length_map]
      rw [hp, hcl]
      (repeat (first | (simp (disch := first | exact dis1 | fail) only [evA, Nat.reduceBEq, Nat.reduceAdd, Nat.reduceLeDiff, boxR, rboxR, allocR, fldR, binI, unR, pickR, mknilR, mkslR, buildSlR, buildR, extR, convI, eqB, evU, wrap64, rs_structure_trim]) | (with_reducible intro _) | ((with_reducible apply And.intro); omega)))
      exact ⟨_, frzN rfl (by omega), rfl⟩
  by_cases h3 : kd = 3
  · rw [if_pos (.inl h3)]
    (repeat (first | (simp (disch := first | exact dis1 | fail) only [evA, Nat.reduceBEq, Nat.reduceAdd, Nat.reduceLeDiff, boxR, rboxR, allocR, fldR, binI, unR, pickR, mknilR, mkslR, buildSlR, buildR, extR, convI, eqB, evU, wrap64, dF, dT]) | (with_reducible intro _) | ((with_reducible apply And.intro); omega)))
    exact loop _ _ _ (Ent.tab [(0, 0, 0), (1, 1, 0), (2, 2, 0)] [] rfl (by (try simp only [evWA, Nat.reduceBEq, Nat.reduceAdd, Nat.reduceSub, Nat.reduceLeDiff, Nat.reduceLT, implies_true, and_self, Int.natCast_zero, Int.natCast_one, Int.cast_ofNat_Int, evV, encInts, encNats, encBools, encP, zN]) <;> exact fin2) (by (try simp only [evWA, Nat.reduceBEq, Nat.reduceAdd, Nat.reduceSub, Nat.reduceLeDiff, Nat.reduceLT, implies_true, and_self, Int.natCast_zero, Int.natCast_one, Int.cast_ofNat_Int, evV, encInts, encNats, encBools, encP, zN]) <;> exact fin2))
  by_cases h6 : kd = 6
  · rw [if_pos (.inr h6)]
    (repeat (first | (simp (disch := first | exact dis1 | fail) only [evA, Nat.reduceBEq, Nat.reduceAdd, Nat.reduceLeDiff, boxR, rboxR, allocR, fldR, binI, unR, pickR, mknilR, mkslR, buildSlR, buildR, extR, convI, eqB, evU, wrap64, dF, dT]) | (with_reducible intro _) | ((with_reducible apply And.intro); omega)))
    exact loop _ _ _ (Ent.tab [(0, 0, 0), (1, 1, 0), (2, 2, 0)] [] rfl (by (try simp only [evWA, Nat.reduceBEq, Nat.reduceAdd, Nat.reduceSub, Nat.reduceLeDiff, Nat.reduceLT, implies_true, and_self, Int.natCast_zero, Int.natCast_one, Int.cast_ofNat_Int, evV, encInts, encNats, encBools, encP, zN]) <;> exact fin2) (by (try simp only [evWA, Nat.reduceBEq, Nat.reduceAdd, Nat.reduceSub, Nat.reduceLeDiff, Nat.reduceLT, implies_true, and_self, Int.natCast_zero, Int.natCast_one, Int.cast_ofNat_Int, evV, encInts, encNats, encBools, encP, zN]) <;> exact fin2))
  rw [if_neg (by omega)]
  (repeat (first | (simp (disch := first | exact dis1 | fail) only [evA, Nat.reduceBEq, Nat.reduceAdd, Nat.reduceLeDiff, boxR, rboxR, allocR, fldR, binI, unR, pickR, mknilR, mkslR, buildSlR, buildR, extR, convI, eqB, evU, wrap64, dF]) | (with_reducible intro _) | ((with_reducible apply And.intro); omega)))
  unfold ac_structure_trim_k1
  (repeat (first | (simp (disch := first | exact dis1 | fail) only [evA, Nat.reduceBEq, Nat.reduceAdd, Nat.reduceLeDiff, boxR, rboxR, allocR, fldR, binI, unR, pickR, mknilR, mkslR, buildSlR, buildR, extR, convI, eqB, evU, wrap64, rs_structure_trim]) | (with_reducible intro _) | ((with_reducible apply And.intro); omega)))
  exact ⟨_, frzN rfl (by omega), rfl⟩

end Go.Ab

namespace Go.Ab
open Go.RowKit Go.Proofs

/-! Conditions are small. -/

mutual
def condN : Nd → Prop
  | .mk _ c l => (c.length ≤ 100 ∧ ∀ x ∈ c, sizeX x ≤ 1000) ∧ condNs l
def condNs : List Nd → Prop
  | [] => True
  | x :: l => condN x ∧ condNs l
end

theorem condNs_mem : ∀ {l : List Nd} {x : Nd}, condNs l → x ∈ l → condN x
  | [], x, _, hx => by simp at hx
  | a :: l, x, h, hx => by
    rw [condNs] at h
    rcases List.mem_cons.1 hx with rfl | hx
    · exact h.1
    · exact condNs_mem h.2 hx

mutual
theorem nodesX_size : ∀ (e : Ex) (m n : Int), 0 ≤ nodesX e m n → (sizeX e : Int) + nodesX e m n ≤ n
  | .mk op nn v w l, m, n, h => by
    rw [nodesX] at h ⊢
    split at h
    · omega
    · rename_i hc
      rw [if_neg hc]
      have := nodesXs_size l (m - 1) (n - 1) h
      rw [sizeX]
      omega
theorem nodesXs_size : ∀ (l : List Ex) (m n : Int), 0 ≤ nodesXs l m n → (sizeXs l : Int) + nodesXs l m n ≤ n
  | [], m, n, h => by
    rw [nodesXs, sizeXs]
    omega
  | e :: l, m, n, h => by
    rw [nodesXs] at h ⊢
    split at h
    · omega
    · rename_i hn
      rw [if_neg hn]
      have h2 := nodesXs_size l m _ h
      have h3 : 0 ≤ nodesX e m n := by
        apply Classical.byContradiction
        intro hc
        have := nodesXs_neg (l := l) (m := m) (n := nodesX e m n) (by omega)
        omega
      have h1 := nodesX_size e m n h3
      rw [sizeXs]
      omega
end

theorem condsOk_mem : ∀ {c : List Ex} {x : Ex}, condsOk c = true → x ∈ c → 0 ≤ nodesX x 70 200
  | [], x, _, hx => by simp at hx
  | a :: c, x, h, hx => by
    rw [condsOk] at h
    split at h
    · cases h
    · rename_i hn
      rcases List.mem_cons.1 hx with rfl | hx
      · omega
      · exact condsOk_mem h hx

mutual
theorem weight_cond : ∀ (e : Nd) (n : Int), 0 ≤ weightN e n → condN e
  | .mk f c l, n, h => by
    rw [weightN] at h
    split at h
    · omega
    · rename_i hc
      rw [condN]
      refine ⟨⟨by omega, fun x hx => ?_⟩, weights_cond l (n - 1) h⟩
      have hok : condsOk c = true := by
        cases hcc : condsOk c with
        | true => rfl
        | false => exact absurd (Or.inr hcc) hc
      have h1 := condsOk_mem hok hx
      have h2 := nodesX_size x 70 200 h1
      omega
theorem weights_cond : ∀ (l : List Nd) (n : Int), 0 ≤ weightNs l n → condNs l
  | [], n, h => by rw [condNs]; trivial
  | e :: l, n, h => by
    rw [weightNs] at h
    split at h
    · omega
    · rw [condNs]
      have h3 : 0 ≤ weightN e n := by
        apply Classical.byContradiction
        intro hc
        have := weightNs_neg (l := l) (n := weightN e n) (by omega)
        omega
      exact ⟨weight_cond e n h3, weights_cond l _ h⟩
end
theorem smallN_cond {e : Nd} (h : smallN e = true) : condN e := weight_cond e 300 (by unfold smallN at h; simpa using h)

theorem getD_set_self {L : List (List AV)} {i : Nat} {v : List AV} (h : i < L.length) : (L.set i v).getD i [] = v := by
  rw [List.getD_eq_getElem?_getD, List.getElem?_set_self h]
  rfl

theorem structure_Simplify_ok : ∀ (k : Nat) (e : Nd), sizeN e ≤ k → k ≤ 100000 → condN e → PureFn Tryz.prog f_structure_Simplify [.agg (encN e)] (· = .agg (encN (simpN e))) := by
  intro k
  induction k with
  | zero => intro e h; obtain ⟨_, _, l⟩ := e; rw [sizeN] at h; omega
  | succ k ih =>
  intro e hk hk2 hcd
  obtain ⟨⟨kd, bl, lb⟩, c, l⟩ := e
  refine fn_x cf_structure_Simplify rfl ?_
  unfold ac_structure_Simplify
  have hB : big = 9223372036854775807 := rfl
  rw [sizeN] at hk
  rw [condN] at hcd
  obtain ⟨⟨hc1, hc2⟩, hcl⟩ := hcd
  have hll := sizeNs_len l
  have hE := encN_eq ⟨kd, bl, lb⟩ c l
  simp only at hE
  have hb0 : isLoopK kd = decide (kd = 4 ∨ kd = 5) := rfl
  rw [hE, simpN]
  simp only
  generalize isLoopK kd = b at hb0 ⊢
  (repeat (first | (simp (disch := first | exact dis1 | fail) only [evA, Nat.reduceBEq, Nat.reduceAdd, Nat.reduceLeDiff, boxR, rboxR, allocR, fldR, binI, unR, pickR, mknilR, mkslR, buildSlR, buildR, extR, convI, eqB, evU, wrap64]) | (with_reducible intro _) | ((with_reducible apply And.intro); omega)))
  refine call_own [] 0 _ (cloneN_ok l (by omega)) rfl rfl (by (try simp only [evWA, Nat.reduceBEq, Nat.reduceAdd, Nat.reduceSub, Nat.reduceLeDiff, Nat.reduceLT, implies_true, and_self, Int.natCast_zero, Int.natCast_one, Int.cast_ofNat_Int, evV, encInts, encNats, encBools, encP]) <;> exact fin1) (by (try simp only [evWA, Nat.reduceBEq, Nat.reduceAdd, Nat.reduceSub, Nat.reduceLeDiff, Nat.reduceLT, implies_true, and_self, Int.natCast_zero, Int.natCast_one, Int.cast_ofNat_Int, evV, encInts, encNats, encBools, encP]) <;> exact fin1) ?_
  rintro _ _ _ ⟨rfl, rfl, rfl⟩
  (repeat (first | (simp (disch := first | exact dis1 | fail) only [evA, Nat.reduceBEq, Nat.reduceAdd, Nat.reduceLeDiff, boxR, rboxR, allocR, fldR, binI, unR, pickR, mknilR, mkslR, buildSlR, buildR, extR, convI, eqB, evU, wrap64, renN]) | (with_reducible intro _) | ((with_reducible apply And.intro); omega)))
  refine loopX_intro (fun i : Nat => ([(1, .ptr 0 0 0 0 0), (2, .ptr 1 0 0 0 0), (3, .own 2 0 0 0 l.length), (11, .int .i64 l.length), (12, .int .i64 i)], [(0, .row 5 [[.int .i64 kd, .int .i64 bl, .int .i64 lb, encL 5 encX c, encL 5 encN l]] 0), (1, .row 5 [zN] 0), (2, .row 5 ((pm (simp1 b) l i).map encN) 0)])) 3 (fun i => i ≤ l.length) (fun i => l.length - i) 0 (Nat.zero_le _) (Ent.tab [(0, 0, 0), (1, 1, 0), (2, 2, 0)] [] rfl (by (try simp only [evWA, Nat.reduceBEq, Nat.reduceAdd, Nat.reduceSub, Nat.reduceLeDiff, Nat.reduceLT, implies_true, and_self, Int.natCast_zero, Int.natCast_one, Int.cast_ofNat_Int, evV, encInts, encNats, encBools, encP, zN, pm_zero]) <;> exact fin2) (by (try simp only [evWA, Nat.reduceBEq, Nat.reduceAdd, Nat.reduceSub, Nat.reduceLeDiff, Nat.reduceLT, implies_true, and_self, Int.natCast_zero, Int.natCast_one, Int.cast_ofNat_Int, evV, encInts, encNats, encBools, encP, zN, pm_zero]) <;> exact fin2)) ?_
  intro i hi wf
  unfold ac_structure_Simplify_l0
  have hpl : (pm (simp1 b) l i).length = l.length := pm_len hi
  have hpl2 : ((pm (simp1 b) l i).map encN).length = l.length := by rw [List.length_map, hpl]
  by_cases hl : i < l.length
  · have hm := sizeN_mem (List.getElem_mem hl)
    have hs1 := sizeN_simpN l[i]
    have hs2 := sizeN_cutN (simpN l[i])
    have hps := pm_set (f := encN) (g := simp1 b) hl
    have hgs : ∀ v, (((pm (simp1 b) l i).map encN).set i v).getD i [] = v := fun v => getD_set_self (by omega)
    (repeat (first | (simp (disch := first | exact dis1 | fail) only [evA, Nat.reduceBEq, Nat.reduceAdd, Nat.reduceLeDiff, boxR, rboxR, allocR, fldR, binI, unR, pickR, mknilR, mkslR, buildSlR, buildR, extR, convI, eqB, evU, wrap64, dT, hpl, pm_getD hl, encN_len, encN_five]) | (with_reducible intro _) | ((with_reducible apply And.intro); omega)))
    refine callX_fix (call_flat (ih l[i] (by omega) (by omega) (condNs_mem hcl (List.getElem_mem hl))) (flN rfl)) ?_
    by_cases h45 : kd = 4 ∨ kd = 5
    · rw [decide_eq_true h45] at hb0
      subst hb0
      rw [simp1_true] at hps
      rcases h45 with h4 | h5
      · (repeat (first | (simp (disch := first | exact dis1 | fail) only [evA, Nat.reduceBEq, Nat.reduceAdd, Nat.reduceLeDiff, boxR, rboxR, allocR, fldR, binI, unR, pickR, mknilR, mkslR, buildSlR, buildR, extR, convI, eqB, evU, wrap64, dT, hpl, hpl2, List.length_set, hgs, encN_len, encN_five]) | (with_reducible intro _) | ((with_reducible apply And.intro); omega)))
        refine callX_fix (call_flat (structure_trim_ok (k + 1) (simpN l[i]) (by omega) (by omega)) (flN rfl)) ?_
        (repeat (first | (simp (disch := first | exact dis1 | fail) only [evA, Nat.reduceBEq, Nat.reduceAdd, Nat.reduceLeDiff, boxR, rboxR, allocR, fldR, binI, unR, pickR, mknilR, mkslR, buildSlR, buildR, extR, convI, eqB, evU, wrap64, dT, hpl, hpl2, List.length_set, hgs, encN_len, encN_five]) | (with_reducible intro _) | ((with_reducible apply And.intro); omega)))
        refine callX_fix (call_flat (structure_flatten_ok (k + 1) (cutN (simpN l[i])) (by omega) (by omega)) (flN rfl)) ?_
        (repeat (first | (simp (disch := first | exact dis1 | fail) only [evA, Nat.reduceBEq, Nat.reduceAdd, Nat.reduceLeDiff, boxR, rboxR, allocR, fldR, binI, unR, pickR, mknilR, mkslR, buildSlR, buildR, extR, convI, eqB, evU, wrap64, dT, hpl, hpl2, List.length_set, hgs, encN_len, encN_five, List.set_set, hps]) | (with_reducible intro _) | ((with_reducible apply And.intro); omega)))
        exact ⟨i + 1, by omega, by omega, (Ent.tab [(0, 0, 0), (1, 1, 0), (2, 2, 0)] [] rfl (by (try simp only [evWA, Nat.reduceBEq, Nat.reduceAdd, Nat.reduceSub, Nat.reduceLeDiff, Nat.reduceLT, implies_true, and_self, Int.natCast_zero, Int.natCast_one, Int.cast_ofNat_Int, evV, encInts, encNats, encBools, encP, zN]) <;> exact fin2) (by (try simp only [evWA, Nat.reduceBEq, Nat.reduceAdd, Nat.reduceSub, Nat.reduceLeDiff, Nat.reduceLT, implies_true, and_self, Int.natCast_zero, Int.natCast_one, Int.cast_ofNat_Int, evV, encInts, encNats, encBools, encP, zN]) <;> exact fin2))⟩
      · (repeat (first | (simp (disch := first | exact dis1 | fail) only [evA, Nat.reduceBEq, Nat.reduceAdd, Nat.reduceLeDiff, boxR, rboxR, allocR, fldR, binI, unR, pickR, mknilR, mkslR, buildSlR, buildR, extR, convI, eqB, evU, wrap64, dF, dT, hpl, hpl2, List.length_set, hgs, encN_len, encN_five]) | (with_reducible intro _) | ((with_reducible apply And.intro); omega)))
        refine callX_fix (call_flat (structure_trim_ok (k + 1) (simpN l[i]) (by omega) (by omega)) (flN rfl)) ?_
        (repeat (first | (simp (disch := first | exact dis1 | fail) only [evA, Nat.reduceBEq, Nat.reduceAdd, Nat.reduceLeDiff, boxR, rboxR, allocR, fldR, binI, unR, pickR, mknilR, mkslR, buildSlR, buildR, extR, convI, eqB, evU, wrap64, dT, hpl, hpl2, List.length_set, hgs, encN_len, encN_five]) | (with_reducible intro _) | ((with_reducible apply And.intro); omega)))
        refine callX_fix (call_flat (structure_flatten_ok (k + 1) (cutN (simpN l[i])) (by omega) (by omega)) (flN rfl)) ?_
        (repeat (first | (simp (disch := first | exact dis1 | fail) only [evA, Nat.reduceBEq, Nat.reduceAdd, Nat.reduceLeDiff, boxR, rboxR, allocR, fldR, binI, unR, pickR, mknilR, mkslR, buildSlR, buildR, extR, convI, eqB, evU, wrap64, dT, hpl, hpl2, List.length_set, hgs, encN_len, encN_five, List.set_set, hps]) | (with_reducible intro _) | ((with_reducible apply And.intro); omega)))
        exact ⟨i + 1, by omega, by omega, (Ent.tab [(0, 0, 0), (1, 1, 0), (2, 2, 0)] [] rfl (by (try simp only [evWA, Nat.reduceBEq, Nat.reduceAdd, Nat.reduceSub, Nat.reduceLeDiff, Nat.reduceLT, implies_true, and_self, Int.natCast_zero, Int.natCast_one, Int.cast_ofNat_Int, evV, encInts, encNats, encBools, encP, zN]) <;> exact fin2) (by (try simp only [evWA, Nat.reduceBEq, Nat.reduceAdd, Nat.reduceSub, Nat.reduceLeDiff, Nat.reduceLT, implies_true, and_self, Int.natCast_zero, Int.natCast_one, Int.cast_ofNat_Int, evV, encInts, encNats, encBools, encP, zN]) <;> exact fin2))⟩
    · rw [decide_eq_false h45] at hb0
      subst hb0
      rw [simp1_false] at hps
      (repeat (first | (simp (disch := first | exact dis1 | fail) only [evA, Nat.reduceBEq, Nat.reduceAdd, Nat.reduceLeDiff, boxR, rboxR, allocR, fldR, binI, unR, pickR, mknilR, mkslR, buildSlR, buildR, extR, convI, eqB, evU, wrap64, dF, hpl, hpl2, encN_len, encN_five, hps]) | (with_reducible intro _) | ((with_reducible apply And.intro); omega)))
      exact ⟨i + 1, by omega, by omega, (Ent.tab [(0, 0, 0), (1, 1, 0), (2, 2, 0)] [] rfl (by (try simp only [evWA, Nat.reduceBEq, Nat.reduceAdd, Nat.reduceSub, Nat.reduceLeDiff, Nat.reduceLT, implies_true, and_self, Int.natCast_zero, Int.natCast_one, Int.cast_ofNat_Int, evV, encInts, encNats, encBools, encP, zN]) <;> exact fin2) (by (try simp only [evWA, Nat.reduceBEq, Nat.reduceAdd, Nat.reduceSub, Nat.reduceLeDiff, Nat.reduceLT, implies_true, and_self, Int.natCast_zero, Int.natCast_one, Int.cast_ofNat_Int, evV, encInts, encNats, encBools, encP, zN]) <;> exact fin2))⟩
  · have hp : pm (simp1 b) l i = simpNs b l := by rw [pm_all (by omega), simpNs_one]
    have hcl2 : l.length = (simpNs b l).length := by rw [simpNs_one, List.length_map]
    have hsz := sizeNs_simpNs b l
    have hok : ∀ x ∈ simpNs b l, flatOk x := by
      intro x hx
      rw [simpNs_map] at hx
      obtain ⟨y, _, rfl⟩ := List.mem_map.1 hx
      split
      · exact flatOk_againN _
      · exact flatOk_simpN _
    rw [hp]
    (repeat (first | (simp (disch := first | exact dis1 | fail) only [evA, Nat.reduceBEq, Nat.reduceAdd, Nat.reduceLeDiff, boxR, rboxR, allocR, fldR, binI, unR, pickR, mknilR, mkslR, buildSlR, buildR, extR, convI, eqB, evU, wrap64, dF]) | (with_reducible intro _) | ((with_reducible apply And.intro); omega)))
    unfold ac_structure_Simplify_k3
    rw [hcl2]
    have hb2 : (simpNs b l).length ≤ big := by omega
    generalize hM : simpNs b l = M at hb2 hsz hok ⊢
    (repeat (first | (simp (disch := first | exact dis1 | fail) only [evA, Nat.reduceBEq, Nat.reduceAdd, Nat.reduceLeDiff, boxR, rboxR, allocR, fldR, binI, unR, pickR, mknilR, mkslR, buildSlR, buildR, extR, convI, eqB, evU, wrap64]) | (with_reducible intro _) | ((with_reducible apply And.intro); omega)))
    refine call_own [] 0 _ (cloneX_ok c (by omega)) rfl rfl (by (try simp only [evWA, Nat.reduceBEq, Nat.reduceAdd, Nat.reduceSub, Nat.reduceLeDiff, Nat.reduceLT, implies_true, and_self, Int.natCast_zero, Int.natCast_one, Int.cast_ofNat_Int, evV, encInts, encNats, encBools, encP]) <;> exact fin1) (by (try simp only [evWA, Nat.reduceBEq, Nat.reduceAdd, Nat.reduceSub, Nat.reduceLeDiff, Nat.reduceLT, implies_true, and_self, Int.natCast_zero, Int.natCast_one, Int.cast_ofNat_Int, evV, encInts, encNats, encBools, encP]) <;> exact fin1) ?_
    rintro _ _ _ ⟨rfl, rfl, rfl⟩
    (repeat (first | (simp (disch := first | exact dis1 | fail) only [evA, Nat.reduceBEq, Nat.reduceAdd, Nat.reduceLeDiff, boxR, rboxR, allocR, fldR, binI, unR, pickR, mknilR, mkslR, buildSlR, buildR, extR, convI, eqB, evU, wrap64, renN, renX]) | (with_reducible intro _) | ((with_reducible apply And.intro); omega)))
    refine loopX_intro (fun i : Nat => ([(1, .ptr 0 0 0 0 0), (2, .ptr 1 0 0 0 0), (5, .own 3 0 0 0 c.length), (47, .int .i64 c.length), (48, .int .i64 i)], [(0, .row 5 [[.int .i64 kd, .int .i64 bl, .int .i64 lb, encL 5 encX c, .own 2 0 0 0 M.length]] 0), (1, .row 5 [zN] 0), (2, .row 5 (M.map encN) 0), (3, .row 5 (c.map encX) 0)])) 4 (fun i => i ≤ c.length) (fun i => c.length - i) 0 (Nat.zero_le _) (Ent.tab [(0, 0, 0), (1, 1, 0), (2, 2, 0), (3, 3, 0)] [] rfl (by (try simp only [evWA, Nat.reduceBEq, Nat.reduceAdd, Nat.reduceSub, Nat.reduceLeDiff, Nat.reduceLT, implies_true, and_self, Int.natCast_zero, Int.natCast_one, Int.cast_ofNat_Int, evV, encInts, encNats, encBools, encP, zN]) <;> exact fin2) (by (try simp only [evWA, Nat.reduceBEq, Nat.reduceAdd, Nat.reduceSub, Nat.reduceLeDiff, Nat.reduceLT, implies_true, and_self, Int.natCast_zero, Int.natCast_one, Int.cast_ofNat_Int, evV, encInts, encNats, encBools, encP, zN]) <;> exact fin2)) ?_
    intro i hi wf
    unfold ac_structure_Simplify_l1
    by_cases hl : i < c.length
    · have hset : (c.map encX).set i (encX c[i]) = c.map encX := by
        rw [← List.getElem_map (f := encX) (h := by simpa using hl)]
        exact List.set_getElem_self _
      (repeat (first | (simp (disch := first | exact dis1 | fail) only [evA, Nat.reduceBEq, Nat.reduceAdd, Nat.reduceLeDiff, boxR, rboxR, allocR, fldR, binI, unR, pickR, mknilR, mkslR, buildSlR, buildR, extR, convI, eqB, evU, wrap64, dT, getD_map hl, encX_len, encX_five]) | (with_reducible intro _) | ((with_reducible apply And.intro); omega)))
      refine callX_fix (call_flat (structure_copyExpr_ok 1000 c[i] (hc2 _ (List.getElem_mem hl)) (by omega)) (flX rfl)) ?_
      (repeat (first | (simp (disch := first | exact dis1 | fail) only [evA, Nat.reduceBEq, Nat.reduceAdd, Nat.reduceLeDiff, boxR, rboxR, allocR, fldR, binI, unR, pickR, mknilR, mkslR, buildSlR, buildR, extR, convI, eqB, evU, wrap64, getD_map hl, encX_len, hset]) | (with_reducible intro _) | ((with_reducible apply And.intro); omega)))
      exact ⟨i + 1, by omega, by omega, (Ent.tab [(0, 0, 0), (1, 1, 0), (2, 2, 0), (3, 3, 0)] [] rfl (by (try simp only [evWA, Nat.reduceBEq, Nat.reduceAdd, Nat.reduceSub, Nat.reduceLeDiff, Nat.reduceLT, implies_true, and_self, Int.natCast_zero, Int.natCast_one, Int.cast_ofNat_Int, evV, encInts, encNats, encBools, encP, zN]) <;> exact fin2) (by (try simp only [evWA, Nat.reduceBEq, Nat.reduceAdd, Nat.reduceSub, Nat.reduceLeDiff, Nat.reduceLT, implies_true, and_self, Int.natCast_zero, Int.natCast_one, Int.cast_ofNat_Int, evV, encInts, encNats, encBools, encP, zN]) <;> exact fin2))⟩
    · (repeat (first | (simp (disch := first | exact dis1 | fail) only [evA, Nat.reduceBEq, Nat.reduceAdd, Nat.reduceLeDiff, boxR, rboxR, allocR, fldR, binI, unR, pickR, mknilR, mkslR, buildSlR, buildR, extR, convI, eqB, evU, wrap64, dF]) | (with_reducible intro _) | ((with_reducible apply And.intro); omega)))
      unfold ac_structure_Simplify_k2
      (repeat (first | (simp (disch := first | exact dis1 | fail) only [evA, Nat.reduceBEq, Nat.reduceAdd, Nat.reduceLeDiff, boxR, rboxR, allocR, fldR, binI, unR, pickR, mknilR, mkslR, buildSlR, buildR, extR, convI, eqB, evU, wrap64]) | (with_reducible intro _) | ((with_reducible apply And.intro); omega)))
      refine markX_intro [(1, .ptr 0 0 0 0 0), (2, .ptr 1 0 0 0 0)] [(0, .row 5 [[.int .i64 kd, .int .i64 bl, .int .i64 lb, encL 5 encX c, encL 5 encN M]] 0), (1, .row 5 [zN] 0)] 2 fun _ => ⟨(Ent.tab [(0, 0, 0), (1, 1, 0)] [2, 3] rfl (by (try simp only [evWA, Nat.reduceBEq, Nat.reduceAdd, Nat.reduceSub, Nat.reduceLeDiff, Nat.reduceLT, implies_true, and_self, Int.natCast_zero, Int.natCast_one, Int.cast_ofNat_Int, evV, encInts, encNats, encBools, encP, zN]) <;> ((repeat' with_reducible apply And.intro) <;> first | omega | rfl | exact vwl_flat rfl | (refine RowV.of_flat ?_; (repeat' (first | exact flat_map (fun _ => rfl) | exact flat_map (fun _ => encN_flat) | exact flat_map (fun _ => encX_flat) | exact flat_one encN_flat | exact flat_one encX_flat | exact flat_rep rfl | exact flat_nil | exact flat_one rfl | refine flat_plus ?_ ?_ | refine flat_cons rfl ?_ | refine flat_cons encN_flat ?_ | refine flat_cons encX_flat ?_)); done) | ((repeat' (first | exact flat_map (fun _ => rfl) | exact flat_map (fun _ => encN_flat) | exact flat_map (fun _ => encX_flat) | exact flat_one encN_flat | exact flat_one encX_flat | exact flat_rep rfl | exact flat_nil | exact flat_one rfl | refine flat_plus ?_ ?_ | refine flat_cons rfl ?_ | refine flat_cons encN_flat ?_ | refine flat_cons encX_flat ?_)); done) | exact vw_nodes rfl rfl (by omega) | exact vw_exprs rfl rfl (by omega) | exact vw_nats rfl rfl (by omega) | exact vw_ints rfl rfl (by omega) | exact vw_bools rfl rfl (by omega) | exact rowV_fe (fun _ => rfl) | exact rowsV_fam (fun _ => rfl) (by decide) ⟨rfl, rfl⟩ trivial | exact rowsV_fam (fun _ => rfl) (by decide) (fun _ _ => ⟨rfl, rfl⟩) trivial | (simp; done))) (by (try simp only [evWA, Nat.reduceBEq, Nat.reduceAdd, Nat.reduceSub, Nat.reduceLeDiff, Nat.reduceLT, implies_true, and_self, Int.natCast_zero, Int.natCast_one, Int.cast_ofNat_Int, evV, encInts, encNats, encBools, encP, zN]) <;> ((repeat' with_reducible apply And.intro) <;> first | omega | rfl | exact vwl_flat rfl | (refine RowV.of_flat ?_; (repeat' (first | exact flat_map (fun _ => rfl) | exact flat_map (fun _ => encN_flat) | exact flat_map (fun _ => encX_flat) | exact flat_one encN_flat | exact flat_one encX_flat | exact flat_rep rfl | exact flat_nil | exact flat_one rfl | refine flat_plus ?_ ?_ | refine flat_cons rfl ?_ | refine flat_cons encN_flat ?_ | refine flat_cons encX_flat ?_)); done) | ((repeat' (first | exact flat_map (fun _ => rfl) | exact flat_map (fun _ => encN_flat) | exact flat_map (fun _ => encX_flat) | exact flat_one encN_flat | exact flat_one encX_flat | exact flat_rep rfl | exact flat_nil | exact flat_one rfl | refine flat_plus ?_ ?_ | refine flat_cons rfl ?_ | refine flat_cons encN_flat ?_ | refine flat_cons encX_flat ?_)); done) | exact vw_nodes rfl rfl (by omega) | exact vw_exprs rfl rfl (by omega) | exact vw_nats rfl rfl (by omega) | exact vw_ints rfl rfl (by omega) | exact vw_bools rfl rfl (by omega) | exact rowV_fe (fun _ => rfl) | exact rowsV_fam (fun _ => rfl) (by decide) ⟨rfl, rfl⟩ trivial | exact rowsV_fam (fun _ => rfl) (by decide) (fun _ _ => ⟨rfl, rfl⟩) trivial | (simp; done)))), ?_⟩
      have hf := structure_flat_ok (.mk ⟨kd, bl, lb⟩ c M) (by rw [sizeN]; omega) hok
      rw [encN_eq] at hf
      (repeat (first | (simp (disch := first | exact dis1 | fail) only [evA, Nat.reduceBEq, Nat.reduceAdd, Nat.reduceLeDiff, boxR, rboxR, allocR, fldR, binI, unR, pickR, mknilR, mkslR, buildSlR, buildR, extR, convI, eqB, evU, wrap64]) | (with_reducible intro _) | ((with_reducible apply And.intro); omega)))
      refine callX_fix (call_flat hf rfl) ?_
      (repeat (first | (simp (disch := first | exact dis1 | fail) only [evA, Nat.reduceBEq, Nat.reduceAdd, Nat.reduceLeDiff, boxR, rboxR, allocR, fldR, binI, unR, pickR, mknilR, mkslR, buildSlR, buildR, extR, convI, eqB, evU, wrap64, encN_len, rs_structure_Simplify]) | (with_reducible intro _) | ((with_reducible apply And.intro); omega)))
      exact ⟨_, frzA, rfl⟩

end Go.Ab
