/-
  Part 7 of the proof: how the calls of this program run, over values instead of memory, and what each function computes.
-/
import Derived.Test.YtglokgacghadbaaKf
set_option linter.unusedVariables false
set_option linter.unusedSimpArgs false

namespace Go.Ab
open Go.RowKit Go.Proofs

/-- The sources of the edges to n, by nodes below k; at k by its first i edges. -/
def tLL (A : Adj) (k n : Nat) : List Nat := (List.range k).flatMap fun k => List.replicate ((suc A k).count n) k
def tLi (A : Adj) (k i n : Nat) : List Nat := tLL A k n ++ List.replicate (((suc A k).take i).count n) k

theorem tLL_zero {A : Adj} : tLL A 0 = fun _ => [] := rfl
theorem tLi_zero {A : Adj} {k : Nat} : tLi A k 0 = tLL A k := by
  funext n
  simp [tLi]
theorem tLi_end {A : Adj} {k : Nat} : tLi A k (suc A k).length = tLL A (k + 1) := by
  funext n
  unfold tLi tLL
  rw [List.take_length, List.range_succ, List.flatMap_append]
  simp
theorem tLi_step {A : Adj} {k i : Nat} (hi : i < (suc A k).length) : updF (tLi A k i) (suc A k)[i] (tLi A k i (suc A k)[i] ++ [k]) = tLi A k (i + 1) := by
  funext n
  unfold updF tLi
  rw [List.take_add_one, List.getElem?_eq_getElem hi]
  simp only [Option.toList, List.count_append]
  split
  · rename_i h
    subst h
    rw [List.append_assoc, ← List.replicate_succ']
    simp
  · rename_i h
    have : List.count n [(suc A k)[i]] = 0 := by simp [List.count_singleton]; exact fun e => h e.symm
    rw [this, Nat.add_zero]

/-- Not too many edges. -/
structure Adj.small (A : Adj) : Prop where
  len : A.length ≤ 2000
  row : ∀ k, (suc A k).length ≤ 2000000

theorem tLL_len {A : Adj} (hA : A.small) (k n : Nat) : (tLL A k n).length ≤ k * 2000000 := by
  induction k with
  | zero => simp [tLL]
  | succ k ih =>
    have e : tLL A (k + 1) n = tLL A k n ++ List.replicate ((suc A k).count n) k := by
      unfold tLL
      rw [List.range_succ, List.flatMap_append]
      simp
    rw [e, List.length_append, List.length_replicate]
    have := List.count_le_length (a := n) (l := suc A k)
    have := hA.row k
    omega
theorem tLi_len {A : Adj} (hA : A.small) (k i n : Nat) : (tLi A k i n).length ≤ (k + 1) * 2000000 := by
  unfold tLi
  rw [List.length_append, List.length_replicate]
  have := tLL_len hA k n
  have := List.count_le_length (a := n) (l := (suc A k).take i)
  have := hA.row k
  have : ((suc A k).take i).length ≤ (suc A k).length := List.length_take_le' _ _
  omega

theorem dominator_turned_ok (A : Adj) (hA : A.small) (hok : A.ok) : CallOk Try.prog f_dominator_turned [encNN A] [] 0
    (fun v H nx => ∃ gs, v = .own 0 0 0 0 A.length ∧ H = [(0, .row 1 (fe 1 A.length (tLL A A.length) gs) 0), (1, .fam 1 (fi cN A.length (tLL A A.length) gs))] ∧ nx = 2) := by
  refine call_ent (fn_x cf_dominator_turned rfl ?_)
  unfold ac_dominator_turned
  have hB : big = 9223372036854775807 := rfl
  have hn := hA.len
  (repeat (first | (simp (disch := (first | omega | (simp only [evF, evL, implies_true, and_self]; done) | fail)) only [evS, evZ, evK, evB, evL, evR, Nat.reduceBEq, Nat.reduceAdd, Nat.reduceLeDiff, boxR, rboxR, allocR, fldR, binI, unR, pickR, mknilR, mkslR, buildSlR, buildR, extR, convI, eqB, evU, wrap64, encNN]) | (with_reducible intro _) | ((with_reducible apply And.intro); omega)))
  refine loopX_intro (fun s : Nat × (Nat → Nat) => ([(0, encNN A), (3, .own 0 0 0 0 A.length), (11, .int .i64 A.length), (12, .int .i64 s.1)], [(0, .row 1 (fe 1 A.length (tLL A s.1) s.2) 0), (1, .fam 1 (fi cN A.length (tLL A s.1) s.2))])) 2
    (fun s => s.1 ≤ A.length) (fun s => A.length - s.1) (0, fun _ => 0) (Nat.zero_le _) (Ent.tab [(0, 1, 0)] [] rfl (by (try simp only [evW, evK, evB, evL, Nat.reduceBEq, Nat.reduceAdd, Nat.reduceSub, Nat.reduceLeDiff, Nat.reduceLT, implies_true, and_self, Int.natCast_zero, Int.natCast_one, Int.cast_ofNat_Int, evV, encInts, encNats, encBools, encP, encNN, tLL_zero]) <;> (repeat' with_reducible apply And.intro) <;> first | omega | exact vw_nats rfl rfl (by omega) | exact vw_ints rfl rfl (by omega) | exact vw_bools rfl rfl (by omega) | exact rowV_fe (fun _ => rfl) | exact rowV_fe_start (c := cN) (fun _ => rfl) rfl | exact rowsV_fam (fun _ => rfl) (by decide) ⟨rfl, rfl⟩ trivial | exact rowsV_fam (fun _ => rfl) (by decide) (fun _ _ => ⟨rfl, rfl⟩) trivial | (simp; done)) (by (try simp only [evW, evK, evB, evL, Nat.reduceBEq, Nat.reduceAdd, Nat.reduceSub, Nat.reduceLeDiff, Nat.reduceLT, implies_true, and_self, Int.natCast_zero, Int.natCast_one, Int.cast_ofNat_Int, evV, encInts, encNats, encBools, encP, encNN, tLL_zero]) <;> (repeat' with_reducible apply And.intro) <;> first | omega | exact vw_nats rfl rfl (by omega) | exact vw_ints rfl rfl (by omega) | exact vw_bools rfl rfl (by omega) | exact rowV_fe (fun _ => rfl) | exact rowV_fe_start (c := cN) (fun _ => rfl) rfl | exact rowsV_fam (fun _ => rfl) (by decide) ⟨rfl, rfl⟩ trivial | exact rowsV_fam (fun _ => rfl) (by decide) (fun _ _ => ⟨rfl, rfl⟩) trivial | (simp; done))) ?_
  rintro ⟨k, gs⟩ hk wf
  simp only at hk
  unfold ac_dominator_turned_l2
  (repeat (first | (simp (disch := (first | omega | (simp only [evF, evL, implies_true, and_self]; done) | fail)) only [evS, evZ, evK, evB, evL, evR, Nat.reduceBEq, Nat.reduceAdd, Nat.reduceLeDiff, boxR, rboxR, allocR, fldR, binI, unR, pickR, mknilR, mkslR, buildSlR, buildR, extR, convI, eqB, evU, wrap64, encNN]) | (with_reducible intro _) | ((with_reducible apply And.intro); omega)))
  (refine condX_intro (fun h => ?_) (fun h => ?_)) <;> (try simp only [decide_eq_true_eq, decide_eq_false_iff_not, Bool.not_eq_true', Bool.not_eq_false', Bool.and_eq_true, Bool.or_eq_true, not_true_eq_false, not_false_eq_true] at h)
  · have hk' : k < A.length := by omega
    have hs : suc A k = A[k] := suc_get hk'
    have hrow := hA.row k
    rw [hs] at hrow
    (repeat (first | (simp (disch := (first | omega | (simp only [evF, evL, implies_true, and_self]; done) | fail)) only [evS, evZ, evK, evB, evL, evR, Nat.reduceBEq, Nat.reduceAdd, Nat.reduceLeDiff, boxR, rboxR, allocR, fldR, binI, unR, pickR, mknilR, mkslR, buildSlR, buildR, extR, convI, eqB, evU, wrap64, getD_map hk', encNats]) | (with_reducible intro _) | ((with_reducible apply And.intro); omega)))
    refine loopX_intro (fun s : Nat × (Nat → Nat) => ([(0, encNN A), (3, .own 0 0 0 0 A.length), (4, .int .i64 k), (11, .int .i64 A.length), (12, .int .i64 k), (18, encNats A[k]), (19, .int .i64 A[k].length), (20, .int .i64 s.1)], [(0, .row 1 (fe 1 A.length (tLi A k s.1) s.2) 0), (1, .fam 1 (fi cN A.length (tLi A k s.1) s.2))])) 2
      (fun s => s.1 ≤ A[k].length) (fun s => A[k].length - s.1) (0, gs) (Nat.zero_le _) (Ent.tab [(0, 0, 0), (1, 1, 0)] [] rfl (by (try simp only [evW, evK, evB, evL, Nat.reduceBEq, Nat.reduceAdd, Nat.reduceSub, Nat.reduceLeDiff, Nat.reduceLT, implies_true, and_self, Int.natCast_zero, Int.natCast_one, Int.cast_ofNat_Int, evV, encInts, encNats, encBools, encP, encNN, tLi_zero]) <;> (repeat' with_reducible apply And.intro) <;> first | omega | exact vw_nats rfl rfl (by omega) | exact vw_ints rfl rfl (by omega) | exact vw_bools rfl rfl (by omega) | exact rowV_fe (fun _ => rfl) | exact rowV_fe_start (c := cN) (fun _ => rfl) rfl | exact rowsV_fam (fun _ => rfl) (by decide) ⟨rfl, rfl⟩ trivial | exact rowsV_fam (fun _ => rfl) (by decide) (fun _ _ => ⟨rfl, rfl⟩) trivial | (simp; done)) (by (try simp only [evW, evK, evB, evL, Nat.reduceBEq, Nat.reduceAdd, Nat.reduceSub, Nat.reduceLeDiff, Nat.reduceLT, implies_true, and_self, Int.natCast_zero, Int.natCast_one, Int.cast_ofNat_Int, evV, encInts, encNats, encBools, encP, encNN, tLi_zero]) <;> (repeat' with_reducible apply And.intro) <;> first | omega | exact vw_nats rfl rfl (by omega) | exact vw_ints rfl rfl (by omega) | exact vw_bools rfl rfl (by omega) | exact rowV_fe (fun _ => rfl) | exact rowV_fe_start (c := cN) (fun _ => rfl) rfl | exact rowsV_fam (fun _ => rfl) (by decide) ⟨rfl, rfl⟩ trivial | exact rowsV_fam (fun _ => rfl) (by decide) (fun _ _ => ⟨rfl, rfl⟩) trivial | (simp; done))) ?_
    rintro ⟨i, gs2⟩ hi wf
    simp only at hi
    unfold ac_dominator_turned_l0
    (repeat (first | (simp (disch := (first | omega | (simp only [evF, evL, implies_true, and_self]; done) | fail)) only [evS, evZ, evK, evB, evL, evR, Nat.reduceBEq, Nat.reduceAdd, Nat.reduceLeDiff, boxR, rboxR, allocR, fldR, binI, unR, pickR, mknilR, mkslR, buildSlR, buildR, extR, convI, eqB, evU, wrap64, encNN, encNats]) | (with_reducible intro _) | ((with_reducible apply And.intro); omega)))
    (refine condX_intro (fun h2 => ?_) (fun h2 => ?_)) <;> (try simp only [decide_eq_true_eq, decide_eq_false_iff_not, Bool.not_eq_true', Bool.not_eq_false', Bool.and_eq_true, Bool.or_eq_true, not_true_eq_false, not_false_eq_true] at h2)
    · have hi' : i < A[k].length := by omega
      have hst := tLi_step (A := A) (k := k) (i := i) (by rw [hs]; exact hi')
      have hlt : (suc A k)[i]'(by rw [hs]; exact hi') < A.length := hok k _ (List.getElem_mem _)
      simp only [hs] at hst hlt
      (repeat (first | (simp (disch := (first | omega | (simp only [evF, evL, implies_true, and_self]; done) | fail)) only [evS, evZ, evK, evB, evL, evR, Nat.reduceBEq, Nat.reduceAdd, Nat.reduceLeDiff, boxR, rboxR, allocR, fldR, binI, unR, pickR, mknilR, mkslR, buildSlR, buildR, extR, convI, eqB, evU, wrap64, getD_map hi']) | (with_reducible intro _) | ((with_reducible apply And.intro); omega)))
      generalize A[k][i] = n at hst hlt ⊢
      have hll := tLi_len hA k i n
      (repeat (first | (simp (disch := (first | omega | (simp only [evF, evL, implies_true, and_self]; done) | fail)) only [evS, evZ, evK, evB, evL, evR, Nat.reduceBEq, Nat.reduceAdd, Nat.reduceLeDiff, boxR, rboxR, allocR, fldR, binI, unR, pickR, mknilR, mkslR, buildSlR, buildR, extR, convI, eqB, evU, wrap64, fe_len, fe_get hlt, fi_get hlt, fi_snoc (c := cN) (a := k) (ca := [AV.int .i64 (k : Int)]) rfl, fe_snoc (ll := tLi A k i) (k := n) k rfl]) | (with_reducible intro _) | ((with_reducible apply And.intro); omega)))
      rw [hst]
      exact ⟨(i + 1, _), by simp only; omega, by simp only; omega, (Ent.tab [(0, 0, 0), (1, 1, 0)] [] rfl (by (try simp only [evW, evK, evB, evL, Nat.reduceBEq, Nat.reduceAdd, Nat.reduceSub, Nat.reduceLeDiff, Nat.reduceLT, implies_true, and_self, Int.natCast_zero, Int.natCast_one, Int.cast_ofNat_Int, evV, encInts, encNats, encBools, encP, encNN]) <;> (repeat' with_reducible apply And.intro) <;> first | omega | exact vw_nats rfl rfl (by omega) | exact vw_ints rfl rfl (by omega) | exact vw_bools rfl rfl (by omega) | exact rowV_fe (fun _ => rfl) | exact rowV_fe_start (c := cN) (fun _ => rfl) rfl | exact rowsV_fam (fun _ => rfl) (by decide) ⟨rfl, rfl⟩ trivial | exact rowsV_fam (fun _ => rfl) (by decide) (fun _ _ => ⟨rfl, rfl⟩) trivial | (simp; done)) (by (try simp only [evW, evK, evB, evL, Nat.reduceBEq, Nat.reduceAdd, Nat.reduceSub, Nat.reduceLeDiff, Nat.reduceLT, implies_true, and_self, Int.natCast_zero, Int.natCast_one, Int.cast_ofNat_Int, evV, encInts, encNats, encBools, encP, encNN]) <;> (repeat' with_reducible apply And.intro) <;> first | omega | exact vw_nats rfl rfl (by omega) | exact vw_ints rfl rfl (by omega) | exact vw_bools rfl rfl (by omega) | exact rowV_fe (fun _ => rfl) | exact rowV_fe_start (c := cN) (fun _ => rfl) rfl | exact rowsV_fam (fun _ => rfl) (by decide) ⟨rfl, rfl⟩ trivial | exact rowsV_fam (fun _ => rfl) (by decide) (fun _ _ => ⟨rfl, rfl⟩) trivial | (simp; done)))⟩
    · obtain rfl : i = A[k].length := by omega
      have he := tLi_end (A := A) (k := k)
      rw [hs] at he
      rw [he]
      unfold ac_dominator_turned_k1
      (repeat (first | (simp (disch := (first | omega | (simp only [evF, evL, implies_true, and_self]; done) | fail)) only [evS, evZ, evK, evB, evL, evR, Nat.reduceBEq, Nat.reduceAdd, Nat.reduceLeDiff, boxR, rboxR, allocR, fldR, binI, unR, pickR, mknilR, mkslR, buildSlR, buildR, extR, convI, eqB, evU, wrap64]) | (with_reducible intro _) | ((with_reducible apply And.intro); omega)))
      exact ⟨(k + 1, gs2), by simp only; omega, by simp only; omega, (Ent.tab [(0, 0, 0), (1, 1, 0)] [] rfl (by (try simp only [evW, evK, evB, evL, Nat.reduceBEq, Nat.reduceAdd, Nat.reduceSub, Nat.reduceLeDiff, Nat.reduceLT, implies_true, and_self, Int.natCast_zero, Int.natCast_one, Int.cast_ofNat_Int, evV, encInts, encNats, encBools, encP, encNN]) <;> (repeat' with_reducible apply And.intro) <;> first | omega | exact vw_nats rfl rfl (by omega) | exact vw_ints rfl rfl (by omega) | exact vw_bools rfl rfl (by omega) | exact rowV_fe (fun _ => rfl) | exact rowV_fe_start (c := cN) (fun _ => rfl) rfl | exact rowsV_fam (fun _ => rfl) (by decide) ⟨rfl, rfl⟩ trivial | exact rowsV_fam (fun _ => rfl) (by decide) (fun _ _ => ⟨rfl, rfl⟩) trivial | (simp; done)) (by (try simp only [evW, evK, evB, evL, Nat.reduceBEq, Nat.reduceAdd, Nat.reduceSub, Nat.reduceLeDiff, Nat.reduceLT, implies_true, and_self, Int.natCast_zero, Int.natCast_one, Int.cast_ofNat_Int, evV, encInts, encNats, encBools, encP, encNN]) <;> (repeat' with_reducible apply And.intro) <;> first | omega | exact vw_nats rfl rfl (by omega) | exact vw_ints rfl rfl (by omega) | exact vw_bools rfl rfl (by omega) | exact rowV_fe (fun _ => rfl) | exact rowV_fe_start (c := cN) (fun _ => rfl) rfl | exact rowsV_fam (fun _ => rfl) (by decide) ⟨rfl, rfl⟩ trivial | exact rowsV_fam (fun _ => rfl) (by decide) (fun _ _ => ⟨rfl, rfl⟩) trivial | (simp; done)))⟩
  · obtain rfl : k = A.length := by omega
    unfold ac_dominator_turned_k3
    (repeat (first | (simp (disch := (first | omega | (simp only [evF, evL, implies_true, and_self]; done) | fail)) only [evS, evZ, evK, evB, evL, evR, Nat.reduceBEq, Nat.reduceAdd, Nat.reduceLeDiff, boxR, rboxR, allocR, fldR, binI, unR, pickR, mknilR, mkslR, buildSlR, buildR, extR, convI, eqB, evU, wrap64, rs_dominator_turned]) | (with_reducible intro _) | ((with_reducible apply And.intro); omega)))
    exact ⟨.own 0 0 0 0 A.length, _, 2, (Ent.tab [(0, 0, 0), (1, 1, 0)] [] rfl (by (try simp only [evW, evK, evB, evL, Nat.reduceBEq, Nat.reduceAdd, Nat.reduceSub, Nat.reduceLeDiff, Nat.reduceLT, implies_true, and_self, Int.natCast_zero, Int.natCast_one, Int.cast_ofNat_Int, evV, encInts, encNats, encBools, encP]) <;> (repeat' with_reducible apply And.intro) <;> first | omega | exact vw_nats rfl rfl (by omega) | exact vw_ints rfl rfl (by omega) | exact vw_bools rfl rfl (by omega) | exact rowV_fe (fun _ => rfl) | exact rowV_fe_start (c := cN) (fun _ => rfl) rfl | exact rowsV_fam (fun _ => rfl) (by decide) ⟨rfl, rfl⟩ trivial | exact rowsV_fam (fun _ => rfl) (by decide) (fun _ _ => ⟨rfl, rfl⟩) trivial | (simp; done)) (by (try simp only [evW, evK, evB, evL, Nat.reduceBEq, Nat.reduceAdd, Nat.reduceSub, Nat.reduceLeDiff, Nat.reduceLT, implies_true, and_self, Int.natCast_zero, Int.natCast_one, Int.cast_ofNat_Int, evV, encInts, encNats, encBools, encP]) <;> (repeat' with_reducible apply And.intro) <;> first | omega | exact vw_nats rfl rfl (by omega) | exact vw_ints rfl rfl (by omega) | exact vw_bools rfl rfl (by omega) | exact rowV_fe (fun _ => rfl) | exact rowV_fe_start (c := cN) (fun _ => rfl) rfl | exact rowsV_fam (fun _ => rfl) (by decide) ⟨rfl, rfl⟩ trivial | exact rowsV_fam (fun _ => rfl) (by decide) (fun _ _ => ⟨rfl, rfl⟩) trivial | (simp; done))), gs, rfl, rfl, rfl⟩

/-- The lists of turned. -/
def turnL (A : Adj) : Adj := (List.range A.length).map (tLL A A.length)

theorem dominator_turned_pure (A : Adj) (hA : A.small) (hok : A.ok) : PureFn Try.prog f_dominator_turned [encNN A] (· = encNN (turnL A)) := by
  refine CallOk.mono (dominator_turned_ok A hA hok) ?_
  rintro v H nx ⟨gs, rfl, rfl, rfl⟩
  refine ⟨_, ?_, rfl⟩
  have h1 := hA.len
  rw [encNN_L]
  exact vw_fam trivial rfl (by unfold big; omega) rfl (fun _ _ => trivial) (fun i _ => Nat.le_trans (tLL_len hA _ _) (by unfold big; omega)) (fun _ => rfl)

end Go.Ab

namespace Go.Ab
open Go.RowKit Go.Proofs

/-- Which elements differ from the one before. -/
def keepP (l : List Nat) (j : Nat) : Bool := j == 0 || (l.getD j 0 != l.getD (j - 1) 0)
def keepL (l : List Nat) (n : Nat) : List Nat := (filR (keepP l) n).map (fun j => l.getD j 0)
def compactL (l : List Nat) : List Nat := keepL l l.length

theorem keepL_len {l : List Nat} {n : Nat} : (keepL l n).length ≤ n := by
  unfold keepL
  rw [List.length_map]
  exact filR_le
theorem keepL_yes {l : List Nat} {j : Nat} (hj : j < l.length) (h : keepP l j = true) : keepL l (j + 1) = keepL l j ++ [l[j]] := by
  unfold keepL
  rw [filR_pos h, List.map_append]
  simp [List.getD_eq_getElem?_getD, hj]
theorem keepL_no {l : List Nat} {j : Nat} (h : keepP l j = false) : keepL l (j + 1) = keepL l j := by
  unfold keepL
  rw [filR_neg h]
theorem keepL_all {l : List Nat} {n : Nat} (hn : n ≤ l.length) (h : ∀ j, j < n → keepP l j = true) : keepL l n = l.take n := by
  induction n with
  | zero => rfl
  | succ n ih =>
    rw [keepL_yes (by omega) (h n (by omega)), ih (by omega) (fun j hj => h j (by omega)), List.take_add_one, List.getElem?_eq_getElem (by omega)]
    rfl
theorem keepP_at {l : List Nat} {j : Nat} (h1 : 1 ≤ j) (hj : j < l.length) : keepP l j = (l[j] != l[j - 1]) := by
  unfold keepP
  rw [List.getD_eq_getElem?_getD, List.getD_eq_getElem?_getD, List.getElem?_eq_getElem hj, List.getElem?_eq_getElem (show j - 1 < l.length by omega)]
  simp
  omega

/-- A row that is written from the front, read behind. -/
def curN (K l : List Nat) : List Nat := K ++ l.drop K.length
theorem curN_len {K l : List Nat} (h : K.length ≤ l.length) : (curN K l).length = l.length := by simp [curN]; omega
theorem curN_get {K l : List Nat} {j : Nat} (h : K.length ≤ j) (hj : j < l.length) : (curN K l)[j]? = some l[j] := by
  unfold curN
  rw [List.getElem?_append_right h, List.getElem?_drop, show K.length + (j - K.length) = j by omega, List.getElem?_eq_getElem hj]
theorem curN_getD {K l : List Nat} {j : Nat} (h : K.length ≤ j) (hj : j < l.length) : ((curN K l).map cN).getD j [] = [.int .i64 (l[j] : Int)] := by
  simp [List.getD_eq_getElem?_getD, curN_get h hj]
theorem curN_set {K l : List Nat} {v : Nat} (h : K.length < l.length) : (curN K l).set K.length v = curN (K ++ [v]) l := by
  unfold curN
  rw [List.set_append_right _ _ (Nat.le_refl _), Nat.sub_self, List.drop_eq_getElem_cons h, List.set_cons_zero]
  simp
theorem curN_setI {K l : List Nat} {v : Nat} (h : K.length < l.length) : ((curN K l).map cN).set K.length [.int .i64 (v : Int)] = (curN (K ++ [v]) l).map cN := by
  rw [← curN_set h, List.map_set]
theorem curN_take {l : List Nat} {n : Nat} (h : n ≤ l.length) : curN (l.take n) l = l := by
  unfold curN
  rw [List.length_take, Nat.min_eq_left h, List.take_append_drop]

theorem slices_Compact_ok (n k : Nat) (ll : Nat → List Nat) (gs : Nat → Nat) (hk : k < n) (hl : (ll k).length ≤ 100000000000) :
    CallOk Try.prog f_slices_Compact_int_int [.own 0 (k + 1) (gs k) 0 (ll k).length] [(0, .fam 1 (fi cN n ll gs))] 1
      (fun v H nx => ∃ m, v = .own 0 (k + 1) (gs k) 0 (compactL (ll k)).length ∧ H = [(0, .fam 1 (fi cN n (updF ll k (compactL (ll k) ++ m)) gs))] ∧ nx = 1) := by
  refine call_ent (fn_x cf_slices_Compact_int_int rfl ?_)
  unfold ac_slices_Compact_int_int
  have hB : big = 9223372036854775807 := rfl
  have hsame : updF ll k (ll k) = ll := by funext i; unfold updF; split; (rename_i h; rw [h]); rfl
  have hgs : updF gs k (gs k) = gs := by funext i; unfold updF; split; (rename_i h; rw [h]); rfl
  have hset : ∀ l', (fi cN n ll gs).set k (l'.map cN, gs k) = fi cN n (updF ll k l') gs := fun l' => by rw [fi_set, hgs]
  have hset2 : ∀ C l' : List Nat, (fi cN n (updF ll k C) gs).set k (l'.map cN, gs k) = fi cN n (updF ll k l') gs := fun C l' => by
    rw [fi_set, hgs]
    congr 1
    funext i
    unfold updF
    split <;> rfl
  generalize hlk : ll k = l at hl hsame ⊢
  have fin : ∀ K m, (∀ j, j < l.length → keepP l j = true) → K = (4, AV.undef) → m = 0 → compactL l = l := fun K m h _ _ => by unfold compactL; rw [keepL_all (Nat.le_refl _) h, List.take_length]
  (repeat (first | (simp (disch := (first | omega | (simp only [evF, evL, implies_true, and_self]; done) | fail)) only [evS, evZ, evK, evB, evL, evR, Nat.reduceBEq, Nat.reduceAdd, Nat.reduceLeDiff, boxR, rboxR, allocR, fldR, binI, unR, pickR, mknilR, mkslR, buildSlR, buildR, extR, convI, eqB, evU, wrap64]) | (with_reducible intro _) | ((with_reducible apply And.intro); omega)))
  (refine condX_intro (fun h => ?_) (fun h => ?_)) <;> (try simp only [decide_eq_true_eq, decide_eq_false_iff_not, Bool.not_eq_true', Bool.not_eq_false', Bool.and_eq_true, Bool.or_eq_true, not_true_eq_false, not_false_eq_true] at h)
  · (repeat (first | (simp (disch := (first | omega | (simp only [evF, evL, implies_true, and_self]; done) | fail)) only [evS, evZ, evK, evB, evL, evR, Nat.reduceBEq, Nat.reduceAdd, Nat.reduceLeDiff, boxR, rboxR, allocR, fldR, binI, unR, pickR, mknilR, mkslR, buildSlR, buildR, extR, convI, eqB, evU, wrap64, rs_slices_Compact_int_int]) | (with_reducible intro _) | ((with_reducible apply And.intro); omega)))
    have hall : ∀ j, j < l.length → keepP l j = true := fun j hj => by
      have : j = 0 := by omega
      subst this
      rfl
    have e := fin (4, .undef) 0 hall rfl rfl
    refine ⟨.own 0 (k + 1) (gs k) 0 l.length, [(0, .fam 1 (fi cN n (updF ll k (l ++ [])) gs))], 1, ?_, [], by rw [e], by rw [e], rfl⟩
    rw [List.append_nil, hsame]
    exact (Ent.tabB [(0, 0, 0)] [] rfl rfl rfl (by (try simp only [evW, evK, evB, evL, Nat.reduceBEq, Nat.reduceAdd, Nat.reduceSub, Nat.reduceLeDiff, Nat.reduceLT, implies_true, and_self, Int.natCast_zero, Int.natCast_one, Int.cast_ofNat_Int, evV, encInts, encNats, encBools, encP]) <;> (repeat' with_reducible apply And.intro) <;> first | omega | exact vw_nats rfl rfl (by omega) | exact vw_ints rfl rfl (by omega) | exact vw_bools rfl rfl (by omega) | exact rowV_fe (fun _ => rfl) | exact rowV_fe_start (c := cN) (fun _ => rfl) rfl | exact rowsV_fam (fun _ => rfl) (by decide) ⟨rfl, rfl⟩ trivial | exact rowsV_fam (fun _ => rfl) (by decide) (fun _ _ => ⟨rfl, rfl⟩) trivial | (simp; done)) (by (try simp only [evW, evK, evB, evL, Nat.reduceBEq, Nat.reduceAdd, Nat.reduceSub, Nat.reduceLeDiff, Nat.reduceLT, implies_true, and_self, Int.natCast_zero, Int.natCast_one, Int.cast_ofNat_Int, evV, encInts, encNats, encBools, encP]) <;> (repeat' with_reducible apply And.intro) <;> first | omega | exact vw_nats rfl rfl (by omega) | exact vw_ints rfl rfl (by omega) | exact vw_bools rfl rfl (by omega) | exact rowV_fe (fun _ => rfl) | exact rowV_fe_start (c := cN) (fun _ => rfl) rfl | exact rowsV_fam (fun _ => rfl) (by decide) ⟨rfl, rfl⟩ trivial | exact rowsV_fam (fun _ => rfl) (by decide) (fun _ _ => ⟨rfl, rfl⟩) trivial | (simp; done)))
  (repeat (first | (simp (disch := (first | omega | (simp only [evF, evL, implies_true, and_self]; done) | fail)) only [evS, evZ, evK, evB, evL, evR, Nat.reduceBEq, Nat.reduceAdd, Nat.reduceLeDiff, boxR, rboxR, allocR, fldR, binI, unR, pickR, mknilR, mkslR, buildSlR, buildR, extR, convI, eqB, evU, wrap64]) | (with_reducible intro _) | ((with_reducible apply And.intro); omega)))
  refine loopX_intro (fun i : Nat => ([(0, .own 0 (k + 1) (gs k) 0 l.length), (3, .int .i64 i)], [(0, .fam 1 (fi cN n ll gs))])) 1 (fun i => 1 ≤ i ∧ i ≤ l.length ∧ ∀ j, j < i → keepP l j = true) (fun i => l.length - i) 1 ⟨by omega, by omega, fun j hj => (by rw [show j = 0 by omega]; rfl)⟩ (Ent.tabB [(0, 0, 0)] [] rfl rfl rfl (by (try simp only [evW, evK, evB, evL, Nat.reduceBEq, Nat.reduceAdd, Nat.reduceSub, Nat.reduceLeDiff, Nat.reduceLT, implies_true, and_self, Int.natCast_zero, Int.natCast_one, Int.cast_ofNat_Int, evV, encInts, encNats, encBools, encP]) <;> (repeat' with_reducible apply And.intro) <;> first | omega | exact vw_nats rfl rfl (by omega) | exact vw_ints rfl rfl (by omega) | exact vw_bools rfl rfl (by omega) | exact rowV_fe (fun _ => rfl) | exact rowV_fe_start (c := cN) (fun _ => rfl) rfl | exact rowsV_fam (fun _ => rfl) (by decide) ⟨rfl, rfl⟩ trivial | exact rowsV_fam (fun _ => rfl) (by decide) (fun _ _ => ⟨rfl, rfl⟩) trivial | (simp; done)) (by (try simp only [evW, evK, evB, evL, Nat.reduceBEq, Nat.reduceAdd, Nat.reduceSub, Nat.reduceLeDiff, Nat.reduceLT, implies_true, and_self, Int.natCast_zero, Int.natCast_one, Int.cast_ofNat_Int, evV, encInts, encNats, encBools, encP]) <;> (repeat' with_reducible apply And.intro) <;> first | omega | exact vw_nats rfl rfl (by omega) | exact vw_ints rfl rfl (by omega) | exact vw_bools rfl rfl (by omega) | exact rowV_fe (fun _ => rfl) | exact rowV_fe_start (c := cN) (fun _ => rfl) rfl | exact rowsV_fam (fun _ => rfl) (by decide) ⟨rfl, rfl⟩ trivial | exact rowsV_fam (fun _ => rfl) (by decide) (fun _ _ => ⟨rfl, rfl⟩) trivial | (simp; done))) ?_
  intro i ⟨hi1, hi2, hall⟩ wf
  unfold ac_slices_Compact_int_int_l3
  (repeat (first | (simp (disch := (first | omega | (simp only [evF, evL, implies_true, and_self]; done) | fail)) only [evS, evZ, evK, evB, evL, evR, Nat.reduceBEq, Nat.reduceAdd, Nat.reduceLeDiff, boxR, rboxR, allocR, fldR, binI, unR, pickR, mknilR, mkslR, buildSlR, buildR, extR, convI, eqB, evU, wrap64]) | (with_reducible intro _) | ((with_reducible apply And.intro); omega)))
  (refine condX_intro (fun h2 => ?_) (fun h2 => ?_)) <;> (try simp only [decide_eq_true_eq, decide_eq_false_iff_not, Bool.not_eq_true', Bool.not_eq_false', Bool.and_eq_true, Bool.or_eq_true, not_true_eq_false, not_false_eq_true] at h2)
  · have hi' : i < l.length := by omega
    have hi1' : i - 1 < l.length := by omega
    have ei : ((i : Int) - 1).toNat = i - 1 := by omega
    (repeat (first | (simp (disch := (first | omega | (simp only [evF, evL, implies_true, and_self]; done) | fail)) only [evS, evZ, evK, evB, evL, evR, Nat.reduceBEq, Nat.reduceAdd, Nat.reduceLeDiff, boxR, rboxR, allocR, fldR, binI, unR, pickR, mknilR, mkslR, buildSlR, buildR, extR, convI, eqB, evU, wrap64, fi_get hk, hlk, getD_map hi', ei, getD_map hi1']) | (with_reducible intro _) | ((with_reducible apply And.intro); omega)))
    (refine condX_intro (fun h3 => ?_) (fun h3 => ?_)) <;> (try simp only [decide_eq_true_eq, decide_eq_false_iff_not, Bool.not_eq_true', Bool.not_eq_false', Bool.and_eq_true, Bool.or_eq_true, not_true_eq_false, not_false_eq_true] at h3)
    · have hne : keepP l i = false := by rw [keepP_at hi1 hi']; simp; omega
      have hk0 : keepL l i = l.take i := keepL_all (by omega) hall
      have hk1 : keepL l (i + 1) = l.take i := by rw [keepL_no hne, hk0]
      have hk1l : (keepL l (i + 1)).length = i := by rw [hk1, List.length_take]; omega
      have hstart : updF ll k (curN (keepL l (i + 1)) l) = ll := by rw [hk1, curN_take (by omega), hsame]
      have esl : ((l.length : Int) - i).toNat = l.length - i := by omega
      (repeat (first | (simp (disch := (first | omega | (simp only [evF, evL, implies_true, and_self]; done) | fail)) only [evS, evZ, evK, evB, evL, evR, Nat.reduceBEq, Nat.reduceAdd, Nat.reduceLeDiff, boxR, rboxR, allocR, fldR, binI, unR, pickR, mknilR, mkslR, buildSlR, buildR, extR, convI, eqB, evU, wrap64, fi_get hk, hlk, esl]) | (with_reducible intro _) | ((with_reducible apply And.intro); omega)))
      refine loopX_intro (fun a : Nat => ([(0, .own 0 (k + 1) (gs k) 0 l.length), (3, .int .i64 (keepL l (i + a)).length), (4, .own 0 (k + 1) (gs k) i (l.length - i)), (5, .int .i64 a)], [(0, .fam 1 (fi cN n (updF ll k (curN (keepL l (i + a)) l)) gs))])) 1
        (fun a => 1 ≤ a ∧ i + a ≤ l.length ∧ (keepL l (i + a)).length < i + a) (fun a => l.length - (i + a)) 1 ⟨by omega, by omega, by omega⟩ (Ent.tabB [(0, 0, 0)] [] rfl rfl rfl (by (try simp only [evW, evK, evB, evL, Nat.reduceBEq, Nat.reduceAdd, Nat.reduceSub, Nat.reduceLeDiff, Nat.reduceLT, implies_true, and_self, Int.natCast_zero, Int.natCast_one, Int.cast_ofNat_Int, evV, encInts, encNats, encBools, encP, hstart, hk1l]) <;> (repeat' with_reducible apply And.intro) <;> first | omega | exact vw_nats rfl rfl (by omega) | exact vw_ints rfl rfl (by omega) | exact vw_bools rfl rfl (by omega) | exact rowV_fe (fun _ => rfl) | exact rowV_fe_start (c := cN) (fun _ => rfl) rfl | exact rowsV_fam (fun _ => rfl) (by decide) ⟨rfl, rfl⟩ trivial | exact rowsV_fam (fun _ => rfl) (by decide) (fun _ _ => ⟨rfl, rfl⟩) trivial | (simp; done)) (by (try simp only [evW, evK, evB, evL, Nat.reduceBEq, Nat.reduceAdd, Nat.reduceSub, Nat.reduceLeDiff, Nat.reduceLT, implies_true, and_self, Int.natCast_zero, Int.natCast_one, Int.cast_ofNat_Int, evV, encInts, encNats, encBools, encP, hstart, hk1l]) <;> (repeat' with_reducible apply And.intro) <;> first | omega | exact vw_nats rfl rfl (by omega) | exact vw_ints rfl rfl (by omega) | exact vw_bools rfl rfl (by omega) | exact rowV_fe (fun _ => rfl) | exact rowV_fe_start (c := cN) (fun _ => rfl) rfl | exact rowsV_fam (fun _ => rfl) (by decide) ⟨rfl, rfl⟩ trivial | exact rowsV_fam (fun _ => rfl) (by decide) (fun _ _ => ⟨rfl, rfl⟩) trivial | (simp; done))) ?_
      intro a ⟨ha1, ha2, ha3⟩ wf
      unfold ac_slices_Compact_int_int_l0
      (repeat (first | (simp (disch := (first | omega | (simp only [evF, evL, implies_true, and_self]; done) | fail)) only [evS, evZ, evK, evB, evL, evR, Nat.reduceBEq, Nat.reduceAdd, Nat.reduceLeDiff, boxR, rboxR, allocR, fldR, binI, unR, pickR, mknilR, mkslR, buildSlR, buildR, extR, convI, eqB, evU, wrap64]) | (with_reducible intro _) | ((with_reducible apply And.intro); omega)))
      (refine condX_intro (fun h4 => ?_) (fun h4 => ?_)) <;> (try simp only [decide_eq_true_eq, decide_eq_false_iff_not, Bool.not_eq_true', Bool.not_eq_false', Bool.and_eq_true, Bool.or_eq_true, not_true_eq_false, not_false_eq_true] at h4)
      · have ha' : i + a < l.length := by omega
        have ha1' : i + a - 1 < l.length := by omega
        have e1 : i + ((a : Int) - 1).toNat = i + a - 1 := by omega
        have g1 := curN_getD (K := keepL l (i + a)) (l := l) (by omega) ha'
        have g2 := curN_getD (K := keepL l (i + a)) (l := l) (by omega) ha1'
        have hup : updF ll k (curN (keepL l (i + a)) l) k = curN (keepL l (i + a)) l := updF_same
        have hcl := curN_len (K := keepL l (i + a)) (l := l) (by omega)
        (repeat (first | (simp (disch := (first | omega | (simp only [evF, evL, implies_true, and_self]; done) | fail)) only [evS, evZ, evK, evB, evL, evR, Nat.reduceBEq, Nat.reduceAdd, Nat.reduceLeDiff, boxR, rboxR, allocR, fldR, binI, unR, pickR, mknilR, mkslR, buildSlR, buildR, extR, convI, eqB, evU, wrap64, fi_get hk, hup, e1, g1, g2]) | (with_reducible intro _) | ((with_reducible apply And.intro); omega)))
        (refine condX_intro (fun h5 => ?_) (fun h5 => ?_)) <;> (try simp only [decide_eq_true_eq, decide_eq_false_iff_not, Bool.not_eq_true', Bool.not_eq_false', Bool.and_eq_true, Bool.or_eq_true, not_true_eq_false, not_false_eq_true] at h5)
        · have hp : keepP l (i + a) = true := by rw [keepP_at (by omega) ha']; simp; omega
          have hy := keepL_yes ha' hp
          have hst := curN_setI (K := keepL l (i + a)) (l := l) (v := l[i + a]) (by omega)
          rw [← hy] at hst
          have hyl : (keepL l (i + a + 1)).length = (keepL l (i + a)).length + 1 := by rw [hy]; simp
          (repeat (first | (simp (disch := (first | omega | (simp only [evF, evL, implies_true, and_self]; done) | fail)) only [evS, evZ, evK, evB, evL, evR, Nat.reduceBEq, Nat.reduceAdd, Nat.reduceLeDiff, boxR, rboxR, allocR, fldR, binI, unR, pickR, mknilR, mkslR, buildSlR, buildR, extR, convI, eqB, evU, wrap64, fi_get hk, hup, e1, g1, g2, hst, hset2]) | (with_reducible intro _) | ((with_reducible apply And.intro); omega)))
          exact ⟨a + 1, ⟨by omega, by omega, by rw [show i + (a + 1) = i + a + 1 by omega, hyl]; omega⟩, by omega, (Ent.tabB [(0, 0, 0)] [] rfl rfl rfl (by (try simp only [evW, evK, evB, evL, Nat.reduceBEq, Nat.reduceAdd, Nat.reduceSub, Nat.reduceLeDiff, Nat.reduceLT, implies_true, and_self, Int.natCast_zero, Int.natCast_one, Int.cast_ofNat_Int, evV, encInts, encNats, encBools, encP, show i + (a + 1) = i + a + 1 by omega, hyl]) <;> (repeat' with_reducible apply And.intro) <;> first | omega | exact vw_nats rfl rfl (by omega) | exact vw_ints rfl rfl (by omega) | exact vw_bools rfl rfl (by omega) | exact rowV_fe (fun _ => rfl) | exact rowV_fe_start (c := cN) (fun _ => rfl) rfl | exact rowsV_fam (fun _ => rfl) (by decide) ⟨rfl, rfl⟩ trivial | exact rowsV_fam (fun _ => rfl) (by decide) (fun _ _ => ⟨rfl, rfl⟩) trivial | (simp; done)) (by (try simp only [evW, evK, evB, evL, Nat.reduceBEq, Nat.reduceAdd, Nat.reduceSub, Nat.reduceLeDiff, Nat.reduceLT, implies_true, and_self, Int.natCast_zero, Int.natCast_one, Int.cast_ofNat_Int, evV, encInts, encNats, encBools, encP, show i + (a + 1) = i + a + 1 by omega, hyl]) <;> (repeat' with_reducible apply And.intro) <;> first | omega | exact vw_nats rfl rfl (by omega) | exact vw_ints rfl rfl (by omega) | exact vw_bools rfl rfl (by omega) | exact rowV_fe (fun _ => rfl) | exact rowV_fe_start (c := cN) (fun _ => rfl) rfl | exact rowsV_fam (fun _ => rfl) (by decide) ⟨rfl, rfl⟩ trivial | exact rowsV_fam (fun _ => rfl) (by decide) (fun _ _ => ⟨rfl, rfl⟩) trivial | (simp; done)))⟩
        · have hp : keepP l (i + a) = false := by rw [keepP_at (by omega) ha']; simp; omega
          have hy := keepL_no hp
          (repeat (first | (simp (disch := (first | omega | (simp only [evF, evL, implies_true, and_self]; done) | fail)) only [evS, evZ, evK, evB, evL, evR, Nat.reduceBEq, Nat.reduceAdd, Nat.reduceLeDiff, boxR, rboxR, allocR, fldR, binI, unR, pickR, mknilR, mkslR, buildSlR, buildR, extR, convI, eqB, evU, wrap64]) | (with_reducible intro _) | ((with_reducible apply And.intro); omega)))
          exact ⟨a + 1, ⟨by omega, by omega, by rw [show i + (a + 1) = i + a + 1 by omega, hy]; omega⟩, by omega, (Ent.tabB [(0, 0, 0)] [] rfl rfl rfl (by (try simp only [evW, evK, evB, evL, Nat.reduceBEq, Nat.reduceAdd, Nat.reduceSub, Nat.reduceLeDiff, Nat.reduceLT, implies_true, and_self, Int.natCast_zero, Int.natCast_one, Int.cast_ofNat_Int, evV, encInts, encNats, encBools, encP, show i + (a + 1) = i + a + 1 by omega, hy]) <;> (repeat' with_reducible apply And.intro) <;> first | omega | exact vw_nats rfl rfl (by omega) | exact vw_ints rfl rfl (by omega) | exact vw_bools rfl rfl (by omega) | exact rowV_fe (fun _ => rfl) | exact rowV_fe_start (c := cN) (fun _ => rfl) rfl | exact rowsV_fam (fun _ => rfl) (by decide) ⟨rfl, rfl⟩ trivial | exact rowsV_fam (fun _ => rfl) (by decide) (fun _ _ => ⟨rfl, rfl⟩) trivial | (simp; done)) (by (try simp only [evW, evK, evB, evL, Nat.reduceBEq, Nat.reduceAdd, Nat.reduceSub, Nat.reduceLeDiff, Nat.reduceLT, implies_true, and_self, Int.natCast_zero, Int.natCast_one, Int.cast_ofNat_Int, evV, encInts, encNats, encBools, encP, show i + (a + 1) = i + a + 1 by omega, hy]) <;> (repeat' with_reducible apply And.intro) <;> first | omega | exact vw_nats rfl rfl (by omega) | exact vw_ints rfl rfl (by omega) | exact vw_bools rfl rfl (by omega) | exact rowV_fe (fun _ => rfl) | exact rowV_fe_start (c := cN) (fun _ => rfl) rfl | exact rowsV_fam (fun _ => rfl) (by decide) ⟨rfl, rfl⟩ trivial | exact rowsV_fam (fun _ => rfl) (by decide) (fun _ _ => ⟨rfl, rfl⟩) trivial | (simp; done)))⟩
      · have hia : i + a = l.length := by omega
        rw [hia] at ha3 ⊢
        have hz : ((l.length : Int) - (keepL l l.length).length).toNat = l.length - (keepL l l.length).length := by omega
        have hcl := curN_len (K := keepL l l.length) (l := l) (by omega)
        have hclr : ((curN (keepL l l.length) l).map cN).take (keepL l l.length).length ++ List.replicate (l.length - (keepL l l.length).length) [AV.int .i64 0] ++ ((curN (keepL l l.length) l).map cN).drop ((keepL l l.length).length + (l.length - (keepL l l.length).length)) = (keepL l l.length ++ List.replicate (l.length - (keepL l l.length).length) 0).map cN := by
          rw [List.drop_of_length_le (by rw [List.length_map, hcl]; omega), List.append_nil, ← List.map_take, List.map_append, List.map_replicate]
          congr 2
          unfold curN
          rw [List.take_append_of_le_length (Nat.le_refl _), List.take_length]
        have hup : updF ll k (curN (keepL l l.length) l) k = curN (keepL l l.length) l := updF_same
        unfold ac_slices_Compact_int_int_k1
        (repeat (first | (simp (disch := (first | omega | (simp only [evF, evL, implies_true, and_self]; done) | fail)) only [evS, evZ, evK, evB, evL, evR, Nat.reduceBEq, Nat.reduceAdd, Nat.reduceLeDiff, boxR, rboxR, allocR, fldR, binI, unR, pickR, mknilR, mkslR, buildSlR, buildR, extR, convI, eqB, evU, wrap64, rs_slices_Compact_int_int, fi_get hk, hup, hz, hclr, hset2]) | (with_reducible intro _) | ((with_reducible apply And.intro); omega)))
        refine ⟨.own 0 (k + 1) (gs k) 0 (compactL l).length, [(0, .fam 1 (fi cN n (updF ll k (compactL l ++ List.replicate (l.length - (keepL l l.length).length) 0)) gs))], 1, ?_, _, rfl, rfl, rfl⟩
        exact (Ent.tabB [(0, 0, 0)] [] rfl rfl rfl (by (try simp only [evW, evK, evB, evL, Nat.reduceBEq, Nat.reduceAdd, Nat.reduceSub, Nat.reduceLeDiff, Nat.reduceLT, implies_true, and_self, Int.natCast_zero, Int.natCast_one, Int.cast_ofNat_Int, evV, encInts, encNats, encBools, encP, compactL]) <;> (repeat' with_reducible apply And.intro) <;> first | omega | exact vw_nats rfl rfl (by omega) | exact vw_ints rfl rfl (by omega) | exact vw_bools rfl rfl (by omega) | exact rowV_fe (fun _ => rfl) | exact rowV_fe_start (c := cN) (fun _ => rfl) rfl | exact rowsV_fam (fun _ => rfl) (by decide) ⟨rfl, rfl⟩ trivial | exact rowsV_fam (fun _ => rfl) (by decide) (fun _ _ => ⟨rfl, rfl⟩) trivial | (simp; done)) (by (try simp only [evW, evK, evB, evL, Nat.reduceBEq, Nat.reduceAdd, Nat.reduceSub, Nat.reduceLeDiff, Nat.reduceLT, implies_true, and_self, Int.natCast_zero, Int.natCast_one, Int.cast_ofNat_Int, evV, encInts, encNats, encBools, encP, compactL]) <;> (repeat' with_reducible apply And.intro) <;> first | omega | exact vw_nats rfl rfl (by omega) | exact vw_ints rfl rfl (by omega) | exact vw_bools rfl rfl (by omega) | exact rowV_fe (fun _ => rfl) | exact rowV_fe_start (c := cN) (fun _ => rfl) rfl | exact rowsV_fam (fun _ => rfl) (by decide) ⟨rfl, rfl⟩ trivial | exact rowsV_fam (fun _ => rfl) (by decide) (fun _ _ => ⟨rfl, rfl⟩) trivial | (simp; done)))
    · have hne : keepP l i = true := by rw [keepP_at hi1 hi']; simp; omega
      unfold ac_slices_Compact_int_int_k2
      (repeat (first | (simp (disch := (first | omega | (simp only [evF, evL, implies_true, and_self]; done) | fail)) only [evS, evZ, evK, evB, evL, evR, Nat.reduceBEq, Nat.reduceAdd, Nat.reduceLeDiff, boxR, rboxR, allocR, fldR, binI, unR, pickR, mknilR, mkslR, buildSlR, buildR, extR, convI, eqB, evU, wrap64]) | (with_reducible intro _) | ((with_reducible apply And.intro); omega)))
      refine ⟨i + 1, ⟨by omega, by omega, fun j hj => ?_⟩, by omega, (Ent.tabB [(0, 0, 0)] [] rfl rfl rfl (by (try simp only [evW, evK, evB, evL, Nat.reduceBEq, Nat.reduceAdd, Nat.reduceSub, Nat.reduceLeDiff, Nat.reduceLT, implies_true, and_self, Int.natCast_zero, Int.natCast_one, Int.cast_ofNat_Int, evV, encInts, encNats, encBools, encP]) <;> (repeat' with_reducible apply And.intro) <;> first | omega | exact vw_nats rfl rfl (by omega) | exact vw_ints rfl rfl (by omega) | exact vw_bools rfl rfl (by omega) | exact rowV_fe (fun _ => rfl) | exact rowV_fe_start (c := cN) (fun _ => rfl) rfl | exact rowsV_fam (fun _ => rfl) (by decide) ⟨rfl, rfl⟩ trivial | exact rowsV_fam (fun _ => rfl) (by decide) (fun _ _ => ⟨rfl, rfl⟩) trivial | (simp; done)) (by (try simp only [evW, evK, evB, evL, Nat.reduceBEq, Nat.reduceAdd, Nat.reduceSub, Nat.reduceLeDiff, Nat.reduceLT, implies_true, and_self, Int.natCast_zero, Int.natCast_one, Int.cast_ofNat_Int, evV, encInts, encNats, encBools, encP]) <;> (repeat' with_reducible apply And.intro) <;> first | omega | exact vw_nats rfl rfl (by omega) | exact vw_ints rfl rfl (by omega) | exact vw_bools rfl rfl (by omega) | exact rowV_fe (fun _ => rfl) | exact rowV_fe_start (c := cN) (fun _ => rfl) rfl | exact rowsV_fam (fun _ => rfl) (by decide) ⟨rfl, rfl⟩ trivial | exact rowsV_fam (fun _ => rfl) (by decide) (fun _ _ => ⟨rfl, rfl⟩) trivial | (simp; done)))⟩
      by_cases hji : j = i
      · subst hji; exact hne
      · exact hall j (by omega)
  · obtain rfl : i = l.length := by omega
    unfold ac_slices_Compact_int_int_k4
    have e := fin (4, .undef) 0 hall rfl rfl
    (repeat (first | (simp (disch := (first | omega | (simp only [evF, evL, implies_true, and_self]; done) | fail)) only [evS, evZ, evK, evB, evL, evR, Nat.reduceBEq, Nat.reduceAdd, Nat.reduceLeDiff, boxR, rboxR, allocR, fldR, binI, unR, pickR, mknilR, mkslR, buildSlR, buildR, extR, convI, eqB, evU, wrap64, rs_slices_Compact_int_int]) | (with_reducible intro _) | ((with_reducible apply And.intro); omega)))
    refine ⟨.own 0 (k + 1) (gs k) 0 l.length, [(0, .fam 1 (fi cN n (updF ll k (l ++ [])) gs))], 1, ?_, [], by rw [e], by rw [e], rfl⟩
    rw [List.append_nil, hsame]
    exact (Ent.tabB [(0, 0, 0)] [] rfl rfl rfl (by (try simp only [evW, evK, evB, evL, Nat.reduceBEq, Nat.reduceAdd, Nat.reduceSub, Nat.reduceLeDiff, Nat.reduceLT, implies_true, and_self, Int.natCast_zero, Int.natCast_one, Int.cast_ofNat_Int, evV, encInts, encNats, encBools, encP]) <;> (repeat' with_reducible apply And.intro) <;> first | omega | exact vw_nats rfl rfl (by omega) | exact vw_ints rfl rfl (by omega) | exact vw_bools rfl rfl (by omega) | exact rowV_fe (fun _ => rfl) | exact rowV_fe_start (c := cN) (fun _ => rfl) rfl | exact rowsV_fam (fun _ => rfl) (by decide) ⟨rfl, rfl⟩ trivial | exact rowsV_fam (fun _ => rfl) (by decide) (fun _ _ => ⟨rfl, rfl⟩) trivial | (simp; done)) (by (try simp only [evW, evK, evB, evL, Nat.reduceBEq, Nat.reduceAdd, Nat.reduceSub, Nat.reduceLeDiff, Nat.reduceLT, implies_true, and_self, Int.natCast_zero, Int.natCast_one, Int.cast_ofNat_Int, evV, encInts, encNats, encBools, encP]) <;> (repeat' with_reducible apply And.intro) <;> first | omega | exact vw_nats rfl rfl (by omega) | exact vw_ints rfl rfl (by omega) | exact vw_bools rfl rfl (by omega) | exact rowV_fe (fun _ => rfl) | exact rowV_fe_start (c := cN) (fun _ => rfl) rfl | exact rowsV_fam (fun _ => rfl) (by decide) ⟨rfl, rfl⟩ trivial | exact rowsV_fam (fun _ => rfl) (by decide) (fun _ _ => ⟨rfl, rfl⟩) trivial | (simp; done)))

end Go.Ab

namespace Go.Ab
open Go.RowKit Go.Proofs

/-- The slices: the i-th is the front of row i of family F. -/
def fe2 (F n : Nat) (lens gs : Nat → Nat) : List (List AV) := (List.range n).map fun i => [.own F (i + 1) (gs i) 0 (lens i)]
theorem fe2_len {F n : Nat} {lens gs : Nat → Nat} : (fe2 F n lens gs).length = n := by simp [fe2]
theorem fe2_get {F n k : Nat} {lens gs : Nat → Nat} (h : k < n) : (fe2 F n lens gs).getD k [] = [.own F (k + 1) (gs k) 0 (lens k)] := by
  simp [fe2, List.getD_eq_getElem?_getD, h]
theorem fe2_set {F n k m : Nat} {lens gs : Nat → Nat} : (fe2 F n lens gs).set k [.own F (k + 1) (gs k) 0 m] = fe2 F n (updF lens k m) gs := by
  unfold fe2
  rw [map_range_set]
  refine List.map_congr_left fun i hi => ?_
  unfold updF
  split
  · rename_i h; subst h; rfl
  · rfl

theorem rowV_fe2 {H HH : AH} {σ : Nat → Nat → Option (Nat × Nat × Nat)} {D : Nat → Nat → Prop} {F F' n : Nat} {lens gs : Nat → Nat} (h : ∀ i, σ F' (i + 1) = some (F, i + 1, 0)) : RowV H HH σ D (fe2 F n lens gs) (fe2 F' n lens gs) := by
  intro i c2 hi
  unfold fe2 at hi ⊢
  simp only [List.getElem?_map, Option.map_eq_some_iff] at hi ⊢
  obtain ⟨k, hk, rfl⟩ := hi
  refine ⟨_, ⟨k, hk, rfl⟩, rfl, fun j x y h1 h2 => ?_⟩
  cases j with
  | succ j => cases h1
  | zero =>
    cases h1
    cases h2
    exact .own _ _ _ 0 _ _ _ _ _ (h k) rfl

theorem fi_ren {ρ : Nat → Nat} {n : Nat} {ll : Nat → List Nat} {gs : Nat → Nat} : AObj.ren ρ (.fam 1 (fi cN n ll gs)) = .fam 1 (fi cN n ll gs) := by
  simp only [AObj.ren, fi, List.map_map, AObj.fam.injEq, true_and]
  refine List.map_congr_left fun i hi => ?_
  simp only [Function.comp, Prod.mk.injEq, and_true]
  rw [ren_rows (by intro c hc; obtain ⟨a, _, rfl⟩ := List.mem_map.1 hc; rfl)]

theorem fe_ren {α : Type} {ρ : Nat → Nat} {F n g : Nat} {ll : Nat → List α} {gs : Nat → Nat} : AObj.ren ρ (.row 1 (fe F n ll gs) g) = .row 1 (fe (ρ F) n ll gs) g := by
  simp only [AObj.ren, fe, List.map_map, AObj.row.injEq, and_true, true_and]
  refine List.map_congr_left fun i hi => ?_
  simp [AV.ren]

theorem vw_fam2 {H HH : AH} {σ : Nat → Nat → Option (Nat × Nat × Nat)} {D : Nat → Nat → Prop} {t : Bool} {F r g n q : Nat} {L rr : Nat → List Nat} {lens gs : Nat → Nat} (hD : D r q) (hg : H.get r q = some (.row 1 (fe2 F n lens gs) g)) (hb : n ≤ big) (hF : H.look F = some (.fam 1 (fi cN n rr gs)))
    (hDF : ∀ i, i < n → D F (i + 1)) (hbl : ∀ i, i < n → (L i).length ≤ big) (hl : ∀ i, i < n → lens i = (L i).length ∧ ∃ m, rr i = L i ++ m) : Vw H HH σ D t (.own r q g 0 n) (encNN ((List.range n).map L)) := by
  have e : encNN ((List.range n).map L) = .sl 1 n (fun i j => ((((List.range n).map L).map cNs).getD i []).getD j .undef) := by simp [encNN, encL]
  rw [e]
  refine .frz t r q g 0 n 1 (fe2 F n lens gs) _ hD hg hb (by rw [fe2_len]; omega) (fun i j hi hj => ?_)
  obtain rfl : j = 0 := by omega
  obtain ⟨h1, m, h2⟩ := hl i hi
  rw [Nat.zero_add, fe2_get hi, h1]
  simp only [List.getD_cons_zero, List.map_map, List.getD_eq_getElem?_getD, List.getElem?_map, List.getElem?_range hi, Option.map_some, Option.getD_some, Function.comp]
  show Vw H HH σ D false (.own F (i + 1) (gs i) 0 (L i).length) (.sl 1 (L i).length fun a b => (((L i).map cN).getD a []).getD b .undef)
  have hp := fi_part (c := cN) hF hi
  rw [h2] at hp
  refine .frz false F (i + 1) (gs i) 0 (L i).length 1 ((L i ++ m).map cN) _ (hDF i hi) hp (hbl i hi) (by simp) (fun a b ha hb => ?_)
  obtain rfl : b = 0 := by omega
  rw [Nat.zero_add, getD_map (show a < (L i ++ m).length by simp; omega), getD_map ha, List.getElem_append_left ha]
  exact .int _ _ _

theorem compactL_len {l : List Nat} : (compactL l).length ≤ l.length := keepL_len

theorem turnL_len (A : Adj) : (turnL A).length = A.length := by simp [turnL]

theorem Gr.E_small {g : Gr} (hg : g.small) : g.E.small := by
  refine ⟨by rw [g.E_len]; have := hg.1; omega, fun k => ?_⟩
  unfold suc Gr.E
  rw [List.getD_eq_getElem?_getD, List.getElem?_map]
  cases hb : g.blocks[k]? with
  | none => simp
  | some b =>
    simp only [Option.map_some, Option.getD_some, List.length_map]
    have h1 := List.length_filter_le (edgeOk g.blocks.length) b.targets
    have h2 := hg.2 b (List.mem_of_getElem? hb)
    omega

theorem dominator_Predecessors_ok0 (g : Gr) (hg : g.small) : PureFn Try.prog f_dominator_Predecessors [.agg g.cells] (· = encNN ((List.range g.E.length).map fun i => compactL (tLL g.E g.E.length i))) := by
  refine fn_x cf_dominator_Predecessors rfl ?_
  unfold ac_dominator_Predecessors
  have hB : big = 9223372036854775807 := rfl
  have hn := hg.1
  have hlen := g.E_len
  have hsm := Gr.E_small hg
  (repeat (first | (simp (disch := (first | omega | (simp only [evF, evL, implies_true, and_self]; done) | fail)) only [evS, evZ, evK, evB, evL, evR, Nat.reduceBEq, Nat.reduceAdd, Nat.reduceLeDiff, boxR, rboxR, allocR, fldR, binI, unR, pickR, mknilR, mkslR, buildSlR, buildR, extR, convI, eqB, evU, wrap64, Gr.cells, Gr.two]) | (with_reducible intro _) | ((with_reducible apply And.intro); omega)))
  refine callX_fix (call_flat (dominator_all_ok g hg) rfl) ?_
  (repeat (first | (simp (disch := (first | omega | (simp only [evF, evL, implies_true, and_self]; done) | fail)) only [evS, evZ, evK, evB, evL, evR, Nat.reduceBEq, Nat.reduceAdd, Nat.reduceLeDiff, boxR, rboxR, allocR, fldR, binI, unR, pickR, mknilR, mkslR, buildSlR, buildR, extR, convI, eqB, evU, wrap64]) | (with_reducible intro _) | ((with_reducible apply And.intro); omega)))
  refine call_own [] 0 _ (dominator_turned_ok g.E hsm g.E_ok) rfl rfl (by (try simp only [evW, evK, evB, evL, Nat.reduceBEq, Nat.reduceAdd, Nat.reduceSub, Nat.reduceLeDiff, Nat.reduceLT, implies_true, and_self, Int.natCast_zero, Int.natCast_one, Int.cast_ofNat_Int, evV, encInts, encNats, encBools, encP, encNN]) <;> (repeat' with_reducible apply And.intro) <;> first | omega | exact vw_nats rfl rfl (by omega) | exact vw_ints rfl rfl (by omega) | exact vw_bools rfl rfl (by omega) | exact rowV_fe (fun _ => rfl) | exact rowV_fe_start (c := cN) (fun _ => rfl) rfl | exact rowsV_fam (fun _ => rfl) (by decide) ⟨rfl, rfl⟩ trivial | exact rowsV_fam (fun _ => rfl) (by decide) (fun _ _ => ⟨rfl, rfl⟩) trivial | (simp; done)) (by (try simp only [evW, evK, evB, evL, Nat.reduceBEq, Nat.reduceAdd, Nat.reduceSub, Nat.reduceLeDiff, Nat.reduceLT, implies_true, and_self, Int.natCast_zero, Int.natCast_one, Int.cast_ofNat_Int, evV, encInts, encNats, encBools, encP, encNN]) <;> (repeat' with_reducible apply And.intro) <;> first | omega | exact vw_nats rfl rfl (by omega) | exact vw_ints rfl rfl (by omega) | exact vw_bools rfl rfl (by omega) | exact rowV_fe (fun _ => rfl) | exact rowV_fe_start (c := cN) (fun _ => rfl) rfl | exact rowsV_fam (fun _ => rfl) (by decide) ⟨rfl, rfl⟩ trivial | exact rowsV_fam (fun _ => rfl) (by decide) (fun _ _ => ⟨rfl, rfl⟩) trivial | (simp; done)) ?_
  rintro v H' nx' ⟨gs, rfl, rfl, rfl⟩
  have hT : ∀ i, (tLL g.E g.E.length i).length ≤ 2000000000 := fun i => Nat.le_trans (tLL_len hsm _ _) (by omega)
  generalize tLL g.E g.E.length = T at hT ⊢
  generalize g.E.length = n at hlen ⊢
  (repeat (first | (simp (disch := (first | omega | (simp only [evF, evL, implies_true, and_self]; done) | fail)) only [evS, evZ, evK, evB, evL, evR, Nat.reduceBEq, Nat.reduceAdd, Nat.reduceLeDiff, boxR, rboxR, allocR, fldR, binI, unR, pickR, mknilR, mkslR, buildSlR, buildR, extR, convI, eqB, evU, wrap64, fi_ren, fe_ren]) | (with_reducible intro _) | ((with_reducible apply And.intro); omega)))
  have hlens : ∀ (rr : Nat → List Nat), fe 1 n T gs = fe2 1 n (fun i => (T i).length) gs := fun _ => rfl
  refine loopX_intro (fun s : Nat × (Nat → List Nat) => ([(3, .own 0 0 0 0 n), (9, .int .i64 n), (10, .int .i64 s.1)], [(0, .row 1 (fe2 1 n (fun i => if i < s.1 then (compactL (T i)).length else (T i).length) gs) 0), (1, .fam 1 (fi cN n s.2 gs))])) 2
    (fun s => s.1 ≤ n ∧ (∀ i, i < s.1 → ∃ m, s.2 i = compactL (T i) ++ m) ∧ ∀ i, s.1 ≤ i → s.2 i = T i) (fun s => n - s.1) (0, T) ⟨Nat.zero_le _, fun i h => by simp at h, fun i _ => rfl⟩ (Ent.tab [(0, 1, 0), (1, 2, 0)] [] rfl ?_ ?_) ?_
  · simp only [evW, evK, evB, evL, Nat.reduceBEq, Nat.reduceAdd, Nat.reduceSub, Nat.reduceLeDiff, Nat.reduceLT, implies_true, and_self, Int.natCast_zero, Int.natCast_one, Int.cast_ofNat_Int, evV, encInts, encNats, encBools, encP, hlens, Nat.not_lt_zero, if_false]
    exact ⟨rowV_fe2 (F := 2) (fun _ => rfl), rowsV_fam (fun _ => rfl) (by decide) ⟨rfl, rfl⟩ trivial⟩
  · simp only [evW, evK, evB, evL, Nat.reduceBEq, Nat.reduceAdd, Nat.reduceSub, Nat.reduceLeDiff, Nat.reduceLT, implies_true, and_self, Int.natCast_zero, Int.natCast_one, Int.cast_ofNat_Int, evV, encInts, encNats, encBools, encP]
  rintro ⟨k, rr⟩ ⟨hk, h1, h2⟩ wf
  simp only at hk h1 h2
  unfold ac_dominator_Predecessors_l0
  (repeat (first | (simp (disch := (first | omega | (simp only [evF, evL, implies_true, and_self]; done) | fail)) only [evS, evZ, evK, evB, evL, evR, Nat.reduceBEq, Nat.reduceAdd, Nat.reduceLeDiff, boxR, rboxR, allocR, fldR, binI, unR, pickR, mknilR, mkslR, buildSlR, buildR, extR, convI, eqB, evU, wrap64]) | (with_reducible intro _) | ((with_reducible apply And.intro); omega)))
  (refine condX_intro (fun h => ?_) (fun h => ?_)) <;> (try simp only [decide_eq_true_eq, decide_eq_false_iff_not, Bool.not_eq_true', Bool.not_eq_false', Bool.and_eq_true, Bool.or_eq_true, not_true_eq_false, not_false_eq_true] at h)
  · have hk' : k < n := by omega
    have hrk := h2 k (Nat.le_refl _)
    have hle := hT k
    have hif : (if k < k then (compactL (T k)).length else (T k).length) = (rr k).length := by rw [if_neg (by omega), hrk]
    (repeat (first | (simp (disch := (first | omega | (simp only [evF, evL, implies_true, and_self]; done) | fail)) only [evS, evZ, evK, evB, evL, evR, Nat.reduceBEq, Nat.reduceAdd, Nat.reduceLeDiff, boxR, rboxR, allocR, fldR, binI, unR, pickR, mknilR, mkslR, buildSlR, buildR, extR, convI, eqB, evU, wrap64, fe2_len, fe2_get hk', hif]) | (with_reducible intro _) | ((with_reducible apply And.intro); omega)))
    refine call_own [(0, 1, 0)] 1 _ (slices_Compact_ok n k rr gs hk' (by rw [hrk]; omega)) rfl rfl (by exact rowsV_fam (fun _ => rfl) (by decide) ⟨rfl, rfl⟩ trivial) (by simp only [evW, evK, evB, evL, Nat.reduceBEq, Nat.reduceAdd, Nat.reduceSub, Nat.reduceLeDiff, Nat.reduceLT, implies_true, and_self, Int.natCast_zero, Int.natCast_one, Int.cast_ofNat_Int, evV, encInts, encNats, encBools, encP]) ?_
    rintro v H' nx' ⟨m, rfl, rfl, rfl⟩
    have hnew : updF (fun i => if i < k then (compactL (T i)).length else (T i).length) k (compactL (rr k)).length = fun i => if i < k + 1 then (compactL (T i)).length else (T i).length := by
      funext i
      unfold updF
      by_cases h3 : i = k
      · subst h3; rw [if_pos rfl, if_pos (by omega), hrk]
      · rw [if_neg h3]
        show (if i < k then (compactL (T i)).length else (T i).length) = _
        by_cases h4 : i < k
        · rw [if_pos h4, if_pos (by omega)]
        · rw [if_neg h4, if_neg (by omega)]
    (repeat (first | (simp (disch := (first | omega | (simp only [evF, evL, implies_true, and_self]; done) | fail)) only [evS, evZ, evK, evB, evL, evR, Nat.reduceBEq, Nat.reduceAdd, Nat.reduceLeDiff, boxR, rboxR, allocR, fldR, binI, unR, pickR, mknilR, mkslR, buildSlR, buildR, extR, convI, eqB, evU, wrap64, fi_ren, fe2_len, fe2_set, hnew]) | (with_reducible intro _) | ((with_reducible apply And.intro); omega)))
    refine ⟨(k + 1, updF rr k (compactL (rr k) ++ m)), ⟨by simp only; omega, fun i hi => ?_, fun i hi => ?_⟩, by simp only; omega, Ent.tab [(0, 0, 0), (1, 1, 0)] [] rfl ?_ ?_⟩
    · simp only at hi ⊢
      by_cases h3 : i = k
      · subst h3; rw [updF_same]; exact ⟨m, by rw [hrk]⟩
      · rw [updF_ne h3]; exact h1 i (by omega)
    · simp only at hi ⊢
      rw [updF_ne (by omega)]
      exact h2 i (by omega)
    · simp only [evW, evK, evB, evL, Nat.reduceBEq, Nat.reduceAdd, Nat.reduceSub, Nat.reduceLeDiff, Nat.reduceLT, implies_true, and_self, Int.natCast_zero, Int.natCast_one, Int.cast_ofNat_Int, evV, encInts, encNats, encBools, encP]
      exact ⟨rowV_fe2 (F := 1) (fun _ => rfl), rowsV_fam (fun _ => rfl) (by decide) ⟨rfl, rfl⟩ trivial⟩
    · simp only [evW, evK, evB, evL, Nat.reduceBEq, Nat.reduceAdd, Nat.reduceSub, Nat.reduceLeDiff, Nat.reduceLT, implies_true, and_self, Int.natCast_zero, Int.natCast_one, Int.cast_ofNat_Int, evV, encInts, encNats, encBools, encP]
  · obtain rfl : k = n := by omega
    unfold ac_dominator_Predecessors_k1
    (repeat (first | (simp (disch := (first | omega | (simp only [evF, evL, implies_true, and_self]; done) | fail)) only [evS, evZ, evK, evB, evL, evR, Nat.reduceBEq, Nat.reduceAdd, Nat.reduceLeDiff, boxR, rboxR, allocR, fldR, binI, unR, pickR, mknilR, mkslR, buildSlR, buildR, extR, convI, eqB, evU, wrap64, rs_dominator_Predecessors]) | (with_reducible intro _) | ((with_reducible apply And.intro); omega)))
    refine ⟨_, ?_, rfl⟩
    exact vw_fam2 trivial rfl (by omega) rfl (fun _ _ => trivial) (fun i _ => Nat.le_trans compactL_len (by have := hT i; omega)) (fun i hi => ⟨if_pos hi, h1 i hi⟩)

end Go.Ab

namespace Go.Ab
open Go.RowKit Go.Proofs

/-- Which nodes a list contains. -/
def inB (n : Nat) (l : List Nat) : List Bool := mapR (fun i => decide (i ∈ l)) n
theorem inB_len {n : Nat} {l : List Nat} : (inB n l).length = n := mapR_len
theorem inB_get {n i : Nat} {l : List Nat} (h : i < n) : ((inB n l).map cB).getD i [] = [.bool (decide (i ∈ l))] := by
  simp [inB, mapR, List.getD_eq_getElem?_getD, h]
theorem inB_set {n k : Nat} {l : List Nat} : ((inB n l).map cB).set k [.bool true] = (inB n (l ++ [k])).map cB := by
  unfold inB mapR
  rw [List.map_map, List.map_map, map_range_set]
  refine List.map_congr_left fun i hi => ?_
  unfold updF
  split
  · rename_i h; subst h; simp
  · rename_i h; simp [h]
theorem inB_nil {n : Nat} : (inB n []).map cB = List.replicate n [.bool false] := by
  unfold inB mapR
  rw [List.map_map]
  have : (cB ∘ fun i => decide (i ∈ ([] : List Nat))) = fun _ => [AV.bool false] := by funext i; simp
  rw [this, List.map_const', List.length_range]

def ordCaps (A : Adj) : List AV := [.ptr 1 0 0 0 0, .iptr 1 fun j => [encNN A].getD j .undef, .ptr 3 0 0 0 0, .ptr 2 0 0 0 0]
def ordH (A : Adj) (s : List Nat × List Nat) (g : Nat) : AH := [(0, .row 1 ((inB A.length s.1).map cB) 0), (1, .row 1 [[.own 0 0 0 0 A.length]] 0), (2, .row 1 [[.own 4 0 g 0 s.2.length]] 0),
  (3, .row 1 [[.fn (.func f_dominator_order_1) (ordCaps A)]] 0), (4, .row 1 (s.2.map cN) g)]

theorem dominator_order_1_ok (A : Adj) (hA : A.small) (hok : A.ok) : ∀ (f : Nat) (k g : Nat) (s : List Nat × List Nat) (m d : Nat), DfsI A.length m d s → k < A.length → k ∉ s.1 → A.length ≤ f + m →
    CallOk Try.prog f_dominator_order_1 ([.int .i64 k] ++ ordCaps A) (ordH A s g) 5 (fun v H nx => ∃ g', v = .tup [] ∧ H = ordH A (dfs A f k s) g' ∧ nx = 5)
  | 0, k, g, s, m, d, hs, hk, hn, hf => by
    have := (hs.nd.snoc hk hn).len
    have := hs.le
    simp at *
    omega
  | f + 1, k, g, s, m, d, hs, hk, hn, hf => by
    have ih := dominator_order_1_ok A hA hok f
    have hB : big = 9223372036854775807 := rfl
    have hsl := hs.nd.len
    have hsp := hs.post
    have hAl := hA.len
    refine call_ent (fn_x cf_dominator_order_1 rfl ?_)
    unfold ac_dominator_order_1
    have hE : ∀ c ∈ suc A k, c < A.length := hok k
    have hstart : DfsI A.length (m + 1) (d + 1) (s.1 ++ [k], s.2) := ⟨hs.nd.snoc hk hn, by have := hs.le; simp; omega, by simp; omega⟩
    have hdfs := dfs_succ A f k s
    have hrow := hA.row k
    rw [suc_get hk] at hE hdfs hrow
    (repeat (first | (simp (disch := (first | omega | (simp only [evF, evL, implies_true, and_self]; done) | fail)) only [evS, evZ, evK, evB, evL, evR, Nat.reduceBEq, Nat.reduceAdd, Nat.reduceLeDiff, boxR, rboxR, allocR, fldR, binI, unR, pickR, mknilR, mkslR, buildSlR, buildR, extR, convI, eqB, evU, wrap64, ordCaps, ordH, inB_len, encNN, encNats, getD_map hk, inB_set]) | (with_reducible intro _) | ((with_reducible apply And.intro); omega)))
    generalize hcs : A[k] = cs at hE hdfs hrow ⊢
    let S := fun i : Nat => (cs.take i).foldl (dfsStep A f) (s.1 ++ [k], s.2)
    refine loopX_intro (fun a : Nat × Nat => ([(0, .int .i64 k), (1, .ptr 1 0 0 0 0), (3, .ptr 3 0 0 0 0), (4, .ptr 2 0 0 0 0), (14, encNats cs), (15, .int .i64 cs.length), (16, .int .i64 a.1)], ordH A (S a.1) a.2)) 5
      (fun a => a.1 ≤ cs.length) (fun a => cs.length - a.1) (0, g) (Nat.zero_le _) (Ent.tabB [(0, 0, 0), (1, 1, 0), (2, 2, 0), (3, 3, 0), (4, 4, 0)] [] rfl rfl rfl (by (try simp only [evW, evK, evB, evL, Nat.reduceBEq, Nat.reduceAdd, Nat.reduceSub, Nat.reduceLeDiff, Nat.reduceLT, implies_true, and_self, Int.natCast_zero, Int.natCast_one, Int.cast_ofNat_Int, evV, encInts, encNats, encBools, encP, S, List.foldl_nil, ordH, ordCaps, encNN]) <;> (repeat' with_reducible apply And.intro) <;> first | omega | exact vw_nats rfl rfl (by omega) | exact vw_ints rfl rfl (by omega) | exact vw_bools rfl rfl (by omega) | exact rowV_fe (fun _ => rfl) | exact rowV_fe_start (c := cN) (fun _ => rfl) rfl | exact rowsV_fam (fun _ => rfl) (by decide) ⟨rfl, rfl⟩ trivial | exact rowsV_fam (fun _ => rfl) (by decide) (fun _ _ => ⟨rfl, rfl⟩) trivial | (simp; done)) (by (try simp only [evW, evK, evB, evL, Nat.reduceBEq, Nat.reduceAdd, Nat.reduceSub, Nat.reduceLeDiff, Nat.reduceLT, implies_true, and_self, Int.natCast_zero, Int.natCast_one, Int.cast_ofNat_Int, evV, encInts, encNats, encBools, encP, S, List.foldl_nil, ordH, ordCaps, encNN]) <;> (repeat' with_reducible apply And.intro) <;> first | omega | exact vw_nats rfl rfl (by omega) | exact vw_ints rfl rfl (by omega) | exact vw_bools rfl rfl (by omega) | exact rowV_fe (fun _ => rfl) | exact rowV_fe_start (c := cN) (fun _ => rfl) rfl | exact rowsV_fam (fun _ => rfl) (by decide) ⟨rfl, rfl⟩ trivial | exact rowsV_fam (fun _ => rfl) (by decide) (fun _ _ => ⟨rfl, rfl⟩) trivial | (simp; done))) ?_
    rintro ⟨i, a0⟩ hi wf
    simp only at hi
    unfold ac_dominator_order_1_l0
    (repeat (first | (simp (disch := (first | omega | (simp only [evF, evL, implies_true, and_self]; done) | fail)) only [evS, evZ, evK, evB, evL, evR, Nat.reduceBEq, Nat.reduceAdd, Nat.reduceLeDiff, boxR, rboxR, allocR, fldR, binI, unR, pickR, mknilR, mkslR, buildSlR, buildR, extR, convI, eqB, evU, wrap64, ordH, encNats]) | (with_reducible intro _) | ((with_reducible apply And.intro); omega)))
    have hS : DfsI A.length (m + 1) (d + 1) (S i) := dfsFold_inv (dfs_inv hok f (m + 1) (d + 1)) (cs.take i) _ (fun c hc => hE c (List.mem_of_mem_take hc)) hstart
    have hSl := hS.nd.len
    (refine condX_intro (fun h => ?_) (fun h => ?_)) <;> (try simp only [decide_eq_true_eq, decide_eq_false_iff_not, Bool.not_eq_true', Bool.not_eq_false', Bool.and_eq_true, Bool.or_eq_true, not_true_eq_false, not_false_eq_true] at h)
    · have hi' : i < cs.length := by omega
      have hst : S (i + 1) = dfsStep A f (S i) cs[i] := foldl_take_succ hi'
      have hc := hE cs[i] (List.getElem_mem hi')
      generalize S i = s1 at hS hSl hst ⊢
      (repeat (first | (simp (disch := (first | omega | (simp only [evF, evL, implies_true, and_self]; done) | fail)) only [evS, evZ, evK, evB, evL, evR, Nat.reduceBEq, Nat.reduceAdd, Nat.reduceLeDiff, boxR, rboxR, allocR, fldR, binI, unR, pickR, mknilR, mkslR, buildSlR, buildR, extR, convI, eqB, evU, wrap64, getD_map hi']) | (with_reducible intro _) | ((with_reducible apply And.intro); omega)))
      generalize cs[i] = c at hst hc ⊢
      (repeat (first | (simp (disch := (first | omega | (simp only [evF, evL, implies_true, and_self]; done) | fail)) only [evS, evZ, evK, evB, evL, evR, Nat.reduceBEq, Nat.reduceAdd, Nat.reduceLeDiff, boxR, rboxR, allocR, fldR, binI, unR, pickR, mknilR, mkslR, buildSlR, buildR, extR, convI, eqB, evU, wrap64, inB_len, inB_get hc]) | (with_reducible intro _) | ((with_reducible apply And.intro); omega)))
      (refine condX_intro (fun h2 => ?_) (fun h2 => ?_)) <;> (try simp only [decide_eq_true_eq, decide_eq_false_iff_not, Bool.not_eq_true', Bool.not_eq_false', Bool.and_eq_true, Bool.or_eq_true, not_true_eq_false, not_false_eq_true] at h2)
      · have e : dfsStep A f s1 c = dfs A f c s1 := by unfold dfsStep; rw [if_neg h2]
        rw [e] at hst
        (repeat (first | (simp (disch := (first | omega | (simp only [evF, evL, implies_true, and_self]; done) | fail)) only [evS, evZ, evK, evB, evL, evR, Nat.reduceBEq, Nat.reduceAdd, Nat.reduceLeDiff, boxR, rboxR, allocR, fldR, binI, unR, pickR, mknilR, mkslR, buildSlR, buildR, extR, convI, eqB, evU, wrap64, ordCaps]) | (with_reducible intro _) | ((with_reducible apply And.intro); omega)))
        refine ⟨by kernel_rfl, ?_⟩
        refine call_own [(0, 0, 0), (1, 1, 0), (2, 2, 0), (3, 3, 0), (4, 4, 0)] 5 _ (ih c a0 s1 (m + 1) (d + 1) hS hc h2 (by omega)) rfl rfl (by (try simp only [evW, evK, evB, evL, Nat.reduceBEq, Nat.reduceAdd, Nat.reduceSub, Nat.reduceLeDiff, Nat.reduceLT, implies_true, and_self, Int.natCast_zero, Int.natCast_one, Int.cast_ofNat_Int, evV, encInts, encNats, encBools, encP, ordH, ordCaps]) <;> (repeat' with_reducible apply And.intro) <;> first | omega | exact vw_nats rfl rfl (by omega) | exact vw_ints rfl rfl (by omega) | exact vw_bools rfl rfl (by omega) | exact rowV_fe (fun _ => rfl) | exact rowV_fe_start (c := cN) (fun _ => rfl) rfl | exact rowsV_fam (fun _ => rfl) (by decide) ⟨rfl, rfl⟩ trivial | exact rowsV_fam (fun _ => rfl) (by decide) (fun _ _ => ⟨rfl, rfl⟩) trivial | (simp; done)) (by (try simp only [evW, evK, evB, evL, Nat.reduceBEq, Nat.reduceAdd, Nat.reduceSub, Nat.reduceLeDiff, Nat.reduceLT, implies_true, and_self, Int.natCast_zero, Int.natCast_one, Int.cast_ofNat_Int, evV, encInts, encNats, encBools, encP, ordH, ordCaps]) <;> (repeat' with_reducible apply And.intro) <;> first | omega | exact vw_nats rfl rfl (by omega) | exact vw_ints rfl rfl (by omega) | exact vw_bools rfl rfl (by omega) | exact rowV_fe (fun _ => rfl) | exact rowV_fe_start (c := cN) (fun _ => rfl) rfl | exact rowsV_fam (fun _ => rfl) (by decide) ⟨rfl, rfl⟩ trivial | exact rowsV_fam (fun _ => rfl) (by decide) (fun _ _ => ⟨rfl, rfl⟩) trivial | (simp; done)) ?_
        rintro v H' nx' ⟨g', rfl, rfl, rfl⟩
        (repeat (first | (simp (disch := (first | omega | (simp only [evF, evL, implies_true, and_self]; done) | fail)) only [evS, evZ, evK, evB, evL, evR, Nat.reduceBEq, Nat.reduceAdd, Nat.reduceLeDiff, boxR, rboxR, allocR, fldR, binI, unR, pickR, mknilR, mkslR, buildSlR, buildR, extR, convI, eqB, evU, wrap64, ordH, ordCaps]) | (with_reducible intro _) | ((with_reducible apply And.intro); omega)))
        exact ⟨(i + 1, g'), by simp only; omega, by simp only; omega, (Ent.tabB [(0, 0, 0), (1, 1, 0), (2, 2, 0), (3, 3, 0), (4, 4, 0)] [] rfl rfl rfl (by (try simp only [evW, evK, evB, evL, Nat.reduceBEq, Nat.reduceAdd, Nat.reduceSub, Nat.reduceLeDiff, Nat.reduceLT, implies_true, and_self, Int.natCast_zero, Int.natCast_one, Int.cast_ofNat_Int, evV, encInts, encNats, encBools, encP, hst, ordH, ordCaps]) <;> (repeat' with_reducible apply And.intro) <;> first | omega | exact vw_nats rfl rfl (by omega) | exact vw_ints rfl rfl (by omega) | exact vw_bools rfl rfl (by omega) | exact rowV_fe (fun _ => rfl) | exact rowV_fe_start (c := cN) (fun _ => rfl) rfl | exact rowsV_fam (fun _ => rfl) (by decide) ⟨rfl, rfl⟩ trivial | exact rowsV_fam (fun _ => rfl) (by decide) (fun _ _ => ⟨rfl, rfl⟩) trivial | (simp; done)) (by (try simp only [evW, evK, evB, evL, Nat.reduceBEq, Nat.reduceAdd, Nat.reduceSub, Nat.reduceLeDiff, Nat.reduceLT, implies_true, and_self, Int.natCast_zero, Int.natCast_one, Int.cast_ofNat_Int, evV, encInts, encNats, encBools, encP, hst, ordH, ordCaps]) <;> (repeat' with_reducible apply And.intro) <;> first | omega | exact vw_nats rfl rfl (by omega) | exact vw_ints rfl rfl (by omega) | exact vw_bools rfl rfl (by omega) | exact rowV_fe (fun _ => rfl) | exact rowV_fe_start (c := cN) (fun _ => rfl) rfl | exact rowsV_fam (fun _ => rfl) (by decide) ⟨rfl, rfl⟩ trivial | exact rowsV_fam (fun _ => rfl) (by decide) (fun _ _ => ⟨rfl, rfl⟩) trivial | (simp; done)))⟩
      · have e : dfsStep A f s1 c = s1 := by unfold dfsStep; rw [if_pos h2]
        rw [e] at hst
        (repeat (first | (simp (disch := (first | omega | (simp only [evF, evL, implies_true, and_self]; done) | fail)) only [evS, evZ, evK, evB, evL, evR, Nat.reduceBEq, Nat.reduceAdd, Nat.reduceLeDiff, boxR, rboxR, allocR, fldR, binI, unR, pickR, mknilR, mkslR, buildSlR, buildR, extR, convI, eqB, evU, wrap64]) | (with_reducible intro _) | ((with_reducible apply And.intro); omega)))
        exact ⟨(i + 1, a0), by simp only; omega, by simp only; omega, (Ent.tabB [(0, 0, 0), (1, 1, 0), (2, 2, 0), (3, 3, 0), (4, 4, 0)] [] rfl rfl rfl (by (try simp only [evW, evK, evB, evL, Nat.reduceBEq, Nat.reduceAdd, Nat.reduceSub, Nat.reduceLeDiff, Nat.reduceLT, implies_true, and_self, Int.natCast_zero, Int.natCast_one, Int.cast_ofNat_Int, evV, encInts, encNats, encBools, encP, hst, ordH, ordCaps]) <;> (repeat' with_reducible apply And.intro) <;> first | omega | exact vw_nats rfl rfl (by omega) | exact vw_ints rfl rfl (by omega) | exact vw_bools rfl rfl (by omega) | exact rowV_fe (fun _ => rfl) | exact rowV_fe_start (c := cN) (fun _ => rfl) rfl | exact rowsV_fam (fun _ => rfl) (by decide) ⟨rfl, rfl⟩ trivial | exact rowsV_fam (fun _ => rfl) (by decide) (fun _ _ => ⟨rfl, rfl⟩) trivial | (simp; done)) (by (try simp only [evW, evK, evB, evL, Nat.reduceBEq, Nat.reduceAdd, Nat.reduceSub, Nat.reduceLeDiff, Nat.reduceLT, implies_true, and_self, Int.natCast_zero, Int.natCast_one, Int.cast_ofNat_Int, evV, encInts, encNats, encBools, encP, hst, ordH, ordCaps]) <;> (repeat' with_reducible apply And.intro) <;> first | omega | exact vw_nats rfl rfl (by omega) | exact vw_ints rfl rfl (by omega) | exact vw_bools rfl rfl (by omega) | exact rowV_fe (fun _ => rfl) | exact rowV_fe_start (c := cN) (fun _ => rfl) rfl | exact rowsV_fam (fun _ => rfl) (by decide) ⟨rfl, rfl⟩ trivial | exact rowsV_fam (fun _ => rfl) (by decide) (fun _ _ => ⟨rfl, rfl⟩) trivial | (simp; done)))⟩
    · unfold ac_dominator_order_1_k1
      have hi' : cs.length ≤ i := by omega
      have hSe : S i = cs.foldl (dfsStep A f) (s.1 ++ [k], s.2) := by simp only [S]; rw [List.take_of_length_le hi']
      have := hS.post
      (repeat (first | (simp (disch := (first | omega | (simp only [evF, evL, implies_true, and_self]; done) | fail)) only [evS, evZ, evK, evB, evL, evR, Nat.reduceBEq, Nat.reduceAdd, Nat.reduceLeDiff, boxR, rboxR, allocR, fldR, binI, unR, pickR, mknilR, mkslR, buildSlR, buildR, extR, convI, eqB, evU, wrap64, rs_dominator_order_1]) | (with_reducible intro _) | ((with_reducible apply And.intro); omega)))
      refine ⟨.tup [], ordH A (dfs A (f + 1) k s) (a0 + 1), 5, ?_, a0 + 1, rfl, rfl, rfl⟩
      rw [hSe, hdfs]
      exact (Ent.tabB [(0, 0, 0), (1, 1, 0), (2, 2, 0), (3, 3, 0), (4, 4, 0)] [] rfl rfl rfl (by (try simp only [evW, evK, evB, evL, Nat.reduceBEq, Nat.reduceAdd, Nat.reduceSub, Nat.reduceLeDiff, Nat.reduceLT, implies_true, and_self, Int.natCast_zero, Int.natCast_one, Int.cast_ofNat_Int, evV, encInts, encNats, encBools, encP, ordH, ordCaps]) <;> (repeat' with_reducible apply And.intro) <;> first | omega | exact vw_nats rfl rfl (by omega) | exact vw_ints rfl rfl (by omega) | exact vw_bools rfl rfl (by omega) | exact rowV_fe (fun _ => rfl) | exact rowV_fe_start (c := cN) (fun _ => rfl) rfl | exact rowsV_fam (fun _ => rfl) (by decide) ⟨rfl, rfl⟩ trivial | exact rowsV_fam (fun _ => rfl) (by decide) (fun _ _ => ⟨rfl, rfl⟩) trivial | (simp; done)) (by (try simp only [evW, evK, evB, evL, Nat.reduceBEq, Nat.reduceAdd, Nat.reduceSub, Nat.reduceLeDiff, Nat.reduceLT, implies_true, and_self, Int.natCast_zero, Int.natCast_one, Int.cast_ofNat_Int, evV, encInts, encNats, encBools, encP, ordH, ordCaps]) <;> (repeat' with_reducible apply And.intro) <;> first | omega | exact vw_nats rfl rfl (by omega) | exact vw_ints rfl rfl (by omega) | exact vw_bools rfl rfl (by omega) | exact rowV_fe (fun _ => rfl) | exact rowV_fe_start (c := cN) (fun _ => rfl) rfl | exact rowsV_fam (fun _ => rfl) (by decide) ⟨rfl, rfl⟩ trivial | exact rowsV_fam (fun _ => rfl) (by decide) (fun _ _ => ⟨rfl, rfl⟩) trivial | (simp; done)))

/-- The row of a list that is turned round from both ends. -/
def revP (l : List Nat) (i x : Nat) : Nat := if x < i ∨ l.length - i ≤ x then l.getD (l.length - 1 - x) 0 else l.getD x 0
def revL (l : List Nat) (i : Nat) : List Nat := (List.range l.length).map (revP l i)
theorem revL_len {l : List Nat} {i : Nat} : (revL l i).length = l.length := by simp [revL]
theorem revL_zero {l : List Nat} : revL l 0 = l := by
  apply List.ext_getElem?
  intro x
  unfold revL revP
  by_cases hx : x < l.length
  · have : ¬ l.length ≤ x := by omega
    simp [hx, List.getD_eq_getElem?_getD, this]
  · simp [hx]
theorem revL_end {l : List Nat} {i : Nat} (h : l.length ≤ 2 * i + 1) : revL l i = l.reverse := by
  apply List.ext_getElem?
  intro x
  unfold revL revP
  by_cases hx : x < l.length
  · rw [List.getElem?_reverse hx]
    simp only [List.getElem?_map, List.getElem?_range hx, Option.map_some]
    by_cases hc : x < i ∨ l.length - i ≤ x
    · rw [if_pos hc]
      rw [List.getD_eq_getElem?_getD, List.getElem?_eq_getElem (show l.length - 1 - x < l.length by omega)]
      rfl
    · rw [if_neg hc, show l.length - 1 - x = x by omega, List.getD_eq_getElem?_getD, List.getElem?_eq_getElem hx]
      rfl
  · simp [hx]
theorem revL_get {l : List Nat} {i x : Nat} (hx : x < l.length) : ((revL l i).map cN).getD x [] = [.int .i64 (revP l i x : Int)] := by
  simp [revL, List.getD_eq_getElem?_getD, hx]
theorem revL_swap {l : List Nat} {i : Nat} (h : 2 * i + 1 < l.length) :
    (((revL l i).map cN).set i [.int .i64 (revP l i (l.length - 1 - i) : Int)]).set (l.length - 1 - i) [.int .i64 (revP l i i : Int)] = (revL l (i + 1)).map cN := by
  unfold revL
  rw [List.map_map, List.map_map, map_range_set, map_range_set]
  refine List.map_congr_left fun x hx => ?_
  have hx' := List.mem_range.1 hx
  unfold updF
  simp only [Function.comp]
  by_cases h1 : x = l.length - 1 - i
  · rw [if_pos h1]
    unfold revP
    rw [if_neg (by omega), if_pos (by omega), show l.length - 1 - x = i by omega]
  · rw [if_neg h1]
    by_cases h2 : x = i
    · rw [if_pos h2]
      unfold revP
      rw [if_neg (by omega), if_pos (by omega), h2]
    · rw [if_neg h2]
      unfold revP
      by_cases h3 : x < i ∨ l.length - i ≤ x
      · rw [if_pos h3, if_pos (by omega)]
      · rw [if_neg h3, if_neg (by omega)]

theorem slices_Reverse_ok (l : List Nat) (g : Nat) (hl : l.length ≤ 1000000) : CallOk Try.prog f_slices_Reverse_int_int [.own 0 0 g 0 l.length] [(0, .row 1 (l.map cN) g)] 1
    (fun v H nx => v = .tup [] ∧ H = [(0, .row 1 (l.reverse.map cN) g)] ∧ nx = 1) := by
  refine call_ent (fn_x cf_slices_Reverse_int_int rfl ?_)
  unfold ac_slices_Reverse_int_int
  have hB : big = 9223372036854775807 := rfl
  (repeat (first | (simp (disch := (first | omega | (simp only [evF, evL, implies_true, and_self]; done) | fail)) only [evS, evZ, evK, evB, evL, evR, Nat.reduceBEq, Nat.reduceAdd, Nat.reduceLeDiff, boxR, rboxR, allocR, fldR, binI, unR, pickR, mknilR, mkslR, buildSlR, buildR, extR, convI, eqB, evU, wrap64]) | (with_reducible intro _) | ((with_reducible apply And.intro); omega)))
  refine loopX_intro (fun i : Nat => ([(0, .own 0 0 g 0 l.length), (2, .int .i64 i), (3, .int .i64 ((l.length : Int) - 1 - i))], [(0, .row 1 ((revL l i).map cN) g)])) 1 (fun i => 2 * i ≤ l.length + 1) (fun i => l.length + 1 - i) 0 (by omega) (Ent.tabB [(0, 0, 0)] [] rfl rfl rfl (by (try simp only [evW, evK, evB, evL, Nat.reduceBEq, Nat.reduceAdd, Nat.reduceSub, Nat.reduceLeDiff, Nat.reduceLT, implies_true, and_self, Int.natCast_zero, Int.natCast_one, Int.cast_ofNat_Int, evV, encInts, encNats, encBools, encP, revL_zero]) <;> (repeat' with_reducible apply And.intro) <;> first | omega | exact vw_nats rfl rfl (by omega) | exact vw_ints rfl rfl (by omega) | exact vw_bools rfl rfl (by omega) | exact rowV_fe (fun _ => rfl) | exact rowV_fe_start (c := cN) (fun _ => rfl) rfl | exact rowsV_fam (fun _ => rfl) (by decide) ⟨rfl, rfl⟩ trivial | exact rowsV_fam (fun _ => rfl) (by decide) (fun _ _ => ⟨rfl, rfl⟩) trivial | (simp; done)) (by (try simp only [evW, evK, evB, evL, Nat.reduceBEq, Nat.reduceAdd, Nat.reduceSub, Nat.reduceLeDiff, Nat.reduceLT, implies_true, and_self, Int.natCast_zero, Int.natCast_one, Int.cast_ofNat_Int, evV, encInts, encNats, encBools, encP, revL_zero]) <;> (repeat' with_reducible apply And.intro) <;> first | omega | exact vw_nats rfl rfl (by omega) | exact vw_ints rfl rfl (by omega) | exact vw_bools rfl rfl (by omega) | exact rowV_fe (fun _ => rfl) | exact rowV_fe_start (c := cN) (fun _ => rfl) rfl | exact rowsV_fam (fun _ => rfl) (by decide) ⟨rfl, rfl⟩ trivial | exact rowsV_fam (fun _ => rfl) (by decide) (fun _ _ => ⟨rfl, rfl⟩) trivial | (simp; done))) ?_
  intro i hi wf
  unfold ac_slices_Reverse_int_int_l0
  (repeat (first | (simp (disch := (first | omega | (simp only [evF, evL, implies_true, and_self]; done) | fail)) only [evS, evZ, evK, evB, evL, evR, Nat.reduceBEq, Nat.reduceAdd, Nat.reduceLeDiff, boxR, rboxR, allocR, fldR, binI, unR, pickR, mknilR, mkslR, buildSlR, buildR, extR, convI, eqB, evU, wrap64]) | (with_reducible intro _) | ((with_reducible apply And.intro); omega)))
  (refine condX_intro (fun h => ?_) (fun h => ?_)) <;> (try simp only [decide_eq_true_eq, decide_eq_false_iff_not, Bool.not_eq_true', Bool.not_eq_false', Bool.and_eq_true, Bool.or_eq_true, not_true_eq_false, not_false_eq_true] at h)
  · have e : ((l.length : Int) - 1 - i).toNat = l.length - 1 - i := by omega
    (repeat (first | (simp (disch := (first | omega | (simp only [evF, evL, implies_true, and_self]; done) | fail)) only [evS, evZ, evK, evB, evL, evR, Nat.reduceBEq, Nat.reduceAdd, Nat.reduceLeDiff, boxR, rboxR, allocR, fldR, binI, unR, pickR, mknilR, mkslR, buildSlR, buildR, extR, convI, eqB, evU, wrap64, e, revL_len, revL_get (l := l) (i := i) (show l.length - 1 - i < l.length by omega), revL_get (l := l) (i := i) (show i < l.length by omega), List.length_set]) | (with_reducible intro _) | ((with_reducible apply And.intro); omega)))
    rw [revL_swap (by omega)]
    exact ⟨i + 1, by omega, by omega, (Ent.tabB [(0, 0, 0)] [] rfl rfl rfl (by (try simp only [evW, evK, evB, evL, Nat.reduceBEq, Nat.reduceAdd, Nat.reduceSub, Nat.reduceLeDiff, Nat.reduceLT, implies_true, and_self, Int.natCast_zero, Int.natCast_one, Int.cast_ofNat_Int, evV, encInts, encNats, encBools, encP]) <;> (repeat' with_reducible apply And.intro) <;> first | omega | exact vw_nats rfl rfl (by omega) | exact vw_ints rfl rfl (by omega) | exact vw_bools rfl rfl (by omega) | exact rowV_fe (fun _ => rfl) | exact rowV_fe_start (c := cN) (fun _ => rfl) rfl | exact rowsV_fam (fun _ => rfl) (by decide) ⟨rfl, rfl⟩ trivial | exact rowsV_fam (fun _ => rfl) (by decide) (fun _ _ => ⟨rfl, rfl⟩) trivial | (simp; done)) (by (try simp only [evW, evK, evB, evL, Nat.reduceBEq, Nat.reduceAdd, Nat.reduceSub, Nat.reduceLeDiff, Nat.reduceLT, implies_true, and_self, Int.natCast_zero, Int.natCast_one, Int.cast_ofNat_Int, evV, encInts, encNats, encBools, encP]) <;> (repeat' with_reducible apply And.intro) <;> first | omega | exact vw_nats rfl rfl (by omega) | exact vw_ints rfl rfl (by omega) | exact vw_bools rfl rfl (by omega) | exact rowV_fe (fun _ => rfl) | exact rowV_fe_start (c := cN) (fun _ => rfl) rfl | exact rowsV_fam (fun _ => rfl) (by decide) ⟨rfl, rfl⟩ trivial | exact rowsV_fam (fun _ => rfl) (by decide) (fun _ _ => ⟨rfl, rfl⟩) trivial | (simp; done)))⟩
  · (repeat (first | (simp (disch := (first | omega | (simp only [evF, evL, implies_true, and_self]; done) | fail)) only [evS, evZ, evK, evB, evL, evR, Nat.reduceBEq, Nat.reduceAdd, Nat.reduceLeDiff, boxR, rboxR, allocR, fldR, binI, unR, pickR, mknilR, mkslR, buildSlR, buildR, extR, convI, eqB, evU, wrap64, rs_slices_Reverse_int_int]) | (with_reducible intro _) | ((with_reducible apply And.intro); omega)))
    refine ⟨.tup [], [(0, .row 1 (l.reverse.map cN) g)], 1, ?_, rfl, rfl, rfl⟩
    rw [revL_end (by omega)]
    exact (Ent.tabB [(0, 0, 0)] [] rfl rfl rfl (by (try simp only [evW, evK, evB, evL, Nat.reduceBEq, Nat.reduceAdd, Nat.reduceSub, Nat.reduceLeDiff, Nat.reduceLT, implies_true, and_self, Int.natCast_zero, Int.natCast_one, Int.cast_ofNat_Int, evV, encInts, encNats, encBools, encP]) <;> (repeat' with_reducible apply And.intro) <;> first | omega | exact vw_nats rfl rfl (by omega) | exact vw_ints rfl rfl (by omega) | exact vw_bools rfl rfl (by omega) | exact rowV_fe (fun _ => rfl) | exact rowV_fe_start (c := cN) (fun _ => rfl) rfl | exact rowsV_fam (fun _ => rfl) (by decide) ⟨rfl, rfl⟩ trivial | exact rowsV_fam (fun _ => rfl) (by decide) (fun _ _ => ⟨rfl, rfl⟩) trivial | (simp; done)) (by (try simp only [evW, evK, evB, evL, Nat.reduceBEq, Nat.reduceAdd, Nat.reduceSub, Nat.reduceLeDiff, Nat.reduceLT, implies_true, and_self, Int.natCast_zero, Int.natCast_one, Int.cast_ofNat_Int, evV, encInts, encNats, encBools, encP]) <;> (repeat' with_reducible apply And.intro) <;> first | omega | exact vw_nats rfl rfl (by omega) | exact vw_ints rfl rfl (by omega) | exact vw_bools rfl rfl (by omega) | exact rowV_fe (fun _ => rfl) | exact rowV_fe_start (c := cN) (fun _ => rfl) rfl | exact rowsV_fam (fun _ => rfl) (by decide) ⟨rfl, rfl⟩ trivial | exact rowsV_fam (fun _ => rfl) (by decide) (fun _ _ => ⟨rfl, rfl⟩) trivial | (simp; done)))

/-- The nodes that a search from a root reaches, the last that is left first. -/
def ordL (A : Adj) (r : Nat) : List Nat := (dfs A A.length r ([], [])).2.reverse

theorem dfs_top {A : Adj} (hok : A.ok) {r : Nat} (hr : r < A.length) : DfsI A.length 0 0 (dfs A A.length r ([], [])) :=
  dfs_inv hok A.length 0 0 r _ ⟨⟨by simp, by simp⟩, by simp, by simp⟩ hr (by simp)

theorem dominator_order_ok (A : Adj) (hA : A.small) (hok : A.ok) (r : Nat) (hr : r < A.length) : PureFn Try.prog f_dominator_order [encNN A, .int .i64 r] (· = encNats (ordL A r)) := by
  refine fn_x cf_dominator_order rfl ?_
  unfold ac_dominator_order
  have hB : big = 9223372036854775807 := rfl
  have hn := hA.len
  have hd := dfs_top hok hr
  have hdl := hd.nd.len
  have hdp := hd.post
  have h0 : DfsI A.length 0 0 ([], []) := ⟨⟨by simp, by simp⟩, by simp, by simp⟩
  (repeat (first | (simp (disch := (first | omega | (simp only [evF, evL, implies_true, and_self]; done) | fail)) only [evS, evZ, evK, evB, evL, evR, Nat.reduceBEq, Nat.reduceAdd, Nat.reduceLeDiff, boxR, rboxR, allocR, fldR, binI, unR, pickR, mknilR, mkslR, buildSlR, buildR, extR, convI, eqB, evU, wrap64, encNN]) | (with_reducible intro _) | ((with_reducible apply And.intro); omega)))
  (refine condX_intro (fun h => ?_) (fun h => ?_)) <;> (try simp only [decide_eq_true_eq, decide_eq_false_iff_not, Bool.not_eq_true', Bool.not_eq_false', Bool.and_eq_true, Bool.or_eq_true, not_true_eq_false, not_false_eq_true] at h)
  · omega
  (repeat (first | (simp (disch := (first | omega | (simp only [evF, evL, implies_true, and_self]; done) | fail)) only [evS, evZ, evK, evB, evL, evR, Nat.reduceBEq, Nat.reduceAdd, Nat.reduceLeDiff, boxR, rboxR, allocR, fldR, binI, unR, pickR, mknilR, mkslR, buildSlR, buildR, extR, convI, eqB, evU, wrap64]) | (with_reducible intro _) | ((with_reducible apply And.intro); omega)))
  refine ⟨by kernel_rfl, ?_⟩
  refine call_own [(0, 1, 0), (1, 2, 0), (2, 3, 0), (3, 4, 0)] 5 _ (dominator_order_1_ok A hA hok A.length r 0 ([], []) 0 0 h0 hr (by simp) (by omega)) rfl rfl (by (try simp only [evW, evK, evB, evL, Nat.reduceBEq, Nat.reduceAdd, Nat.reduceSub, Nat.reduceLeDiff, Nat.reduceLT, implies_true, and_self, Int.natCast_zero, Int.natCast_one, Int.cast_ofNat_Int, evV, encInts, encNats, encBools, encP, ordH, ordCaps, inB_nil, encNN]) <;> (repeat' with_reducible apply And.intro) <;> first | omega | exact vw_nats rfl rfl (by omega) | exact vw_ints rfl rfl (by omega) | exact vw_bools rfl rfl (by omega) | exact rowV_fe (fun _ => rfl) | exact rowV_fe_start (c := cN) (fun _ => rfl) rfl | exact rowsV_fam (fun _ => rfl) (by decide) ⟨rfl, rfl⟩ trivial | exact rowsV_fam (fun _ => rfl) (by decide) (fun _ _ => ⟨rfl, rfl⟩) trivial | (simp; done)) (by (try simp only [evW, evK, evB, evL, Nat.reduceBEq, Nat.reduceAdd, Nat.reduceSub, Nat.reduceLeDiff, Nat.reduceLT, implies_true, and_self, Int.natCast_zero, Int.natCast_one, Int.cast_ofNat_Int, evV, encInts, encNats, encBools, encP, ordH, ordCaps, inB_nil, encNN]) <;> (repeat' with_reducible apply And.intro) <;> first | omega | exact vw_nats rfl rfl (by omega) | exact vw_ints rfl rfl (by omega) | exact vw_bools rfl rfl (by omega) | exact rowV_fe (fun _ => rfl) | exact rowV_fe_start (c := cN) (fun _ => rfl) rfl | exact rowsV_fam (fun _ => rfl) (by decide) ⟨rfl, rfl⟩ trivial | exact rowsV_fam (fun _ => rfl) (by decide) (fun _ _ => ⟨rfl, rfl⟩) trivial | (simp; done)) ?_
  rintro v H' nx' ⟨g', rfl, rfl, rfl⟩
  unfold ordL
  generalize dfs A A.length r ([], []) = s at hdl hdp ⊢
  (repeat (first | (simp (disch := (first | omega | (simp only [evF, evL, implies_true, and_self]; done) | fail)) only [evS, evZ, evK, evB, evL, evR, Nat.reduceBEq, Nat.reduceAdd, Nat.reduceLeDiff, boxR, rboxR, allocR, fldR, binI, unR, pickR, mknilR, mkslR, buildSlR, buildR, extR, convI, eqB, evU, wrap64, ordH, ordCaps]) | (with_reducible intro _) | ((with_reducible apply And.intro); omega)))
  refine call_own [(0, 9, 0)] 1 _ (slices_Reverse_ok s.2 g' (by omega)) rfl rfl (by (try simp only [evW, evK, evB, evL, Nat.reduceBEq, Nat.reduceAdd, Nat.reduceSub, Nat.reduceLeDiff, Nat.reduceLT, implies_true, and_self, Int.natCast_zero, Int.natCast_one, Int.cast_ofNat_Int, evV, encInts, encNats, encBools, encP]) <;> (repeat' with_reducible apply And.intro) <;> first | omega | exact vw_nats rfl rfl (by omega) | exact vw_ints rfl rfl (by omega) | exact vw_bools rfl rfl (by omega) | exact rowV_fe (fun _ => rfl) | exact rowV_fe_start (c := cN) (fun _ => rfl) rfl | exact rowsV_fam (fun _ => rfl) (by decide) ⟨rfl, rfl⟩ trivial | exact rowsV_fam (fun _ => rfl) (by decide) (fun _ _ => ⟨rfl, rfl⟩) trivial | (simp; done)) (by (try simp only [evW, evK, evB, evL, Nat.reduceBEq, Nat.reduceAdd, Nat.reduceSub, Nat.reduceLeDiff, Nat.reduceLT, implies_true, and_self, Int.natCast_zero, Int.natCast_one, Int.cast_ofNat_Int, evV, encInts, encNats, encBools, encP]) <;> (repeat' with_reducible apply And.intro) <;> first | omega | exact vw_nats rfl rfl (by omega) | exact vw_ints rfl rfl (by omega) | exact vw_bools rfl rfl (by omega) | exact rowV_fe (fun _ => rfl) | exact rowV_fe_start (c := cN) (fun _ => rfl) rfl | exact rowsV_fam (fun _ => rfl) (by decide) ⟨rfl, rfl⟩ trivial | exact rowsV_fam (fun _ => rfl) (by decide) (fun _ _ => ⟨rfl, rfl⟩) trivial | (simp; done)) ?_
  rintro v H' nx' ⟨rfl, rfl, rfl⟩
  (repeat (first | (simp (disch := (first | omega | (simp only [evF, evL, implies_true, and_self]; done) | fail)) only [evS, evZ, evK, evB, evL, evR, Nat.reduceBEq, Nat.reduceAdd, Nat.reduceLeDiff, boxR, rboxR, allocR, fldR, binI, unR, pickR, mknilR, mkslR, buildSlR, buildR, extR, convI, eqB, evU, wrap64, rs_dominator_order]) | (with_reducible intro _) | ((with_reducible apply And.intro); omega)))
  refine ⟨_, ?_, rfl⟩
  rw [show s.2.length = s.2.reverse.length by simp]
  exact vw_nats trivial rfl (by simp; omega)

theorem dominator_order_none (A : Adj) (r : Nat) (hr : A.length ≤ r) : PureFn Try.prog f_dominator_order [encNN A, .int .i64 r] (· = encNats []) := by
  refine fn_x cf_dominator_order rfl ?_
  unfold ac_dominator_order
  (repeat (first | (simp (disch := (first | omega | (simp only [evF, evL, implies_true, and_self]; done) | fail)) only [evS, evZ, evK, evB, evL, evR, Nat.reduceBEq, Nat.reduceAdd, Nat.reduceLeDiff, boxR, rboxR, allocR, fldR, binI, unR, pickR, mknilR, mkslR, buildSlR, buildR, extR, convI, eqB, evU, wrap64, encNN]) | (with_reducible intro _) | ((with_reducible apply And.intro); omega)))
  (refine condX_intro (fun h => ?_) (fun h => ?_)) <;> (try simp only [decide_eq_true_eq, decide_eq_false_iff_not, Bool.not_eq_true', Bool.not_eq_false', Bool.and_eq_true, Bool.or_eq_true, not_true_eq_false, not_false_eq_true] at h)
  · (repeat (first | (simp (disch := (first | omega | (simp only [evF, evL, implies_true, and_self]; done) | fail)) only [evS, evZ, evK, evB, evL, evR, Nat.reduceBEq, Nat.reduceAdd, Nat.reduceLeDiff, boxR, rboxR, allocR, fldR, binI, unR, pickR, mknilR, mkslR, buildSlR, buildR, extR, convI, eqB, evU, wrap64, rs_dominator_order]) | (with_reducible intro _) | ((with_reducible apply And.intro); omega)))
    refine ⟨_, ?_, rfl⟩
    exact vw_nats (l := []) trivial rfl (Nat.zero_le _)
  · omega

theorem dominator_Order_ok (g : Gr) (hg : g.small) : PureFn Try.prog f_dominator_Order [.agg g.cells] (· = encNats (orderL g.E)) := by
  refine fn_x cf_dominator_Order rfl ?_
  unfold ac_dominator_Order
  (repeat (first | (simp (disch := (first | omega | (simp only [evF, evL, implies_true, and_self]; done) | fail)) only [evS, evZ, evK, evB, evL, evR, Nat.reduceBEq, Nat.reduceAdd, Nat.reduceLeDiff, boxR, rboxR, allocR, fldR, binI, unR, pickR, mknilR, mkslR, buildSlR, buildR, extR, convI, eqB, evU, wrap64, Gr.cells, Gr.two]) | (with_reducible intro _) | ((with_reducible apply And.intro); omega)))
  refine callX_fix (call_flat (dominator_all_ok g hg) rfl) ?_
  (repeat (first | (simp (disch := (first | omega | (simp only [evF, evL, implies_true, and_self]; done) | fail)) only [evS, evZ, evK, evB, evL, evR, Nat.reduceBEq, Nat.reduceAdd, Nat.reduceLeDiff, boxR, rboxR, allocR, fldR, binI, unR, pickR, mknilR, mkslR, buildSlR, buildR, extR, convI, eqB, evU, wrap64]) | (with_reducible intro _) | ((with_reducible apply And.intro); omega)))
  by_cases h0 : 0 < g.E.length
  · refine callX_fix (call_flat (dominator_order_ok g.E (Gr.E_small hg) g.E_ok 0 h0) rfl) ?_
    (repeat (first | (simp (disch := (first | omega | (simp only [evF, evL, implies_true, and_self]; done) | fail)) only [evS, evZ, evK, evB, evL, evR, Nat.reduceBEq, Nat.reduceAdd, Nat.reduceLeDiff, boxR, rboxR, allocR, fldR, binI, unR, pickR, mknilR, mkslR, buildSlR, buildR, extR, convI, eqB, evU, wrap64, rs_dominator_Order]) | (with_reducible intro _) | ((with_reducible apply And.intro); omega)))
    refine ⟨_, .sl _ _ _ _, ?_⟩
    have : orderL g.E = ordL g.E 0 := by unfold orderL ordL; rw [if_neg (by omega)]
    rw [this]
    rfl
  · refine callX_fix (call_flat (dominator_order_none g.E 0 (by omega)) rfl) ?_
    (repeat (first | (simp (disch := (first | omega | (simp only [evF, evL, implies_true, and_self]; done) | fail)) only [evS, evZ, evK, evB, evL, evR, Nat.reduceBEq, Nat.reduceAdd, Nat.reduceLeDiff, boxR, rboxR, allocR, fldR, binI, unR, pickR, mknilR, mkslR, buildSlR, buildR, extR, convI, eqB, evU, wrap64, rs_dominator_Order]) | (with_reducible intro _) | ((with_reducible apply And.intro); omega)))
    refine ⟨_, .sl _ _ _ _, ?_⟩
    have : orderL g.E = [] := by unfold orderL; rw [if_pos (by omega)]
    rw [this]
    rfl

end Go.Ab

namespace Go.Ab
open Go.RowKit Go.Proofs

/-- A tree as a list of numbers. -/
def tI : Option Nat → Int
  | some c => c
  | none => -1
def outI (n : Nat) (T : Nat → Option Nat) : List Int := (List.range n).map fun k => tI (T k)
/-- The places of the first j nodes. -/
def plcI (n : Nat) (l : List Nat) (j : Nat) : List Int := (List.range n).map fun k => if l.idxOf k < j then (l.idxOf k : Int) else -1

theorem outI_len {n : Nat} {T : Nat → Option Nat} : (outI n T).length = n := by simp [outI]
theorem plcI_len {n j : Nat} {l : List Nat} : (plcI n l j).length = n := by simp [plcI]
theorem outI_get {n k : Nat} {T : Nat → Option Nat} (h : k < n) : ((outI n T).map cI).getD k [] = [.int .i64 (tI (T k))] := by
  simp [outI, List.getD_eq_getElem?_getD, h]
theorem plcI_get {n k j : Nat} {l : List Nat} (h : k < n) : ((plcI n l j).map cI).getD k [] = [.int .i64 (if l.idxOf k < j then (l.idxOf k : Int) else -1)] := by
  simp [plcI, List.getD_eq_getElem?_getD, h]
theorem outI_set {n k : Nat} {T : Nat → Option Nat} {v : Option Nat} : ((outI n T).map cI).set k [.int .i64 (tI v)] = (outI n (updF T k v)).map cI := by
  unfold outI
  rw [List.map_map, List.map_map, map_range_set]
  refine List.map_congr_left fun i hi => ?_
  unfold updF
  simp only [Function.comp]
  split <;> rfl
theorem plcI_set {n j : Nat} {l : List Nat} (hnd : l.Nodup) (hj : j < l.length) : ((plcI n l j).map cI).set l[j] [.int .i64 (j : Int)] = (plcI n l (j + 1)).map cI := by
  unfold plcI
  rw [List.map_map, List.map_map, map_range_set]
  refine List.map_congr_left fun i hi => ?_
  unfold updF
  simp only [Function.comp]
  have hidx : l.idxOf l[j] = j := hnd.idxOf_getElem j hj
  by_cases h : i = l[j]
  · rw [if_pos h, h, hidx, if_pos (by omega)]
  · rw [if_neg h]
    have hne : l.idxOf i ≠ j := by
      intro e
      have : i ∈ l := List.idxOf_lt_length_iff.1 (by omega)
      exact h (by have := List.getElem_idxOf (List.idxOf_lt_length_iff.2 this); rw [← this]; congr 1)
    by_cases h2 : l.idxOf i < j
    · rw [if_pos h2, if_pos (by omega)]
    · rw [if_neg h2, if_neg (by omega)]

/-- The variable of a slice, seen as it is only read. -/
theorem vw_cellI {H H2 : AH} {σ : Nat → Nat → Option (Nat × Nat × Nat)} {D : Nat → Nat → Prop} {t : Bool} {r R g g2 : Nat} {l : List Int} (h1 : D r 0) (h2 : H.get r 0 = some (.row 1 [[.own R 0 g2 0 l.length]] g)) (h3 : D R 0)
    (h4 : H.get R 0 = some (.row 1 (l.map cI) g2)) (hb : l.length ≤ big) : Vw H H2 σ D t (.ptr r 0 g 0 0) (.iptr 1 fun j => [encInts l].getD j .undef) := by
  refine .frzp t r 0 g 0 0 1 1 _ _ h1 h2 (by simp) (by simp) (fun j hj => ?_)
  obtain rfl : j = 0 := by omega
  exact vw_ints h3 h4 hb

/-- The nearest node above two. -/
def Nca (T : Nat → Option Nat) (l : List Nat) (r a b c : Nat) : Prop := c ∈ l ∧ Ch T a c ∧ Ch T b c ∧ ∀ x, Ch T a x → Ch T b x → Ch T c x

theorem dominator_tree_1_ok {A : Adj} {r : Nat} {l : List Nat} {f : Nat → Nat} {T : Nat → Option Nat} (L : Lay A r l f) (w : WT r l T) (n : Nat) (hln : ∀ x ∈ l, x < n) (hnn : n ≤ 2001) (a b : Nat) (ha : a ∈ l) (hb : b ∈ l) (hha : Hd r T a) (hhb : Hd r T b) :
    PureFn Try.prog f_dominator_tree_1 [.int .i64 a, .int .i64 b, .iptr 1 fun j => [encInts (plcI n l l.length)].getD j .undef, .iptr 1 fun j => [encInts (outI n T)].getD j .undef] (fun v => ∃ c : Nat, v = .int .i64 c ∧ Nca T l r a b c) := by
  refine fn_x cf_dominator_tree_1 rfl ?_
  unfold ac_dominator_tree_1
  have hB : big = 9223372036854775807 := rfl
  (repeat (first | (simp (disch := (first | omega | (simp only [evF, evL, implies_true, and_self]; done) | fail)) only [evS, evZ, evK, evB, evL, evR, Nat.reduceBEq, Nat.reduceAdd, Nat.reduceLeDiff, boxR, rboxR, allocR, fldR, binI, unR, pickR, mknilR, mkslR, buildSlR, buildR, extR, convI, eqB, evU, wrap64]) | (with_reducible intro _) | ((with_reducible apply And.intro); omega)))
  refine loopX_intro (fun s : Nat × Nat => ([(0, .int .i64 s.1), (1, .int .i64 s.2), (2, .iptr 1 fun j => [encInts (plcI n l l.length)].getD j .undef), (3, .iptr 1 fun j => [encInts (outI n T)].getD j .undef)], [])) 0
    (fun s => s.1 ∈ l ∧ s.2 ∈ l ∧ Hd r T s.1 ∧ Hd r T s.2 ∧ Ch T a s.1 ∧ Ch T b s.2 ∧ ∀ x, Ch T a x → Ch T b x → Ch T s.1 x ∧ Ch T s.2 x) (fun s => l.idxOf s.1 + l.idxOf s.2) (a, b) ⟨ha, hb, hha, hhb, .refl _, .refl _, fun x h1 h2 => ⟨h1, h2⟩⟩ (Ent.keep rfl (by (try simp [subK, Kn.get, beq_eq]) <;> (repeat' with_reducible apply And.intro) <;> first | rfl | omega | (simp; done))) ?_
  rintro ⟨c, d⟩ ⟨hc, hd, hhc, hhd, hac, hbd, hx⟩ wf
  simp only at hc hd hhc hhd hac hbd hx
  have hcn := hln c hc
  have hdn := hln d hd
  have hci := idxOf_lt' hc
  have hdi := idxOf_lt' hd
  have step : ∀ {u v : Nat}, u ∈ l → v ∈ l → Hd r T u → l.idxOf v < l.idxOf u → ∃ j, T u = some j ∧ j ∈ l ∧ l.idxOf j < l.idxOf u ∧ Hd r T j ∧ ∀ x, Ch T u x → Ch T v x → Ch T j x := by
    intro u v hu hv hhu hlt
    rcases hhu with rfl | hhu
    · rw [L.pl0] at hlt; omega
    · cases hT : T u with
      | none => exact absurd hT hhu
      | some j =>
        obtain ⟨_, h2, h3, h4⟩ := w.up u j hT
        refine ⟨j, rfl, h2, h3, h4, fun x h5 h6 => ?_⟩
        rcases h5.cases' with rfl | ⟨j', h7, h8⟩
        · have := (w.mem L.root hv h6).2.1
          omega
        · rw [hT] at h7; cases h7; exact h8
  unfold ac_dominator_tree_1_l0
  (repeat (first | (simp (disch := (first | omega | (simp only [evF, evL, implies_true, and_self]; done) | fail)) only [evS, evZ, evK, evB, evL, evR, Nat.reduceBEq, Nat.reduceAdd, Nat.reduceLeDiff, boxR, rboxR, allocR, fldR, binI, unR, pickR, mknilR, mkslR, buildSlR, buildR, extR, convI, eqB, evU, wrap64]) | (with_reducible intro _) | ((with_reducible apply And.intro); omega)))
  (refine condX_intro (fun h => ?_) (fun h => ?_)) <;> (try simp only [decide_eq_true_eq, decide_eq_false_iff_not, Bool.not_eq_true', Bool.not_eq_false', Bool.and_eq_true, Bool.or_eq_true, not_true_eq_false, not_false_eq_true] at h)
  · have hcd : l.idxOf c ≠ l.idxOf d := fun e => h (by rw [L.inj hc hd e])
    (repeat (first | (simp (disch := (first | omega | (simp only [evF, evL, implies_true, and_self]; done) | fail)) only [evS, evZ, evK, evB, evL, evR, Nat.reduceBEq, Nat.reduceAdd, Nat.reduceLeDiff, boxR, rboxR, allocR, fldR, binI, unR, pickR, mknilR, mkslR, buildSlR, buildR, extR, convI, eqB, evU, wrap64, encInts, plcI_len, plcI_get hcn, plcI_get hdn, if_pos hci, if_pos hdi]) | (with_reducible intro _) | ((with_reducible apply And.intro); omega)))
    (refine condX_intro (fun h2 => ?_) (fun h2 => ?_)) <;> (try simp only [decide_eq_true_eq, decide_eq_false_iff_not, Bool.not_eq_true', Bool.not_eq_false', Bool.and_eq_true, Bool.or_eq_true, not_true_eq_false, not_false_eq_true] at h2)
    · obtain ⟨j, h3, h4, h5, h6, h7⟩ := step hc hd hhc (by omega)
      (repeat (first | (simp (disch := (first | omega | (simp only [evF, evL, implies_true, and_self]; done) | fail)) only [evS, evZ, evK, evB, evL, evR, Nat.reduceBEq, Nat.reduceAdd, Nat.reduceLeDiff, boxR, rboxR, allocR, fldR, binI, unR, pickR, mknilR, mkslR, buildSlR, buildR, extR, convI, eqB, evU, wrap64, encInts, outI_len, outI_get hcn, h3, tI]) | (with_reducible intro _) | ((with_reducible apply And.intro); omega)))
      exact ⟨(j, d), ⟨h4, hd, h6, hhd, hac.trans (.up h3 (.refl _)), hbd, fun x h8 h9 => ⟨h7 x (hx x h8 h9).1 (hx x h8 h9).2, (hx x h8 h9).2⟩⟩, by simp only; omega, Ent.keep rfl (by (try simp [subK, Kn.get, beq_eq]) <;> (repeat' with_reducible apply And.intro) <;> first | rfl | omega | (simp; done))⟩
    · obtain ⟨j, h3, h4, h5, h6, h7⟩ := step hd hc hhd (by omega)
      (repeat (first | (simp (disch := (first | omega | (simp only [evF, evL, implies_true, and_self]; done) | fail)) only [evS, evZ, evK, evB, evL, evR, Nat.reduceBEq, Nat.reduceAdd, Nat.reduceLeDiff, boxR, rboxR, allocR, fldR, binI, unR, pickR, mknilR, mkslR, buildSlR, buildR, extR, convI, eqB, evU, wrap64, encInts, outI_len, outI_get hdn, h3, tI]) | (with_reducible intro _) | ((with_reducible apply And.intro); omega)))
      exact ⟨(c, j), ⟨hc, h4, hhc, h6, hac, hbd.trans (.up h3 (.refl _)), fun x h8 h9 => ⟨(hx x h8 h9).1, h7 x (hx x h8 h9).2 (hx x h8 h9).1⟩⟩, by simp only; omega, Ent.keep rfl (by (try simp [subK, Kn.get, beq_eq]) <;> (repeat' with_reducible apply And.intro) <;> first | rfl | omega | (simp; done))⟩
  · have hcd : c = d := by omega
    subst hcd
    unfold ac_dominator_tree_1_k1
    (repeat (first | (simp (disch := (first | omega | (simp only [evF, evL, implies_true, and_self]; done) | fail)) only [evS, evZ, evK, evB, evL, evR, Nat.reduceBEq, Nat.reduceAdd, Nat.reduceLeDiff, boxR, rboxR, allocR, fldR, binI, unR, pickR, mknilR, mkslR, buildSlR, buildR, extR, convI, eqB, evU, wrap64, rs_dominator_tree_1]) | (with_reducible intro _) | ((with_reducible apply And.intro); omega)))
    exact ⟨_, .int _ _ _, c, rfl, hc, hac, hbd, fun x h1 h2 => (hx x h1 h2).1⟩

end Go.Ab

namespace Go.Ab
open Go.RowKit Go.Proofs

/-- Minus ones ahead of k, zeros behind. -/
def negI (n k : Nat) : List Int := (List.range n).map fun i => if i < k then -1 else 0
theorem negI_len {n k : Nat} : (negI n k).length = n := by simp [negI]
theorem negI_zero {n : Nat} : (negI n 0).map cI = List.replicate n [.int .i64 0] := by
  unfold negI
  simp only [Nat.not_lt_zero, if_false]
  rw [List.map_const', List.length_range, List.map_replicate]
theorem negI_set {n k : Nat} : ((negI n k).map cI).set k [.int .i64 (-1)] = (negI n (k + 1)).map cI := by
  unfold negI
  rw [List.map_map, List.map_map, map_range_set]
  refine List.map_congr_left fun i hi => ?_
  unfold updF
  simp only [Function.comp]
  by_cases h : i = k
  · rw [if_pos h, if_pos (by omega)]
  · rw [if_neg h]
    by_cases h2 : i < k
    · rw [if_pos h2, if_pos (by omega)]
    · rw [if_neg h2, if_neg (by omega)]
theorem negI_out {n : Nat} : negI n n = outI n (fun _ => none) := by
  unfold negI outI
  exact List.map_congr_left fun i hi => if_pos (List.mem_range.1 hi)
theorem negI_plc {n : Nat} {l : List Nat} : negI n n = plcI n l 0 := by
  unfold negI plcI
  exact List.map_congr_left fun i hi => by rw [if_pos (List.mem_range.1 hi), if_neg (by omega)]

def treeH (n : Nat) (o p : List Int) : AH := [(0, .row 1 [[.own 2 0 0 0 n]] 0), (1, .row 1 [[.own 3 0 0 0 n]] 0), (2, .row 1 (o.map cI) 0), (3, .row 1 (p.map cI) 0)]

theorem tLL_mem {A : Adj} {n k p : Nat} : p ∈ tLL A n k ↔ p < n ∧ k ∈ suc A p := by
  unfold tLL
  simp only [List.mem_flatMap, List.mem_range, List.mem_replicate, ne_eq]
  constructor
  · rintro ⟨q, h1, h2, rfl⟩
    exact ⟨h1, List.count_pos_iff.1 (by omega)⟩
  · rintro ⟨h1, h2⟩
    exact ⟨p, h1, by have := List.count_pos_iff.2 h2; omega, rfl⟩

/-- What is known of the tree between passes. -/
structure TI (A : Adj) (r : Nat) (l : List Nat) (f : Nat → Nat) (T : Nat → Option Nat) : Prop where
  wt : WT r l T
  sd : Sd A r l T
  gd : T = (fun _ => none) ∨ ∃ T0, Gd A r l f T0 T

theorem TI.next {A : Adj} {r : Nat} {l : List Nat} {f : Nat → Nat} {T U : Nat → Option Nat} (L : Lay A r l f) (h : TI A r l f T) (P : Pass A r l T U) : Gd A r l f T U ∧ TI A r l f U := by
  have g : Gd A r l f T U := by
    rcases h.gd with rfl | ⟨T0, g⟩
    · exact Gd.first P
    · exact g.next L P
  exact ⟨g, P.wt, g.sd L h.sd, .inr ⟨T, g⟩⟩

theorem Rpo.lay {A : Adj} {r : Nat} {l : List Nat} (h : Rpo A r l) : ∃ f, Lay A r l f := by
  obtain ⟨t, ht⟩ := h.head
  have hf : ∀ k, ∃ p, k ∈ l → k ≠ r → p ∈ l ∧ k ∈ suc A p ∧ l.idxOf p < l.idxOf k := by
    intro k
    by_cases hk : k ∈ l ∧ k ≠ r
    · obtain ⟨p, B, C, he, hp, hs⟩ := h.pred k hk.1 hk.2
      refine ⟨p, fun _ _ => ⟨by rw [he]; simp [hp], hs, ?_⟩⟩
      have hkB : k ∉ B := fun hh => by
        have := h.nd
        rw [he, List.nodup_append] at this
        exact this.2.2 k hh k (by simp) rfl
      rw [he, List.idxOf_append, if_pos hp, List.idxOf_append, if_neg hkB, List.idxOf_cons_self]
      have := List.idxOf_lt_length_iff.2 hp
      omega
    · exact ⟨0, fun h1 h2 => absurd ⟨h1, h2⟩ hk⟩
  refine ⟨fun k => Classical.choose (hf k), h.nd, by rw [ht]; simp, by rw [ht]; simp, h.mem, fun k hk hkr => Classical.choose_spec (hf k) hk hkr⟩

/-- What the first i sources of edges leave as the best node above. -/
structure Bst (U : Nat → Option Nat) (r : Nat) (l qs : List Nat) (best : Option Nat) : Prop where
  no : best = none → ∀ p ∈ qs, p ∈ l → ¬ Hd r U p
  yes : ∀ c, best = some c → c ∈ l ∧ Hd r U c ∧ ∀ x, Ch U c x ↔ ∀ p ∈ qs, p ∈ l → Hd r U p → Ch U p x

theorem Bst.skip {U : Nat → Option Nat} {r : Nat} {l qs : List Nat} {best : Option Nat} (h : Bst U r l qs best) {p : Nat} (hp : ¬ (p ∈ l ∧ Hd r U p)) : Bst U r l (qs ++ [p]) best := by
  have key : ∀ q, q ∈ qs ++ [p] → q ∈ l → Hd r U q → q ∈ qs := by
    intro q hq h1 h2
    rcases List.mem_append.1 hq with hq | hq
    · exact hq
    · simp at hq; subst hq; exact absurd ⟨h1, h2⟩ hp
  refine ⟨fun hb q hq h1 h2 => h.no hb q (key q hq h1 h2) h1 h2, fun c hc => ?_⟩
  obtain ⟨h1, h2, h3⟩ := h.yes c hc
  refine ⟨h1, h2, fun x => (h3 x).trans ⟨fun h4 q hq h5 h6 => h4 q (key q hq h5 h6) h5 h6, fun h4 q hq => h4 q (by simp [hq])⟩⟩

theorem Bst.first {U : Nat → Option Nat} {r : Nat} {l qs : List Nat} (h : Bst U r l qs none) {p : Nat} (h1 : p ∈ l) (h2 : Hd r U p) : Bst U r l (qs ++ [p]) (some p) := by
  refine ⟨fun hb => (by cases hb), fun c hc => ?_⟩
  cases hc
  refine ⟨h1, h2, fun x => ⟨fun h3 q hq h4 h5 => ?_, fun h3 => h3 p (by simp) h1 h2⟩⟩
  rcases List.mem_append.1 hq with hq | hq
  · exact absurd h5 (h.no rfl q hq h4)
  · simp at hq; subst hq; exact h3

theorem Bst.more {U : Nat → Option Nat} {r : Nat} {l qs : List Nat} {c d : Nat} (w : WT r l U) (h : Bst U r l qs (some c)) {p : Nat} (h1 : p ∈ l) (h2 : Hd r U p) (hd : Nca U l r c p d) : Bst U r l (qs ++ [p]) (some d) := by
  obtain ⟨h3, h4, h5⟩ := h.yes c rfl
  obtain ⟨d1, d2, d3, d4⟩ := hd
  refine ⟨fun hb => (by cases hb), fun c' hc => ?_⟩
  cases hc
  refine ⟨d1, w.held h4 d2, fun x => ⟨fun h6 q hq h7 h8 => ?_, fun h6 => d4 x ((h5 x).2 fun q hq => h6 q (by simp [hq])) (h6 p (by simp) h1 h2)⟩⟩
  rcases List.mem_append.1 hq with hq | hq
  · exact (h5 x).1 (d2.trans h6) q hq h7 h8
  · simp at hq; subst hq; exact d3.trans h6

theorem outI_setS {n k c : Nat} {T : Nat → Option Nat} : ((outI n T).map cI).set k [.int .i64 (c : Int)] = (outI n (updF T k (some c))).map cI := outI_set (v := some c)

theorem dF {p : Prop} (h : ¬ p) {inst : Decidable p} : @decide p inst = false := decide_eq_false h
theorem dT {p : Prop} (h : p) {inst : Decidable p} : @decide p inst = true := decide_eq_true h

theorem tI_neg {o : Option Nat} : tI o < 0 ↔ o = none := by
  cases o with
  | none => simp [tI]
  | some c => simp [tI]

theorem dominator_tree_ok (A : Adj) (hA : A.small) (hok : A.ok) (r : Nat) (hr : r < A.length) :
    CallOk Try.prog f_dominator_tree [encNN A, .int .i64 r] [] 0 (fun v H nx => ∃ T, DTree' A r (ordL A r) T ∧ v = .own 0 0 0 0 A.length ∧ H = [(0, .row 1 ((outI A.length T).map cI) 0)] ∧ nx = 1) := by
  refine call_ent (fn_x cf_dominator_tree rfl ?_)
  unfold ac_dominator_tree
  have hB : big = 9223372036854775807 := rfl
  have hn := hA.len
  (repeat (first | (simp (disch := (first | omega | (simp only [evF, evL, implies_true, and_self]; done) | fail)) only [evS, evZ, evK, evB, evL, evR, Nat.reduceBEq, Nat.reduceAdd, Nat.reduceLeDiff, boxR, rboxR, allocR, fldR, binI, unR, pickR, mknilR, mkslR, buildSlR, buildR, extR, convI, eqB, evU, wrap64, encNN]) | (with_reducible intro _) | ((with_reducible apply And.intro); omega)))
  refine loopX_intro (fun k : Nat => ([(0, encNN A), (1, .int .i64 r), (5, .ptr 0 0 0 0 0), (6, .ptr 1 0 0 0 0), (25, .int .i64 A.length), (26, .int .i64 k)], treeH A.length (negI A.length k) (negI A.length k))) 4 (fun k => k ≤ A.length) (fun k => A.length - k) 0 (Nat.zero_le _) (Ent.tab [(0, 2, 0), (1, 4, 0), (2, 1, 0), (3, 3, 0)] [] rfl (by (try simp only [evW, evK, evB, evL, Nat.reduceBEq, Nat.reduceAdd, Nat.reduceSub, Nat.reduceLeDiff, Nat.reduceLT, implies_true, and_self, Int.natCast_zero, Int.natCast_one, Int.cast_ofNat_Int, evV, encInts, encNats, encBools, encP, encNN, treeH, negI_zero]) <;> (repeat' with_reducible apply And.intro) <;> first | omega | exact vw_nats rfl rfl (by omega) | exact vw_ints rfl rfl (by omega) | exact vw_bools rfl rfl (by omega) | exact rowV_fe (fun _ => rfl) | exact rowV_fe_start (c := cN) (fun _ => rfl) rfl | exact rowsV_fam (fun _ => rfl) (by decide) ⟨rfl, rfl⟩ trivial | exact rowsV_fam (fun _ => rfl) (by decide) (fun _ _ => ⟨rfl, rfl⟩) trivial | (simp; done)) (by (try simp only [evW, evK, evB, evL, Nat.reduceBEq, Nat.reduceAdd, Nat.reduceSub, Nat.reduceLeDiff, Nat.reduceLT, implies_true, and_self, Int.natCast_zero, Int.natCast_one, Int.cast_ofNat_Int, evV, encInts, encNats, encBools, encP, encNN, treeH, negI_zero]) <;> (repeat' with_reducible apply And.intro) <;> first | omega | exact vw_nats rfl rfl (by omega) | exact vw_ints rfl rfl (by omega) | exact vw_bools rfl rfl (by omega) | exact rowV_fe (fun _ => rfl) | exact rowV_fe_start (c := cN) (fun _ => rfl) rfl | exact rowsV_fam (fun _ => rfl) (by decide) ⟨rfl, rfl⟩ trivial | exact rowsV_fam (fun _ => rfl) (by decide) (fun _ _ => ⟨rfl, rfl⟩) trivial | (simp; done))) ?_
  intro k hk wf
  unfold ac_dominator_tree_l0
  (repeat (first | (simp (disch := (first | omega | (simp only [evF, evL, implies_true, and_self]; done) | fail)) only [evS, evZ, evK, evB, evL, evR, Nat.reduceBEq, Nat.reduceAdd, Nat.reduceLeDiff, boxR, rboxR, allocR, fldR, binI, unR, pickR, mknilR, mkslR, buildSlR, buildR, extR, convI, eqB, evU, wrap64, encNN, treeH]) | (with_reducible intro _) | ((with_reducible apply And.intro); omega)))
  (refine condX_intro (fun h => ?_) (fun h => ?_)) <;> (try simp only [decide_eq_true_eq, decide_eq_false_iff_not, Bool.not_eq_true', Bool.not_eq_false', Bool.and_eq_true, Bool.or_eq_true, not_true_eq_false, not_false_eq_true] at h)
  · (repeat (first | (simp (disch := (first | omega | (simp only [evF, evL, implies_true, and_self]; done) | fail)) only [evS, evZ, evK, evB, evL, evR, Nat.reduceBEq, Nat.reduceAdd, Nat.reduceLeDiff, boxR, rboxR, allocR, fldR, binI, unR, pickR, mknilR, mkslR, buildSlR, buildR, extR, convI, eqB, evU, wrap64, List.length_set, negI_len, negI_set]) | (with_reducible intro _) | ((with_reducible apply And.intro); omega)))
    refine ⟨?_, ?_⟩ <;> exact ⟨by omega, ⟨by omega, by omega⟩, by omega, k + 1, by omega, by omega, (Ent.tab [(0, 0, 0), (1, 1, 0), (2, 2, 0), (3, 3, 0)] [] rfl (by (try simp only [evW, evK, evB, evL, Nat.reduceBEq, Nat.reduceAdd, Nat.reduceSub, Nat.reduceLeDiff, Nat.reduceLT, implies_true, and_self, Int.natCast_zero, Int.natCast_one, Int.cast_ofNat_Int, evV, encInts, encNats, encBools, encP, encNN, treeH]) <;> (repeat' with_reducible apply And.intro) <;> first | omega | exact vw_nats rfl rfl (by omega) | exact vw_ints rfl rfl (by omega) | exact vw_bools rfl rfl (by omega) | exact rowV_fe (fun _ => rfl) | exact rowV_fe_start (c := cN) (fun _ => rfl) rfl | exact rowsV_fam (fun _ => rfl) (by decide) ⟨rfl, rfl⟩ trivial | exact rowsV_fam (fun _ => rfl) (by decide) (fun _ _ => ⟨rfl, rfl⟩) trivial | (simp; done)) (by (try simp only [evW, evK, evB, evL, Nat.reduceBEq, Nat.reduceAdd, Nat.reduceSub, Nat.reduceLeDiff, Nat.reduceLT, implies_true, and_self, Int.natCast_zero, Int.natCast_one, Int.cast_ofNat_Int, evV, encInts, encNats, encBools, encP, encNN, treeH]) <;> (repeat' with_reducible apply And.intro) <;> first | omega | exact vw_nats rfl rfl (by omega) | exact vw_ints rfl rfl (by omega) | exact vw_bools rfl rfl (by omega) | exact rowV_fe (fun _ => rfl) | exact rowV_fe_start (c := cN) (fun _ => rfl) rfl | exact rowsV_fam (fun _ => rfl) (by decide) ⟨rfl, rfl⟩ trivial | exact rowsV_fam (fun _ => rfl) (by decide) (fun _ _ => ⟨rfl, rfl⟩) trivial | (simp; done)))⟩
  · obtain rfl : k = A.length := by omega
    unfold ac_dominator_tree_k9
    (repeat (first | (simp (disch := (first | omega | (simp only [evF, evL, implies_true, and_self]; done) | fail)) only [evS, evZ, evK, evB, evL, evR, Nat.reduceBEq, Nat.reduceAdd, Nat.reduceLeDiff, boxR, rboxR, allocR, fldR, binI, unR, pickR, mknilR, mkslR, buildSlR, buildR, extR, convI, eqB, evU, wrap64]) | (with_reducible intro _) | ((with_reducible apply And.intro); omega)))
    refine callX_fix (call_flat (dominator_order_ok A hA hok r hr) rfl) ?_
    have hrpo : Rpo A r (ordL A r) := rpo hok hr
    obtain ⟨f, L⟩ := hrpo.lay
    generalize ordL A r = l at hrpo L ⊢
    have hln := hrpo.lt
    have hll : l.length ≤ A.length := NdL.len ⟨hrpo.nd, hln⟩
    (repeat (first | (simp (disch := (first | omega | (simp only [evF, evL, implies_true, and_self]; done) | fail)) only [evS, evZ, evK, evB, evL, evR, Nat.reduceBEq, Nat.reduceAdd, Nat.reduceLeDiff, boxR, rboxR, allocR, fldR, binI, unR, pickR, mknilR, mkslR, buildSlR, buildR, extR, convI, eqB, evU, wrap64, encNats]) | (with_reducible intro _) | ((with_reducible apply And.intro); omega)))
    refine loopX_intro (fun j : Nat => ([(0, encNN A), (1, .int .i64 r), (5, .ptr 0 0 0 0 0), (6, .ptr 1 0 0 0 0), (8, encNats l), (40, .int .i64 l.length), (41, .int .i64 j)], treeH A.length (outI A.length fun _ => none) (plcI A.length l j))) 4 (fun j => j ≤ l.length) (fun j => l.length - j) 0 (Nat.zero_le _) (Ent.tab [(0, 0, 0), (1, 1, 0), (2, 2, 0), (3, 3, 0)] [] rfl (by (try simp only [evW, evK, evB, evL, Nat.reduceBEq, Nat.reduceAdd, Nat.reduceSub, Nat.reduceLeDiff, Nat.reduceLT, implies_true, and_self, Int.natCast_zero, Int.natCast_one, Int.cast_ofNat_Int, evV, encInts, encNats, encBools, encP, encNN, treeH, ← negI_out, ← negI_plc]) <;> (repeat' with_reducible apply And.intro) <;> first | omega | exact vw_nats rfl rfl (by omega) | exact vw_ints rfl rfl (by omega) | exact vw_bools rfl rfl (by omega) | exact rowV_fe (fun _ => rfl) | exact rowV_fe_start (c := cN) (fun _ => rfl) rfl | exact rowsV_fam (fun _ => rfl) (by decide) ⟨rfl, rfl⟩ trivial | exact rowsV_fam (fun _ => rfl) (by decide) (fun _ _ => ⟨rfl, rfl⟩) trivial | (simp; done)) (by (try simp only [evW, evK, evB, evL, Nat.reduceBEq, Nat.reduceAdd, Nat.reduceSub, Nat.reduceLeDiff, Nat.reduceLT, implies_true, and_self, Int.natCast_zero, Int.natCast_one, Int.cast_ofNat_Int, evV, encInts, encNats, encBools, encP, encNN, treeH, ← negI_out, ← negI_plc]) <;> (repeat' with_reducible apply And.intro) <;> first | omega | exact vw_nats rfl rfl (by omega) | exact vw_ints rfl rfl (by omega) | exact vw_bools rfl rfl (by omega) | exact rowV_fe (fun _ => rfl) | exact rowV_fe_start (c := cN) (fun _ => rfl) rfl | exact rowsV_fam (fun _ => rfl) (by decide) ⟨rfl, rfl⟩ trivial | exact rowsV_fam (fun _ => rfl) (by decide) (fun _ _ => ⟨rfl, rfl⟩) trivial | (simp; done))) ?_
    intro j hj wf
    unfold ac_dominator_tree_l1
    (repeat (first | (simp (disch := (first | omega | (simp only [evF, evL, implies_true, and_self]; done) | fail)) only [evS, evZ, evK, evB, evL, evR, Nat.reduceBEq, Nat.reduceAdd, Nat.reduceLeDiff, boxR, rboxR, allocR, fldR, binI, unR, pickR, mknilR, mkslR, buildSlR, buildR, extR, convI, eqB, evU, wrap64, encNN, treeH, encNats]) | (with_reducible intro _) | ((with_reducible apply And.intro); omega)))
    (refine condX_intro (fun h2 => ?_) (fun h2 => ?_)) <;> (try simp only [decide_eq_true_eq, decide_eq_false_iff_not, Bool.not_eq_true', Bool.not_eq_false', Bool.and_eq_true, Bool.or_eq_true, not_true_eq_false, not_false_eq_true] at h2)
    · have hj' : j < l.length := by omega
      have hlj := hln _ (List.getElem_mem hj')
      have hps := plcI_set (n := A.length) hrpo.nd hj'
      (repeat (first | (simp (disch := (first | omega | (simp only [evF, evL, implies_true, and_self]; done) | fail)) only [evS, evZ, evK, evB, evL, evR, Nat.reduceBEq, Nat.reduceAdd, Nat.reduceLeDiff, boxR, rboxR, allocR, fldR, binI, unR, pickR, mknilR, mkslR, buildSlR, buildR, extR, convI, eqB, evU, wrap64, getD_map hj', plcI_len, hps]) | (with_reducible intro _) | ((with_reducible apply And.intro); omega)))
      exact ⟨j + 1, by omega, by omega, (Ent.tab [(0, 0, 0), (1, 1, 0), (2, 2, 0), (3, 3, 0)] [] rfl (by (try simp only [evW, evK, evB, evL, Nat.reduceBEq, Nat.reduceAdd, Nat.reduceSub, Nat.reduceLeDiff, Nat.reduceLT, implies_true, and_self, Int.natCast_zero, Int.natCast_one, Int.cast_ofNat_Int, evV, encInts, encNats, encBools, encP, encNN, treeH]) <;> (repeat' with_reducible apply And.intro) <;> first | omega | exact vw_nats rfl rfl (by omega) | exact vw_ints rfl rfl (by omega) | exact vw_bools rfl rfl (by omega) | exact rowV_fe (fun _ => rfl) | exact rowV_fe_start (c := cN) (fun _ => rfl) rfl | exact rowsV_fam (fun _ => rfl) (by decide) ⟨rfl, rfl⟩ trivial | exact rowsV_fam (fun _ => rfl) (by decide) (fun _ _ => ⟨rfl, rfl⟩) trivial | (simp; done)) (by (try simp only [evW, evK, evB, evL, Nat.reduceBEq, Nat.reduceAdd, Nat.reduceSub, Nat.reduceLeDiff, Nat.reduceLT, implies_true, and_self, Int.natCast_zero, Int.natCast_one, Int.cast_ofNat_Int, evV, encInts, encNats, encBools, encP, encNN, treeH]) <;> (repeat' with_reducible apply And.intro) <;> first | omega | exact vw_nats rfl rfl (by omega) | exact vw_ints rfl rfl (by omega) | exact vw_bools rfl rfl (by omega) | exact rowV_fe (fun _ => rfl) | exact rowV_fe_start (c := cN) (fun _ => rfl) rfl | exact rowsV_fam (fun _ => rfl) (by decide) ⟨rfl, rfl⟩ trivial | exact rowsV_fam (fun _ => rfl) (by decide) (fun _ _ => ⟨rfl, rfl⟩) trivial | (simp; done)))⟩
    · obtain rfl : j = l.length := by omega
      unfold ac_dominator_tree_k8
      (repeat (first | (simp (disch := (first | omega | (simp only [evF, evL, implies_true, and_self]; done) | fail)) only [evS, evZ, evK, evB, evL, evR, Nat.reduceBEq, Nat.reduceAdd, Nat.reduceLeDiff, boxR, rboxR, allocR, fldR, binI, unR, pickR, mknilR, mkslR, buildSlR, buildR, extR, convI, eqB, evU, wrap64]) | (with_reducible intro _) | ((with_reducible apply And.intro); omega)))
      refine callX_fix (call_flat (dominator_turned_pure A hA hok) rfl) ?_
      have hbl : (turnL A).length = A.length := turnL_len A
      have hbs : ∀ k (h : k < (turnL A).length), (turnL A)[k] = tLL A A.length k := fun k h => by simp [turnL]
      generalize turnL A = back at hbl hbs ⊢
      (repeat (first | (simp (disch := (first | omega | (simp only [evF, evL, implies_true, and_self]; done) | fail)) only [evS, evZ, evK, evB, evL, evR, Nat.reduceBEq, Nat.reduceAdd, Nat.reduceLeDiff, boxR, rboxR, allocR, fldR, binI, unR, pickR, mknilR, mkslR, buildSlR, buildR, extR, convI, eqB, evU, wrap64]) | (with_reducible intro _) | ((with_reducible apply And.intro); omega)))
      refine loopX_intro (fun s : Bool × (Nat → Option Nat) => ([(1, .int .i64 r), (5, .ptr 0 0 0 0 0), (6, .ptr 1 0 0 0 0), (8, encNats l), (10, encNN back), (11, .fn (.func f_dominator_tree_1) [.ptr 1 0 0 0 0, .ptr 0 0 0 0 0]), (12, .bool s.1)], treeH A.length (outI A.length s.2) (plcI A.length l l.length))) 4
        (fun s => TI A r l f s.2 ∧ (s.1 = false → DTree' A r l s.2)) (fun s => if s.1 then far l s.2 + 1 else 0) (true, fun _ => none) ⟨⟨wt_none, sd_none, .inl rfl⟩, fun h => by cases h⟩ (Ent.tab [(0, 0, 0), (1, 1, 0), (2, 2, 0), (3, 3, 0)] [] rfl (by (try simp only [evW, evK, evB, evL, Nat.reduceBEq, Nat.reduceAdd, Nat.reduceSub, Nat.reduceLeDiff, Nat.reduceLT, implies_true, and_self, Int.natCast_zero, Int.natCast_one, Int.cast_ofNat_Int, evV, encInts, encNats, encBools, encP, encNN, treeH]) <;> (repeat' with_reducible apply And.intro) <;> first | omega | exact vw_nats rfl rfl (by omega) | exact vw_ints rfl rfl (by omega) | exact vw_bools rfl rfl (by omega) | exact rowV_fe (fun _ => rfl) | exact rowV_fe_start (c := cN) (fun _ => rfl) rfl | exact rowsV_fam (fun _ => rfl) (by decide) ⟨rfl, rfl⟩ trivial | exact rowsV_fam (fun _ => rfl) (by decide) (fun _ _ => ⟨rfl, rfl⟩) trivial | (simp; done)) (by (try simp only [evW, evK, evB, evL, Nat.reduceBEq, Nat.reduceAdd, Nat.reduceSub, Nat.reduceLeDiff, Nat.reduceLT, implies_true, and_self, Int.natCast_zero, Int.natCast_one, Int.cast_ofNat_Int, evV, encInts, encNats, encBools, encP, encNN, treeH]) <;> (repeat' with_reducible apply And.intro) <;> first | omega | exact vw_nats rfl rfl (by omega) | exact vw_ints rfl rfl (by omega) | exact vw_bools rfl rfl (by omega) | exact rowV_fe (fun _ => rfl) | exact rowV_fe_start (c := cN) (fun _ => rfl) rfl | exact rowsV_fam (fun _ => rfl) (by decide) ⟨rfl, rfl⟩ trivial | exact rowsV_fam (fun _ => rfl) (by decide) (fun _ _ => ⟨rfl, rfl⟩) trivial | (simp; done))) ?_
      rintro ⟨ch, T⟩ ⟨hT, hdone⟩ wf
      simp only at hT hdone
      unfold ac_dominator_tree_l6
      (repeat (first | (simp (disch := (first | omega | (simp only [evF, evL, implies_true, and_self]; done) | fail)) only [evS, evZ, evK, evB, evL, evR, Nat.reduceBEq, Nat.reduceAdd, Nat.reduceLeDiff, boxR, rboxR, allocR, fldR, binI, unR, pickR, mknilR, mkslR, buildSlR, buildR, extR, convI, eqB, evU, wrap64, treeH, encNN, encNats]) | (with_reducible intro _) | ((with_reducible apply And.intro); omega)))
      (refine condX_intro (fun h3 => ?_) (fun h3 => ?_)) <;> (try simp only [decide_eq_true_eq, decide_eq_false_iff_not, Bool.not_eq_true', Bool.not_eq_false', Bool.and_eq_true, Bool.or_eq_true, not_true_eq_false, not_false_eq_true] at h3)
      · subst h3
        (repeat (first | (simp (disch := (first | omega | (simp only [evF, evL, implies_true, and_self]; done) | fail)) only [evS, evZ, evK, evB, evL, evR, Nat.reduceBEq, Nat.reduceAdd, Nat.reduceLeDiff, boxR, rboxR, allocR, fldR, binI, unR, pickR, mknilR, mkslR, buildSlR, buildR, extR, convI, eqB, evU, wrap64]) | (with_reducible intro _) | ((with_reducible apply And.intro); omega)))
        refine loopX_intro (fun s : Nat × Bool × (Nat → Option Nat) => ([(1, .int .i64 r), (5, .ptr 0 0 0 0 0), (6, .ptr 1 0 0 0 0), (8, encNats l), (10, encNN back), (11, .fn (.func f_dominator_tree_1) [.ptr 1 0 0 0 0, .ptr 0 0 0 0 0]), (12, .bool s.2.1), (56, encNats l), (57, .int .i64 l.length), (58, .int .i64 s.1)], treeH A.length (outI A.length s.2.2) (plcI A.length l l.length))) 4
          (fun s => s.1 ≤ l.length ∧ PassTo A r l T (max 1 s.1) s.2.2 ∧ (s.2.1 = true → ∃ v ∈ l, s.2.2 v ≠ T v) ∧ (s.2.1 = false → s.2.2 = T)) (fun s => l.length - s.1) (0, false, T) ⟨Nat.zero_le _, PassTo.start L hT.wt, fun h => (by cases h), fun _ => rfl⟩ (Ent.tab [(0, 0, 0), (1, 1, 0), (2, 2, 0), (3, 3, 0)] [] rfl (by (try simp only [evW, evK, evB, evL, Nat.reduceBEq, Nat.reduceAdd, Nat.reduceSub, Nat.reduceLeDiff, Nat.reduceLT, implies_true, and_self, Int.natCast_zero, Int.natCast_one, Int.cast_ofNat_Int, evV, encInts, encNats, encBools, encP, encNN, treeH]) <;> (repeat' with_reducible apply And.intro) <;> first | omega | exact vw_nats rfl rfl (by omega) | exact vw_ints rfl rfl (by omega) | exact vw_bools rfl rfl (by omega) | exact rowV_fe (fun _ => rfl) | exact rowV_fe_start (c := cN) (fun _ => rfl) rfl | exact rowsV_fam (fun _ => rfl) (by decide) ⟨rfl, rfl⟩ trivial | exact rowsV_fam (fun _ => rfl) (by decide) (fun _ _ => ⟨rfl, rfl⟩) trivial | (simp; done)) (by (try simp only [evW, evK, evB, evL, Nat.reduceBEq, Nat.reduceAdd, Nat.reduceSub, Nat.reduceLeDiff, Nat.reduceLT, implies_true, and_self, Int.natCast_zero, Int.natCast_one, Int.cast_ofNat_Int, evV, encInts, encNats, encBools, encP, encNN, treeH]) <;> (repeat' with_reducible apply And.intro) <;> first | omega | exact vw_nats rfl rfl (by omega) | exact vw_ints rfl rfl (by omega) | exact vw_bools rfl rfl (by omega) | exact rowV_fe (fun _ => rfl) | exact rowV_fe_start (c := cN) (fun _ => rfl) rfl | exact rowsV_fam (fun _ => rfl) (by decide) ⟨rfl, rfl⟩ trivial | exact rowsV_fam (fun _ => rfl) (by decide) (fun _ _ => ⟨rfl, rfl⟩) trivial | (simp; done))) ?_
        rintro ⟨j, cg, U⟩ ⟨hj2, hP, hc1, hc2⟩ wf
        simp only at hj2 hP hc1 hc2
        unfold ac_dominator_tree_l5
        (repeat (first | (simp (disch := (first | omega | (simp only [evF, evL, implies_true, and_self]; done) | fail)) only [evS, evZ, evK, evB, evL, evR, Nat.reduceBEq, Nat.reduceAdd, Nat.reduceLeDiff, boxR, rboxR, allocR, fldR, binI, unR, pickR, mknilR, mkslR, buildSlR, buildR, extR, convI, eqB, evU, wrap64, treeH, encNN, encNats]) | (with_reducible intro _) | ((with_reducible apply And.intro); omega)))
        (refine condX_intro (fun h4 => ?_) (fun h4 => ?_)) <;> (try simp only [decide_eq_true_eq, decide_eq_false_iff_not, Bool.not_eq_true', Bool.not_eq_false', Bool.and_eq_true, Bool.or_eq_true, not_true_eq_false, not_false_eq_true] at h4)
        · have hj' : j < l.length := by omega
          have hlj := hln _ (List.getElem_mem hj')
          have hkl : l[j] ∈ l := List.getElem_mem hj'
          have hidx : l.idxOf l[j] = j := hrpo.nd.idxOf_getElem j hj'
          (repeat (first | (simp (disch := (first | omega | (simp only [evF, evL, implies_true, and_self]; done) | fail)) only [evS, evZ, evK, evB, evL, evR, Nat.reduceBEq, Nat.reduceAdd, Nat.reduceLeDiff, boxR, rboxR, allocR, fldR, binI, unR, pickR, mknilR, mkslR, buildSlR, buildR, extR, convI, eqB, evU, wrap64, getD_map hj']) | (with_reducible intro _) | ((with_reducible apply And.intro); omega)))
          generalize l[j] = k at hlj hkl hidx ⊢
          (refine condX_intro (fun h5 => ?_) (fun h5 => ?_)) <;> (try simp only [decide_eq_true_eq, decide_eq_false_iff_not, Bool.not_eq_true', Bool.not_eq_false', Bool.and_eq_true, Bool.or_eq_true, not_true_eq_false, not_false_eq_true] at h5)
          · have hkr : k = r := by omega
            subst hkr
            have hj0 : j = 0 := by rw [← hidx]; exact L.pl0
            subst hj0
            unfold ac_dominator_tree_k4
            (repeat (first | (simp (disch := (first | omega | (simp only [evF, evL, implies_true, and_self]; done) | fail)) only [evS, evZ, evK, evB, evL, evR, Nat.reduceBEq, Nat.reduceAdd, Nat.reduceLeDiff, boxR, rboxR, allocR, fldR, binI, unR, pickR, mknilR, mkslR, buildSlR, buildR, extR, convI, eqB, evU, wrap64]) | (with_reducible intro _) | ((with_reducible apply And.intro); omega)))
            exact ⟨(1, cg, U), ⟨by simp only; omega, hP, hc1, hc2⟩, by simp only; omega, (Ent.tab [(0, 0, 0), (1, 1, 0), (2, 2, 0), (3, 3, 0)] [] rfl (by (try simp only [evW, evK, evB, evL, Nat.reduceBEq, Nat.reduceAdd, Nat.reduceSub, Nat.reduceLeDiff, Nat.reduceLT, implies_true, and_self, Int.natCast_zero, Int.natCast_one, Int.cast_ofNat_Int, evV, encInts, encNats, encBools, encP, encNN, treeH]) <;> (repeat' with_reducible apply And.intro) <;> first | omega | exact vw_nats rfl rfl (by omega) | exact vw_ints rfl rfl (by omega) | exact vw_bools rfl rfl (by omega) | exact rowV_fe (fun _ => rfl) | exact rowV_fe_start (c := cN) (fun _ => rfl) rfl | exact rowsV_fam (fun _ => rfl) (by decide) ⟨rfl, rfl⟩ trivial | exact rowsV_fam (fun _ => rfl) (by decide) (fun _ _ => ⟨rfl, rfl⟩) trivial | (simp; done)) (by (try simp only [evW, evK, evB, evL, Nat.reduceBEq, Nat.reduceAdd, Nat.reduceSub, Nat.reduceLeDiff, Nat.reduceLT, implies_true, and_self, Int.natCast_zero, Int.natCast_one, Int.cast_ofNat_Int, evV, encInts, encNats, encBools, encP, encNN, treeH]) <;> (repeat' with_reducible apply And.intro) <;> first | omega | exact vw_nats rfl rfl (by omega) | exact vw_ints rfl rfl (by omega) | exact vw_bools rfl rfl (by omega) | exact rowV_fe (fun _ => rfl) | exact rowV_fe_start (c := cN) (fun _ => rfl) rfl | exact rowsV_fam (fun _ => rfl) (by decide) ⟨rfl, rfl⟩ trivial | exact rowsV_fam (fun _ => rfl) (by decide) (fun _ _ => ⟨rfl, rfl⟩) trivial | (simp; done)))⟩
          · have hkr : k ≠ r := fun e => h5 (by rw [e])
            have hjpos : 0 < j := by rw [← hidx]; exact L.pos hkl hkr
            rw [show max 1 j = j by omega] at hP
            have hkb : k < back.length := by omega
            have hbk := hbs k hkb
            have hmem : ∀ p, p ∈ back[k] → p < A.length ∧ k ∈ suc A p := fun p hp => by rw [hbk] at hp; exact tLL_mem.1 hp
            have hmem2 : ∀ p, Pr A l p k → p ∈ back[k] := fun p hp => by rw [hbk]; exact tLL_mem.2 ⟨hln p hp.1, hp.2⟩
            (repeat (first | (simp (disch := (first | omega | (simp only [evF, evL, implies_true, and_self]; done) | fail)) only [evS, evZ, evK, evB, evL, evR, Nat.reduceBEq, Nat.reduceAdd, Nat.reduceLeDiff, boxR, rboxR, allocR, fldR, binI, unR, pickR, mknilR, mkslR, buildSlR, buildR, extR, convI, eqB, evU, wrap64, encNN, getD_map hkb, encNats]) | (with_reducible intro _) | ((with_reducible apply And.intro); omega)))
            have hpb : back[k].length ≤ 4000000000 := by rw [hbk]; exact Nat.le_trans (tLL_len hA _ _) (by omega)
            generalize back[k] = ps at hmem hmem2 hpb ⊢
            refine loopX_intro (fun s : Nat × Option Nat => ([(1, .int .i64 r), (5, .ptr 0 0 0 0 0), (6, .ptr 1 0 0 0 0), (8, encNats l), (10, encNN back), (11, .fn (.func f_dominator_tree_1) [.ptr 1 0 0 0 0, .ptr 0 0 0 0 0]), (12, .bool cg), (14, .int .i64 k), (15, .int .i64 (tI s.2)), (56, encNats l), (57, .int .i64 l.length), (58, .int .i64 j), (68, encNats ps), (69, .int .i64 ps.length), (70, .int .i64 s.1)], treeH A.length (outI A.length U) (plcI A.length l l.length))) 4
              (fun s => s.1 ≤ ps.length ∧ Bst U r l (ps.take s.1) s.2) (fun s => ps.length - s.1) (0, none) ⟨Nat.zero_le _, ⟨fun _ p hp => (by simp at hp), fun c hc => (by cases hc)⟩⟩ (Ent.tab [(0, 0, 0), (1, 1, 0), (2, 2, 0), (3, 3, 0)] [] rfl (by (try simp only [evW, evK, evB, evL, Nat.reduceBEq, Nat.reduceAdd, Nat.reduceSub, Nat.reduceLeDiff, Nat.reduceLT, implies_true, and_self, Int.natCast_zero, Int.natCast_one, Int.cast_ofNat_Int, evV, encInts, encNats, encBools, encP, encNN, treeH, tI]) <;> (repeat' with_reducible apply And.intro) <;> first | omega | exact vw_nats rfl rfl (by omega) | exact vw_ints rfl rfl (by omega) | exact vw_bools rfl rfl (by omega) | exact rowV_fe (fun _ => rfl) | exact rowV_fe_start (c := cN) (fun _ => rfl) rfl | exact rowsV_fam (fun _ => rfl) (by decide) ⟨rfl, rfl⟩ trivial | exact rowsV_fam (fun _ => rfl) (by decide) (fun _ _ => ⟨rfl, rfl⟩) trivial | (simp; done)) (by (try simp only [evW, evK, evB, evL, Nat.reduceBEq, Nat.reduceAdd, Nat.reduceSub, Nat.reduceLeDiff, Nat.reduceLT, implies_true, and_self, Int.natCast_zero, Int.natCast_one, Int.cast_ofNat_Int, evV, encInts, encNats, encBools, encP, encNN, treeH, tI]) <;> (repeat' with_reducible apply And.intro) <;> first | omega | exact vw_nats rfl rfl (by omega) | exact vw_ints rfl rfl (by omega) | exact vw_bools rfl rfl (by omega) | exact rowV_fe (fun _ => rfl) | exact rowV_fe_start (c := cN) (fun _ => rfl) rfl | exact rowsV_fam (fun _ => rfl) (by decide) ⟨rfl, rfl⟩ trivial | exact rowsV_fam (fun _ => rfl) (by decide) (fun _ _ => ⟨rfl, rfl⟩) trivial | (simp; done))) ?_
            rintro ⟨i, best⟩ ⟨hi, hbst⟩ wf
            simp only at hi hbst
            unfold ac_dominator_tree_l2
            generalize hbv : tI best = bv
            (repeat (first | (simp (disch := (first | omega | (simp only [evF, evL, implies_true, and_self]; done) | fail)) only [evS, evZ, evK, evB, evL, evR, Nat.reduceBEq, Nat.reduceAdd, Nat.reduceLeDiff, boxR, rboxR, allocR, fldR, binI, unR, pickR, mknilR, mkslR, buildSlR, buildR, extR, convI, eqB, evU, wrap64, treeH, encNN, encNats]) | (with_reducible intro _) | ((with_reducible apply And.intro); omega)))
            (refine condX_intro (fun h6 => ?_) (fun h6 => ?_)) <;> (try simp only [decide_eq_true_eq, decide_eq_false_iff_not, Bool.not_eq_true', Bool.not_eq_false', Bool.and_eq_true, Bool.or_eq_true, not_true_eq_false, not_false_eq_true] at h6)
            · have hi' : i < ps.length := by omega
              have hp := hmem _ (List.getElem_mem hi')
              have htk : ps.take (i + 1) = ps.take i ++ [ps[i]] := by rw [List.take_add_one, List.getElem?_eq_getElem hi']; rfl
              (repeat (first | (simp (disch := (first | omega | (simp only [evF, evL, implies_true, and_self]; done) | fail)) only [evS, evZ, evK, evB, evL, evR, Nat.reduceBEq, Nat.reduceAdd, Nat.reduceLeDiff, boxR, rboxR, allocR, fldR, binI, unR, pickR, mknilR, mkslR, buildSlR, buildR, extR, convI, eqB, evU, wrap64, getD_map hi']) | (with_reducible intro _) | ((with_reducible apply And.intro); omega)))
              generalize ps[i] = p at hp htk ⊢
              (repeat (first | (simp (disch := (first | omega | (simp only [evF, evL, implies_true, and_self]; done) | fail)) only [evS, evZ, evK, evB, evL, evR, Nat.reduceBEq, Nat.reduceAdd, Nat.reduceLeDiff, boxR, rboxR, allocR, fldR, binI, unR, pickR, mknilR, mkslR, buildSlR, buildR, extR, convI, eqB, evU, wrap64, plcI_len, plcI_get hp.1]) | (with_reducible intro _) | ((with_reducible apply And.intro); omega)))
              by_cases hpl : p ∈ l
              · have hpi := idxOf_lt' hpl
                rw [if_pos hpi]
                have hneg : ¬ ((l.idxOf p : Int) < 0) := by omega
                (repeat (first | (simp (disch := (first | omega | (simp only [evF, evL, implies_true, and_self]; done) | fail)) only [evS, evZ, evK, evB, evL, evR, Nat.reduceBEq, Nat.reduceAdd, Nat.reduceLeDiff, boxR, rboxR, allocR, fldR, binI, unR, pickR, mknilR, mkslR, buildSlR, buildR, extR, convI, eqB, evU, wrap64, decide_eq_false hneg]) | (with_reducible intro _) | ((with_reducible apply And.intro); omega)))
                generalize h7 : decide ((p : Int) ≠ r) = h7b; cases h7b <;> simp only [decide_eq_true_eq, decide_eq_false_iff_not, ne_eq, Classical.not_not] at h7
                · have hpr : p = r := by omega
                  have hh : Hd r U p := .inl hpr
                  (repeat (first | (simp (disch := (first | omega | (simp only [evF, evL, implies_true, and_self]; done) | fail)) only [evS, evZ, evK, evB, evL, evR, Nat.reduceBEq, Nat.reduceAdd, Nat.reduceLeDiff, boxR, rboxR, allocR, fldR, binI, unR, pickR, mknilR, mkslR, buildSlR, buildR, extR, convI, eqB, evU, wrap64]) | (with_reducible intro _) | ((with_reducible apply And.intro); omega)))
                  cases best with
                  | none =>
                    simp only [tI] at hbv
                    subst hbv
                    (repeat (first | (simp (disch := (first | omega | (simp only [evF, evL, implies_true, and_self]; done) | fail)) only [evS, evZ, evK, evB, evL, evR, Nat.reduceBEq, Nat.reduceAdd, Nat.reduceLeDiff, boxR, rboxR, allocR, fldR, binI, unR, pickR, mknilR, mkslR, buildSlR, buildR, extR, convI, eqB, evU, wrap64, Int.reduceNeg, Int.reduceLT]) | (with_reducible intro _) | ((with_reducible apply And.intro); omega)))
                    exact ⟨(i + 1, some p), ⟨by simp only; omega, by simp only; rw [htk]; exact hbst.first hpl hh⟩, by simp only; omega, (Ent.tab [(0, 0, 0), (1, 1, 0), (2, 2, 0), (3, 3, 0)] [] rfl (by (try simp only [evW, evK, evB, evL, Nat.reduceBEq, Nat.reduceAdd, Nat.reduceSub, Nat.reduceLeDiff, Nat.reduceLT, implies_true, and_self, Int.natCast_zero, Int.natCast_one, Int.cast_ofNat_Int, evV, encInts, encNats, encBools, encP, encNN, treeH, tI]) <;> (repeat' with_reducible apply And.intro) <;> first | omega | exact vw_nats rfl rfl (by omega) | exact vw_ints rfl rfl (by omega) | exact vw_bools rfl rfl (by omega) | exact rowV_fe (fun _ => rfl) | exact rowV_fe_start (c := cN) (fun _ => rfl) rfl | exact rowsV_fam (fun _ => rfl) (by decide) ⟨rfl, rfl⟩ trivial | exact rowsV_fam (fun _ => rfl) (by decide) (fun _ _ => ⟨rfl, rfl⟩) trivial | (simp; done)) (by (try simp only [evW, evK, evB, evL, Nat.reduceBEq, Nat.reduceAdd, Nat.reduceSub, Nat.reduceLeDiff, Nat.reduceLT, implies_true, and_self, Int.natCast_zero, Int.natCast_one, Int.cast_ofNat_Int, evV, encInts, encNats, encBools, encP, encNN, treeH, tI]) <;> (repeat' with_reducible apply And.intro) <;> first | omega | exact vw_nats rfl rfl (by omega) | exact vw_ints rfl rfl (by omega) | exact vw_bools rfl rfl (by omega) | exact rowV_fe (fun _ => rfl) | exact rowV_fe_start (c := cN) (fun _ => rfl) rfl | exact rowsV_fam (fun _ => rfl) (by decide) ⟨rfl, rfl⟩ trivial | exact rowsV_fam (fun _ => rfl) (by decide) (fun _ _ => ⟨rfl, rfl⟩) trivial | (simp; done)))⟩
                  | some c =>
                    have hcn : ¬ ((c : Int) < 0) := by omega
                    obtain ⟨hc1', hc2', _⟩ := hbst.yes c rfl
                    simp only [tI] at hbv
                    subst hbv
                    (repeat (first | (simp (disch := (first | omega | (simp only [evF, evL, implies_true, and_self]; done) | fail)) only [evS, evZ, evK, evB, evL, evR, Nat.reduceBEq, Nat.reduceAdd, Nat.reduceLeDiff, boxR, rboxR, allocR, fldR, binI, unR, pickR, mknilR, mkslR, buildSlR, buildR, extR, convI, eqB, evU, wrap64, decide_eq_false hcn]) | (with_reducible intro _) | ((with_reducible apply And.intro); omega)))
                    refine ⟨by kernel_rfl, ?_⟩
                    refine call_read (D := allR) (dominator_tree_1_ok L hP.wt A.length hln (by omega) c p hc1' hpl hc2' hh) (.cons (.int _ _ _) (.cons (.int _ _ _) (.cons (vw_cellI (l := plcI A.length l l.length) trivial (by rw [plcI_len]; rfl) trivial rfl (by rw [plcI_len]; omega)) (.cons (vw_cellI (l := outI A.length U) trivial (by rw [outI_len]; rfl) trivial rfl (by rw [outI_len]; omega)) .nil)))) (fun a h => .inl (by obtain ⟨c, rfl, _⟩ := h; rfl)) ?_
                    rintro v ⟨d, rfl, hd⟩
                    (repeat (first | (simp (disch := (first | omega | (simp only [evF, evL, implies_true, and_self]; done) | fail)) only [evS, evZ, evK, evB, evL, evR, Nat.reduceBEq, Nat.reduceAdd, Nat.reduceLeDiff, boxR, rboxR, allocR, fldR, binI, unR, pickR, mknilR, mkslR, buildSlR, buildR, extR, convI, eqB, evU, wrap64]) | (with_reducible intro _) | ((with_reducible apply And.intro); omega)))
                    exact ⟨(i + 1, some d), ⟨by simp only; omega, by simp only; rw [htk]; exact hbst.more hP.wt hpl hh hd⟩, by simp only; omega, (Ent.tab [(0, 0, 0), (1, 1, 0), (2, 2, 0), (3, 3, 0)] [] rfl (by (try simp only [evW, evK, evB, evL, Nat.reduceBEq, Nat.reduceAdd, Nat.reduceSub, Nat.reduceLeDiff, Nat.reduceLT, implies_true, and_self, Int.natCast_zero, Int.natCast_one, Int.cast_ofNat_Int, evV, encInts, encNats, encBools, encP, encNN, treeH, tI]) <;> (repeat' with_reducible apply And.intro) <;> first | omega | exact vw_nats rfl rfl (by omega) | exact vw_ints rfl rfl (by omega) | exact vw_bools rfl rfl (by omega) | exact rowV_fe (fun _ => rfl) | exact rowV_fe_start (c := cN) (fun _ => rfl) rfl | exact rowsV_fam (fun _ => rfl) (by decide) ⟨rfl, rfl⟩ trivial | exact rowsV_fam (fun _ => rfl) (by decide) (fun _ _ => ⟨rfl, rfl⟩) trivial | (simp; done)) (by (try simp only [evW, evK, evB, evL, Nat.reduceBEq, Nat.reduceAdd, Nat.reduceSub, Nat.reduceLeDiff, Nat.reduceLT, implies_true, and_self, Int.natCast_zero, Int.natCast_one, Int.cast_ofNat_Int, evV, encInts, encNats, encBools, encP, encNN, treeH, tI]) <;> (repeat' with_reducible apply And.intro) <;> first | omega | exact vw_nats rfl rfl (by omega) | exact vw_ints rfl rfl (by omega) | exact vw_bools rfl rfl (by omega) | exact rowV_fe (fun _ => rfl) | exact rowV_fe_start (c := cN) (fun _ => rfl) rfl | exact rowsV_fam (fun _ => rfl) (by decide) ⟨rfl, rfl⟩ trivial | exact rowsV_fam (fun _ => rfl) (by decide) (fun _ _ => ⟨rfl, rfl⟩) trivial | (simp; done)))⟩
                · have hpr : p ≠ r := fun e => h7 (by rw [e])
                  (repeat (first | (simp (disch := (first | omega | (simp only [evF, evL, implies_true, and_self]; done) | fail)) only [evS, evZ, evK, evB, evL, evR, Nat.reduceBEq, Nat.reduceAdd, Nat.reduceLeDiff, boxR, rboxR, allocR, fldR, binI, unR, pickR, mknilR, mkslR, buildSlR, buildR, extR, convI, eqB, evU, wrap64, outI_len, outI_get hp.1]) | (with_reducible intro _) | ((with_reducible apply And.intro); omega)))
                  generalize hov : tI (U p) = ov
                  cases hUp : U p with
                  | none =>
                    rw [hUp] at hov
                    simp only [tI] at hov
                    subst hov
                    have hno : ¬ (p ∈ l ∧ Hd r U p) := fun h => (by rcases h.2 with h | h; exact hpr h; exact h hUp)
                    (repeat (first | (simp (disch := (first | omega | (simp only [evF, evL, implies_true, and_self]; done) | fail)) only [evS, evZ, evK, evB, evL, evR, Nat.reduceBEq, Nat.reduceAdd, Nat.reduceLeDiff, boxR, rboxR, allocR, fldR, binI, unR, pickR, mknilR, mkslR, buildSlR, buildR, extR, convI, eqB, evU, wrap64, Int.reduceNeg, Int.reduceLT]) | (with_reducible intro _) | ((with_reducible apply And.intro); omega)))
                    subst hbv
                    exact ⟨(i + 1, best), ⟨by simp only; omega, by simp only; rw [htk]; exact hbst.skip hno⟩, by simp only; omega, (Ent.tab [(0, 0, 0), (1, 1, 0), (2, 2, 0), (3, 3, 0)] [] rfl (by (try simp only [evW, evK, evB, evL, Nat.reduceBEq, Nat.reduceAdd, Nat.reduceSub, Nat.reduceLeDiff, Nat.reduceLT, implies_true, and_self, Int.natCast_zero, Int.natCast_one, Int.cast_ofNat_Int, evV, encInts, encNats, encBools, encP, encNN, treeH, tI]) <;> (repeat' with_reducible apply And.intro) <;> first | omega | exact vw_nats rfl rfl (by omega) | exact vw_ints rfl rfl (by omega) | exact vw_bools rfl rfl (by omega) | exact rowV_fe (fun _ => rfl) | exact rowV_fe_start (c := cN) (fun _ => rfl) rfl | exact rowsV_fam (fun _ => rfl) (by decide) ⟨rfl, rfl⟩ trivial | exact rowsV_fam (fun _ => rfl) (by decide) (fun _ _ => ⟨rfl, rfl⟩) trivial | (simp; done)) (by (try simp only [evW, evK, evB, evL, Nat.reduceBEq, Nat.reduceAdd, Nat.reduceSub, Nat.reduceLeDiff, Nat.reduceLT, implies_true, and_self, Int.natCast_zero, Int.natCast_one, Int.cast_ofNat_Int, evV, encInts, encNats, encBools, encP, encNN, treeH, tI]) <;> (repeat' with_reducible apply And.intro) <;> first | omega | exact vw_nats rfl rfl (by omega) | exact vw_ints rfl rfl (by omega) | exact vw_bools rfl rfl (by omega) | exact rowV_fe (fun _ => rfl) | exact rowV_fe_start (c := cN) (fun _ => rfl) rfl | exact rowsV_fam (fun _ => rfl) (by decide) ⟨rfl, rfl⟩ trivial | exact rowsV_fam (fun _ => rfl) (by decide) (fun _ _ => ⟨rfl, rfl⟩) trivial | (simp; done)))⟩
                  | some u =>
                    have hh : Hd r U p := .inr (by rw [hUp]; simp)
                    have hun : ¬ ((u : Int) < 0) := by omega
                    rw [hUp] at hov
                    simp only [tI] at hov
                    subst hov
                    (repeat (first | (simp (disch := (first | omega | (simp only [evF, evL, implies_true, and_self]; done) | fail)) only [evS, evZ, evK, evB, evL, evR, Nat.reduceBEq, Nat.reduceAdd, Nat.reduceLeDiff, boxR, rboxR, allocR, fldR, binI, unR, pickR, mknilR, mkslR, buildSlR, buildR, extR, convI, eqB, evU, wrap64, decide_eq_false hun]) | (with_reducible intro _) | ((with_reducible apply And.intro); omega)))
                    cases best with
                    | none =>
                      simp only [tI] at hbv
                      subst hbv
                      (repeat (first | (simp (disch := (first | omega | (simp only [evF, evL, implies_true, and_self]; done) | fail)) only [evS, evZ, evK, evB, evL, evR, Nat.reduceBEq, Nat.reduceAdd, Nat.reduceLeDiff, boxR, rboxR, allocR, fldR, binI, unR, pickR, mknilR, mkslR, buildSlR, buildR, extR, convI, eqB, evU, wrap64, Int.reduceNeg, Int.reduceLT]) | (with_reducible intro _) | ((with_reducible apply And.intro); omega)))
                      exact ⟨(i + 1, some p), ⟨by simp only; omega, by simp only; rw [htk]; exact hbst.first hpl hh⟩, by simp only; omega, (Ent.tab [(0, 0, 0), (1, 1, 0), (2, 2, 0), (3, 3, 0)] [] rfl (by (try simp only [evW, evK, evB, evL, Nat.reduceBEq, Nat.reduceAdd, Nat.reduceSub, Nat.reduceLeDiff, Nat.reduceLT, implies_true, and_self, Int.natCast_zero, Int.natCast_one, Int.cast_ofNat_Int, evV, encInts, encNats, encBools, encP, encNN, treeH, tI]) <;> (repeat' with_reducible apply And.intro) <;> first | omega | exact vw_nats rfl rfl (by omega) | exact vw_ints rfl rfl (by omega) | exact vw_bools rfl rfl (by omega) | exact rowV_fe (fun _ => rfl) | exact rowV_fe_start (c := cN) (fun _ => rfl) rfl | exact rowsV_fam (fun _ => rfl) (by decide) ⟨rfl, rfl⟩ trivial | exact rowsV_fam (fun _ => rfl) (by decide) (fun _ _ => ⟨rfl, rfl⟩) trivial | (simp; done)) (by (try simp only [evW, evK, evB, evL, Nat.reduceBEq, Nat.reduceAdd, Nat.reduceSub, Nat.reduceLeDiff, Nat.reduceLT, implies_true, and_self, Int.natCast_zero, Int.natCast_one, Int.cast_ofNat_Int, evV, encInts, encNats, encBools, encP, encNN, treeH, tI]) <;> (repeat' with_reducible apply And.intro) <;> first | omega | exact vw_nats rfl rfl (by omega) | exact vw_ints rfl rfl (by omega) | exact vw_bools rfl rfl (by omega) | exact rowV_fe (fun _ => rfl) | exact rowV_fe_start (c := cN) (fun _ => rfl) rfl | exact rowsV_fam (fun _ => rfl) (by decide) ⟨rfl, rfl⟩ trivial | exact rowsV_fam (fun _ => rfl) (by decide) (fun _ _ => ⟨rfl, rfl⟩) trivial | (simp; done)))⟩
                    | some c =>
                      have hcn : ¬ ((c : Int) < 0) := by omega
                      obtain ⟨hc1', hc2', _⟩ := hbst.yes c rfl
                      simp only [tI] at hbv
                      subst hbv
                      (repeat (first | (simp (disch := (first | omega | (simp only [evF, evL, implies_true, and_self]; done) | fail)) only [evS, evZ, evK, evB, evL, evR, Nat.reduceBEq, Nat.reduceAdd, Nat.reduceLeDiff, boxR, rboxR, allocR, fldR, binI, unR, pickR, mknilR, mkslR, buildSlR, buildR, extR, convI, eqB, evU, wrap64, decide_eq_false hcn]) | (with_reducible intro _) | ((with_reducible apply And.intro); omega)))
                      refine ⟨by kernel_rfl, ?_⟩
                      refine call_read (D := allR) (dominator_tree_1_ok L hP.wt A.length hln (by omega) c p hc1' hpl hc2' hh) (.cons (.int _ _ _) (.cons (.int _ _ _) (.cons (vw_cellI (l := plcI A.length l l.length) trivial (by rw [plcI_len]; rfl) trivial rfl (by rw [plcI_len]; omega)) (.cons (vw_cellI (l := outI A.length U) trivial (by rw [outI_len]; rfl) trivial rfl (by rw [outI_len]; omega)) .nil)))) (fun a h => .inl (by obtain ⟨c, rfl, _⟩ := h; rfl)) ?_
                      rintro v ⟨d, rfl, hd⟩
                      (repeat (first | (simp (disch := (first | omega | (simp only [evF, evL, implies_true, and_self]; done) | fail)) only [evS, evZ, evK, evB, evL, evR, Nat.reduceBEq, Nat.reduceAdd, Nat.reduceLeDiff, boxR, rboxR, allocR, fldR, binI, unR, pickR, mknilR, mkslR, buildSlR, buildR, extR, convI, eqB, evU, wrap64]) | (with_reducible intro _) | ((with_reducible apply And.intro); omega)))
                      exact ⟨(i + 1, some d), ⟨by simp only; omega, by simp only; rw [htk]; exact hbst.more hP.wt hpl hh hd⟩, by simp only; omega, (Ent.tab [(0, 0, 0), (1, 1, 0), (2, 2, 0), (3, 3, 0)] [] rfl (by (try simp only [evW, evK, evB, evL, Nat.reduceBEq, Nat.reduceAdd, Nat.reduceSub, Nat.reduceLeDiff, Nat.reduceLT, implies_true, and_self, Int.natCast_zero, Int.natCast_one, Int.cast_ofNat_Int, evV, encInts, encNats, encBools, encP, encNN, treeH, tI]) <;> (repeat' with_reducible apply And.intro) <;> first | omega | exact vw_nats rfl rfl (by omega) | exact vw_ints rfl rfl (by omega) | exact vw_bools rfl rfl (by omega) | exact rowV_fe (fun _ => rfl) | exact rowV_fe_start (c := cN) (fun _ => rfl) rfl | exact rowsV_fam (fun _ => rfl) (by decide) ⟨rfl, rfl⟩ trivial | exact rowsV_fam (fun _ => rfl) (by decide) (fun _ _ => ⟨rfl, rfl⟩) trivial | (simp; done)) (by (try simp only [evW, evK, evB, evL, Nat.reduceBEq, Nat.reduceAdd, Nat.reduceSub, Nat.reduceLeDiff, Nat.reduceLT, implies_true, and_self, Int.natCast_zero, Int.natCast_one, Int.cast_ofNat_Int, evV, encInts, encNats, encBools, encP, encNN, treeH, tI]) <;> (repeat' with_reducible apply And.intro) <;> first | omega | exact vw_nats rfl rfl (by omega) | exact vw_ints rfl rfl (by omega) | exact vw_bools rfl rfl (by omega) | exact rowV_fe (fun _ => rfl) | exact rowV_fe_start (c := cN) (fun _ => rfl) rfl | exact rowsV_fam (fun _ => rfl) (by decide) ⟨rfl, rfl⟩ trivial | exact rowsV_fam (fun _ => rfl) (by decide) (fun _ _ => ⟨rfl, rfl⟩) trivial | (simp; done)))⟩
              · have hno : ¬ (p ∈ l ∧ Hd r U p) := fun h => hpl h.1
                have hpi : ¬ l.idxOf p < l.length := fun h => hpl (List.idxOf_lt_length_iff.1 h)
                rw [if_neg hpi]
                (repeat (first | (simp (disch := (first | omega | (simp only [evF, evL, implies_true, and_self]; done) | fail)) only [evS, evZ, evK, evB, evL, evR, Nat.reduceBEq, Nat.reduceAdd, Nat.reduceLeDiff, boxR, rboxR, allocR, fldR, binI, unR, pickR, mknilR, mkslR, buildSlR, buildR, extR, convI, eqB, evU, wrap64, Int.reduceNeg, Int.reduceLT]) | (with_reducible intro _) | ((with_reducible apply And.intro); omega)))
                subst hbv
                exact ⟨(i + 1, best), ⟨by simp only; omega, by simp only; rw [htk]; exact hbst.skip hno⟩, by simp only; omega, (Ent.tab [(0, 0, 0), (1, 1, 0), (2, 2, 0), (3, 3, 0)] [] rfl (by (try simp only [evW, evK, evB, evL, Nat.reduceBEq, Nat.reduceAdd, Nat.reduceSub, Nat.reduceLeDiff, Nat.reduceLT, implies_true, and_self, Int.natCast_zero, Int.natCast_one, Int.cast_ofNat_Int, evV, encInts, encNats, encBools, encP, encNN, treeH, tI]) <;> (repeat' with_reducible apply And.intro) <;> first | omega | exact vw_nats rfl rfl (by omega) | exact vw_ints rfl rfl (by omega) | exact vw_bools rfl rfl (by omega) | exact rowV_fe (fun _ => rfl) | exact rowV_fe_start (c := cN) (fun _ => rfl) rfl | exact rowsV_fam (fun _ => rfl) (by decide) ⟨rfl, rfl⟩ trivial | exact rowsV_fam (fun _ => rfl) (by decide) (fun _ _ => ⟨rfl, rfl⟩) trivial | (simp; done)) (by (try simp only [evW, evK, evB, evL, Nat.reduceBEq, Nat.reduceAdd, Nat.reduceSub, Nat.reduceLeDiff, Nat.reduceLT, implies_true, and_self, Int.natCast_zero, Int.natCast_one, Int.cast_ofNat_Int, evV, encInts, encNats, encBools, encP, encNN, treeH, tI]) <;> (repeat' with_reducible apply And.intro) <;> first | omega | exact vw_nats rfl rfl (by omega) | exact vw_ints rfl rfl (by omega) | exact vw_bools rfl rfl (by omega) | exact rowV_fe (fun _ => rfl) | exact rowV_fe_start (c := cN) (fun _ => rfl) rfl | exact rowsV_fam (fun _ => rfl) (by decide) ⟨rfl, rfl⟩ trivial | exact rowsV_fam (fun _ => rfl) (by decide) (fun _ _ => ⟨rfl, rfl⟩) trivial | (simp; done)))⟩
            · obtain rfl : i = ps.length := by omega
              rw [List.take_length] at hbst
              obtain ⟨f1, f2, f3⟩ := L.fm k hkl hkr
              have hfU : Hd r U (f k) := by
                by_cases hfr : f k = r
                · exact .inl hfr
                · obtain ⟨c, h, _⟩ := hP.new (f k) f1 hfr (by omega)
                  exact .inr (by rw [h]; simp)
              cases best with
              | none => exact absurd hfU (hbst.no rfl (f k) (hmem2 _ ⟨f1, f2⟩) f1)
              | some c =>
                simp only [tI] at hbv
                subst hbv
                obtain ⟨b1, b2, b3⟩ := hbst.yes c rfl
                have hstep := hP.step L hT.wt hkl hkr hidx (c := c) (fun x => (b3 x).trans ⟨fun h p hp hh => h p (hmem2 p hp) hp.1 hh, fun h p hp h8 h9 => h p ⟨h8, (hmem p hp).2⟩ h9⟩)
                have hTk : U k = T k := hP.old k (.inr (by omega))
                unfold ac_dominator_tree_k3
                (repeat (first | (simp (disch := (first | omega | (simp only [evF, evL, implies_true, and_self]; done) | fail)) only [evS, evZ, evK, evB, evL, evR, Nat.reduceBEq, Nat.reduceAdd, Nat.reduceLeDiff, boxR, rboxR, allocR, fldR, binI, unR, pickR, mknilR, mkslR, buildSlR, buildR, extR, convI, eqB, evU, wrap64, treeH, outI_len, outI_get hlj]) | (with_reducible intro _) | ((with_reducible apply And.intro); omega)))
                (refine condX_intro (fun h7 => ?_) (fun h7 => ?_)) <;> (try simp only [decide_eq_true_eq, decide_eq_false_iff_not, Bool.not_eq_true', Bool.not_eq_false', Bool.and_eq_true, Bool.or_eq_true, not_true_eq_false, not_false_eq_true] at h7)
                · have hck : some c ≠ U k := fun e => h7 (by rw [← e]; rfl)
                  unfold ac_dominator_tree_k4
                  (repeat (first | (simp (disch := (first | omega | (simp only [evF, evL, implies_true, and_self]; done) | fail)) only [evS, evZ, evK, evB, evL, evR, Nat.reduceBEq, Nat.reduceAdd, Nat.reduceLeDiff, boxR, rboxR, allocR, fldR, binI, unR, pickR, mknilR, mkslR, buildSlR, buildR, extR, convI, eqB, evU, wrap64, outI_len, outI_setS]) | (with_reducible intro _) | ((with_reducible apply And.intro); omega)))
                  exact ⟨(j + 1, true, updF U k (some c)), ⟨by simp only; omega, by simp only; rw [show max 1 (j + 1) = j + 1 by omega]; exact hstep, fun _ => ⟨k, hkl, by simp only; rw [updF_same, ← hTk]; exact hck⟩, fun h => (by cases h)⟩, by simp only; omega, (Ent.tab [(0, 0, 0), (1, 1, 0), (2, 2, 0), (3, 3, 0)] [] rfl (by (try simp only [evW, evK, evB, evL, Nat.reduceBEq, Nat.reduceAdd, Nat.reduceSub, Nat.reduceLeDiff, Nat.reduceLT, implies_true, and_self, Int.natCast_zero, Int.natCast_one, Int.cast_ofNat_Int, evV, encInts, encNats, encBools, encP, encNN, treeH, tI]) <;> (repeat' with_reducible apply And.intro) <;> first | omega | exact vw_nats rfl rfl (by omega) | exact vw_ints rfl rfl (by omega) | exact vw_bools rfl rfl (by omega) | exact rowV_fe (fun _ => rfl) | exact rowV_fe_start (c := cN) (fun _ => rfl) rfl | exact rowsV_fam (fun _ => rfl) (by decide) ⟨rfl, rfl⟩ trivial | exact rowsV_fam (fun _ => rfl) (by decide) (fun _ _ => ⟨rfl, rfl⟩) trivial | (simp; done)) (by (try simp only [evW, evK, evB, evL, Nat.reduceBEq, Nat.reduceAdd, Nat.reduceSub, Nat.reduceLeDiff, Nat.reduceLT, implies_true, and_self, Int.natCast_zero, Int.natCast_one, Int.cast_ofNat_Int, evV, encInts, encNats, encBools, encP, encNN, treeH, tI]) <;> (repeat' with_reducible apply And.intro) <;> first | omega | exact vw_nats rfl rfl (by omega) | exact vw_ints rfl rfl (by omega) | exact vw_bools rfl rfl (by omega) | exact rowV_fe (fun _ => rfl) | exact rowV_fe_start (c := cN) (fun _ => rfl) rfl | exact rowsV_fam (fun _ => rfl) (by decide) ⟨rfl, rfl⟩ trivial | exact rowsV_fam (fun _ => rfl) (by decide) (fun _ _ => ⟨rfl, rfl⟩) trivial | (simp; done)))⟩
                · have hck : U k = some c := by
                    cases hU : U k with
                    | none => rw [hU] at h7; simp [tI] at h7
                    | some u => rw [hU] at h7; simp [tI] at h7; rw [show u = c by omega]
                  have hsame : updF U k (some c) = U := by funext v; unfold updF; split; (rename_i h; rw [h, hck]); rfl
                  rw [hsame] at hstep
                  unfold ac_dominator_tree_k4
                  (repeat (first | (simp (disch := (first | omega | (simp only [evF, evL, implies_true, and_self]; done) | fail)) only [evS, evZ, evK, evB, evL, evR, Nat.reduceBEq, Nat.reduceAdd, Nat.reduceLeDiff, boxR, rboxR, allocR, fldR, binI, unR, pickR, mknilR, mkslR, buildSlR, buildR, extR, convI, eqB, evU, wrap64]) | (with_reducible intro _) | ((with_reducible apply And.intro); omega)))
                  exact ⟨(j + 1, cg, U), ⟨by simp only; omega, by simp only; rw [show max 1 (j + 1) = j + 1 by omega]; exact hstep, hc1, hc2⟩, by simp only; omega, (Ent.tab [(0, 0, 0), (1, 1, 0), (2, 2, 0), (3, 3, 0)] [] rfl (by (try simp only [evW, evK, evB, evL, Nat.reduceBEq, Nat.reduceAdd, Nat.reduceSub, Nat.reduceLeDiff, Nat.reduceLT, implies_true, and_self, Int.natCast_zero, Int.natCast_one, Int.cast_ofNat_Int, evV, encInts, encNats, encBools, encP, encNN, treeH, tI]) <;> (repeat' with_reducible apply And.intro) <;> first | omega | exact vw_nats rfl rfl (by omega) | exact vw_ints rfl rfl (by omega) | exact vw_bools rfl rfl (by omega) | exact rowV_fe (fun _ => rfl) | exact rowV_fe_start (c := cN) (fun _ => rfl) rfl | exact rowsV_fam (fun _ => rfl) (by decide) ⟨rfl, rfl⟩ trivial | exact rowsV_fam (fun _ => rfl) (by decide) (fun _ _ => ⟨rfl, rfl⟩) trivial | (simp; done)) (by (try simp only [evW, evK, evB, evL, Nat.reduceBEq, Nat.reduceAdd, Nat.reduceSub, Nat.reduceLeDiff, Nat.reduceLT, implies_true, and_self, Int.natCast_zero, Int.natCast_one, Int.cast_ofNat_Int, evV, encInts, encNats, encBools, encP, encNN, treeH, tI]) <;> (repeat' with_reducible apply And.intro) <;> first | omega | exact vw_nats rfl rfl (by omega) | exact vw_ints rfl rfl (by omega) | exact vw_bools rfl rfl (by omega) | exact rowV_fe (fun _ => rfl) | exact rowV_fe_start (c := cN) (fun _ => rfl) rfl | exact rowsV_fam (fun _ => rfl) (by decide) ⟨rfl, rfl⟩ trivial | exact rowsV_fam (fun _ => rfl) (by decide) (fun _ _ => ⟨rfl, rfl⟩) trivial | (simp; done)))⟩
        · obtain rfl : j = l.length := by omega
          have hlp : 0 < l.length := List.length_pos_of_mem L.root
          rw [show max 1 l.length = l.length by omega] at hP
          obtain ⟨hg, hTI⟩ := hT.next L hP
          (repeat (first | (simp (disch := (first | omega | (simp only [evF, evL, implies_true, and_self]; done) | fail)) only [evS, evZ, evK, evB, evL, evR, Nat.reduceBEq, Nat.reduceAdd, Nat.reduceLeDiff, boxR, rboxR, allocR, fldR, binI, unR, pickR, mknilR, mkslR, buildSlR, buildR, extR, convI, eqB, evU, wrap64]) | (with_reducible intro _) | ((with_reducible apply And.intro); omega)))
          cases cg with
          | true =>
            obtain ⟨v, hv, hne⟩ := hc1 rfl
            have := hg.far L hv hne
            exact ⟨(true, U), ⟨hTI, fun h => (by cases h)⟩, by simp only [if_true]; omega, (Ent.tab [(0, 0, 0), (1, 1, 0), (2, 2, 0), (3, 3, 0)] [] rfl (by (try simp only [evW, evK, evB, evL, Nat.reduceBEq, Nat.reduceAdd, Nat.reduceSub, Nat.reduceLeDiff, Nat.reduceLT, implies_true, and_self, Int.natCast_zero, Int.natCast_one, Int.cast_ofNat_Int, evV, encInts, encNats, encBools, encP, encNN, treeH]) <;> (repeat' with_reducible apply And.intro) <;> first | omega | exact vw_nats rfl rfl (by omega) | exact vw_ints rfl rfl (by omega) | exact vw_bools rfl rfl (by omega) | exact rowV_fe (fun _ => rfl) | exact rowV_fe_start (c := cN) (fun _ => rfl) rfl | exact rowsV_fam (fun _ => rfl) (by decide) ⟨rfl, rfl⟩ trivial | exact rowsV_fam (fun _ => rfl) (by decide) (fun _ _ => ⟨rfl, rfl⟩) trivial | (simp; done)) (by (try simp only [evW, evK, evB, evL, Nat.reduceBEq, Nat.reduceAdd, Nat.reduceSub, Nat.reduceLeDiff, Nat.reduceLT, implies_true, and_self, Int.natCast_zero, Int.natCast_one, Int.cast_ofNat_Int, evV, encInts, encNats, encBools, encP, encNN, treeH]) <;> (repeat' with_reducible apply And.intro) <;> first | omega | exact vw_nats rfl rfl (by omega) | exact vw_ints rfl rfl (by omega) | exact vw_bools rfl rfl (by omega) | exact rowV_fe (fun _ => rfl) | exact rowV_fe_start (c := cN) (fun _ => rfl) rfl | exact rowsV_fam (fun _ => rfl) (by decide) ⟨rfl, rfl⟩ trivial | exact rowsV_fam (fun _ => rfl) (by decide) (fun _ _ => ⟨rfl, rfl⟩) trivial | (simp; done)))⟩
          | false =>
            have hU := hc2 rfl
            subst hU
            exact ⟨(false, U), ⟨hTI, fun _ => hg.done L hT.sd⟩, by simp, (Ent.tab [(0, 0, 0), (1, 1, 0), (2, 2, 0), (3, 3, 0)] [] rfl (by (try simp only [evW, evK, evB, evL, Nat.reduceBEq, Nat.reduceAdd, Nat.reduceSub, Nat.reduceLeDiff, Nat.reduceLT, implies_true, and_self, Int.natCast_zero, Int.natCast_one, Int.cast_ofNat_Int, evV, encInts, encNats, encBools, encP, encNN, treeH]) <;> (repeat' with_reducible apply And.intro) <;> first | omega | exact vw_nats rfl rfl (by omega) | exact vw_ints rfl rfl (by omega) | exact vw_bools rfl rfl (by omega) | exact rowV_fe (fun _ => rfl) | exact rowV_fe_start (c := cN) (fun _ => rfl) rfl | exact rowsV_fam (fun _ => rfl) (by decide) ⟨rfl, rfl⟩ trivial | exact rowsV_fam (fun _ => rfl) (by decide) (fun _ _ => ⟨rfl, rfl⟩) trivial | (simp; done)) (by (try simp only [evW, evK, evB, evL, Nat.reduceBEq, Nat.reduceAdd, Nat.reduceSub, Nat.reduceLeDiff, Nat.reduceLT, implies_true, and_self, Int.natCast_zero, Int.natCast_one, Int.cast_ofNat_Int, evV, encInts, encNats, encBools, encP, encNN, treeH]) <;> (repeat' with_reducible apply And.intro) <;> first | omega | exact vw_nats rfl rfl (by omega) | exact vw_ints rfl rfl (by omega) | exact vw_bools rfl rfl (by omega) | exact rowV_fe (fun _ => rfl) | exact rowV_fe_start (c := cN) (fun _ => rfl) rfl | exact rowsV_fam (fun _ => rfl) (by decide) ⟨rfl, rfl⟩ trivial | exact rowsV_fam (fun _ => rfl) (by decide) (fun _ _ => ⟨rfl, rfl⟩) trivial | (simp; done)))⟩
      · subst h3
        unfold ac_dominator_tree_k7
        (repeat (first | (simp (disch := (first | omega | (simp only [evF, evL, implies_true, and_self]; done) | fail)) only [evS, evZ, evK, evB, evL, evR, Nat.reduceBEq, Nat.reduceAdd, Nat.reduceLeDiff, boxR, rboxR, allocR, fldR, binI, unR, pickR, mknilR, mkslR, buildSlR, buildR, extR, convI, eqB, evU, wrap64, rs_dominator_tree]) | (with_reducible intro _) | ((with_reducible apply And.intro); omega)))
        refine ⟨.own 0 0 0 0 A.length, [(0, .row 1 ((outI A.length T).map cI) 0)], 1, (Ent.tab [(0, 2, 0)] [] rfl (by (try simp only [evW, evK, evB, evL, Nat.reduceBEq, Nat.reduceAdd, Nat.reduceSub, Nat.reduceLeDiff, Nat.reduceLT, implies_true, and_self, Int.natCast_zero, Int.natCast_one, Int.cast_ofNat_Int, evV, encInts, encNats, encBools, encP]) <;> (repeat' with_reducible apply And.intro) <;> first | omega | exact vw_nats rfl rfl (by omega) | exact vw_ints rfl rfl (by omega) | exact vw_bools rfl rfl (by omega) | exact rowV_fe (fun _ => rfl) | exact rowV_fe_start (c := cN) (fun _ => rfl) rfl | exact rowsV_fam (fun _ => rfl) (by decide) ⟨rfl, rfl⟩ trivial | exact rowsV_fam (fun _ => rfl) (by decide) (fun _ _ => ⟨rfl, rfl⟩) trivial | (simp; done)) (by (try simp only [evW, evK, evB, evL, Nat.reduceBEq, Nat.reduceAdd, Nat.reduceSub, Nat.reduceLeDiff, Nat.reduceLT, implies_true, and_self, Int.natCast_zero, Int.natCast_one, Int.cast_ofNat_Int, evV, encInts, encNats, encBools, encP]) <;> (repeat' with_reducible apply And.intro) <;> first | omega | exact vw_nats rfl rfl (by omega) | exact vw_ints rfl rfl (by omega) | exact vw_bools rfl rfl (by omega) | exact rowV_fe (fun _ => rfl) | exact rowV_fe_start (c := cN) (fun _ => rfl) rfl | exact rowsV_fam (fun _ => rfl) (by decide) ⟨rfl, rfl⟩ trivial | exact rowsV_fam (fun _ => rfl) (by decide) (fun _ _ => ⟨rfl, rfl⟩) trivial | (simp; done))), T, hdone rfl, rfl, rfl, rfl⟩

end Go.Ab

namespace Go.Ab

theorem nodup_sub_len : ∀ {l m : List Nat}, l.Nodup → (∀ x ∈ l, x ∈ m) → l.length ≤ m.length
  | [], _, _, _ => Nat.zero_le _
  | a :: l, m, h, hs => by
    have ha := hs a (by simp)
    have h1 := List.nodup_cons.1 h
    have := nodup_sub_len (l := l) (m := m.erase a) h1.2 (fun x hx => (List.mem_erase_of_ne (fun e => h1.1 (by rw [← e]; exact hx))).2 (hs x (by simp [hx])))
    rw [List.length_erase_of_mem ha] at this
    have := List.length_pos_of_mem ha
    simp only [List.length_cons]
    omega

theorem near_fold {S : Adj} {c : Nat} : ∀ (L : List Nat) (best : Int), (best = -1 ∨ ∃ m : Nat, best = m ∧ (m ≠ c → (suc S m).length < (suc S c).length)) → (c ∈ L ∨ best = c) → (∀ a ∈ L, a ≠ c → (suc S a).length < (suc S c).length) → L.foldl (nearAdd S) best = c
  | [], best, _, h, _ => by
    rcases h with h | h
    · cases h
    · exact h
  | a :: L, best, hb, hc, hl => by
    rw [List.foldl_cons]
    by_cases hac : a = c
    · subst hac
      have e : nearAdd S best a = a := by
        unfold nearAdd
        rcases hb with rfl | ⟨m, rfl, hm⟩
        · rw [if_pos (.inl (by omega))]
        · by_cases hma : m = a
          · subst hma; rw [if_neg (by rintro (h | h); omega; simp at h)]
          · rw [if_pos (.inr (by simpa using hm hma))]
      rw [e]
      exact near_fold L a (.inr ⟨a, rfl, fun h => absurd rfl h⟩) (.inr rfl) (fun x hx => hl x (by simp [hx]))
    · have ha := hl a (by simp) hac
      refine near_fold L _ ?_ ?_ (fun x hx => hl x (by simp [hx]))
      · unfold nearAdd
        split
        · exact .inr ⟨a, rfl, fun _ => ha⟩
        · exact hb
      · rcases hc with hc | hc
        · rcases List.mem_cons.1 hc with h | h
          · exact absurd h.symm hac
          · exact .inl h
        · subst hc
          right
          unfold nearAdd
          rw [if_neg (by rintro (h | h); omega; simp at h; omega)]

/-- The lists of strict dominators; 'inc': with the root? -/
structure SL (A : Adj) (r : Nat) (l : List Nat) (inc : Bool) (S : Adj) (n : Nat) : Prop where
  nd : ∀ b, b < n → (suc S b).Nodup
  mem : ∀ a b, b < n → (a ∈ suc S b ↔ (b ∈ l ∧ a ∈ l ∧ a ≠ b ∧ (a ≠ r ∨ inc = true) ∧ Dm A r a b))

theorem near_tree {A : Adj} {r : Nat} {l : List Nat} {f : Nat → Nat} {T : Nat → Option Nat} {inc : Bool} {S : Adj} {n : Nat} (L : Lay A r l f) (D : DTree' A r l T) (h : SL A r l inc S n) (hln : ∀ x ∈ l, (x ≠ r ∨ inc = true) → x < n) {b : Nat} (hb : b < n) (hnone : ∀ v, v ∉ l → T v = none) :
    nearL S b = match T b with
      | none => -1
      | some c => if c ≠ r ∨ inc = true then c else -1 := by
  have hempty : (∀ a, a ∉ suc S b) → nearL S b = -1 := fun he => by
    unfold nearL
    rw [List.eq_nil_iff_forall_not_mem.2 he]
    rfl
  cases hT : T b with
  | none =>
    simp only
    refine hempty fun a ha => ?_
    obtain ⟨h1, h2, h3, h4, h5⟩ := (h.mem a b hb).1 ha
    rcases ((D.ch b h1 a h2).2 h5).cases' with h6 | ⟨j, h6, _⟩
    · exact h3 h6
    · rw [hT] at h6; cases h6
  | some c =>
    obtain ⟨hbl, hcl, hcp, _⟩ := D.wt.up b c hT
    have hcb : c ≠ b := fun e => by subst e; omega
    have hdc : Dm A r c b := (D.ch b hbl c hcl).1 (.up hT (.refl _))
    have below : ∀ a, a ∈ suc S b → a ∈ l ∧ Ch T c a := by
      intro a ha
      obtain ⟨h1, h2, h3, h4, h5⟩ := (h.mem a b hb).1 ha
      rcases ((D.ch b h1 a h2).2 h5).cases' with h6 | ⟨j, h6, h7⟩
      · exact absurd h6 h3
      · rw [hT] at h6; cases h6; exact ⟨h2, h7⟩
    simp only
    by_cases hci : c ≠ r ∨ inc = true
    · rw [if_pos hci]
      have hcS : c ∈ suc S b := (h.mem c b hb).2 ⟨hbl, hcl, hcb, hci, hdc⟩
      refine near_fold _ _ (.inl rfl) (.inl hcS) fun a ha hac => ?_
      obtain ⟨h1, h2, h3, h4, h5⟩ := (h.mem a b hb).1 ha
      obtain ⟨_, hca⟩ := below a ha
      have han := hln a h2 h4
      have hcn := hln c hcl hci
      have hlt : l.idxOf a < l.idxOf c := by
        obtain ⟨_, h6, h7⟩ := D.wt.mem L.root hcl hca
        rcases Nat.lt_or_ge (l.idxOf a) (l.idxOf c) with h8 | h8
        · exact h8
        · exact absurd (h7 (by omega)) hac
      have hdca : Dm A r a c := (D.ch c hcl a h2).1 hca
      have hnotin : a ∉ suc S a := fun hh => ((h.mem a a han).1 hh).2.2.1 rfl
      have := nodup_sub_len (l := a :: suc S a) (m := suc S c) (List.nodup_cons.2 ⟨hnotin, h.nd a han⟩) (fun x hx => by
        rcases List.mem_cons.1 hx with rfl | hx
        · exact (h.mem x c hcn).2 ⟨hcl, h2, hac, h4, hdca⟩
        · obtain ⟨g1, g2, g3, g4, g5⟩ := (h.mem x a han).1 hx
          have hax := (D.ch a h2 x g2).2 g5
          have hxa := (D.wt.mem L.root h2 hax).2.1
          exact (h.mem x c hcn).2 ⟨hcl, g2, fun e => by subst e; omega, g4, (D.ch c hcl x g2).1 (hca.trans hax)⟩)
      simp only [List.length_cons] at this
      exact this
    · rw [if_neg hci]
      have hcr : c = r := Classical.byContradiction fun hh => hci (.inl hh)
      refine hempty fun a ha => ?_
      obtain ⟨h1, h2, h3, h4, h5⟩ := (h.mem a b hb).1 ha
      obtain ⟨_, hca⟩ := below a ha
      rw [hcr] at hca
      have := D.wt.root_ch hca
      rcases h4 with h4 | h4
      · exact h4 this
      · exact hci (.inr h4)

theorem mem_ordL {A : Adj} (hok : A.ok) {r : Nat} (hr : r < A.length) {x : Nat} : x ∈ ordL A r ↔ RA A (fun _ => False) r x := (rpo hok hr).mem x

theorem DTree'.out {A : Adj} {r : Nat} {l : List Nat} {T : Nat → Option Nat} (D : DTree' A r l T) {v : Nat} (h : v ∉ l) : T v = none := by
  cases hT : T v with
  | none => rfl
  | some c => exact absurd (D.wt.up v c hT).1 h

theorem treeL_eq {E : Adj} (hE : E.ok) (hn : 0 < E.length) {T : Nat → Option Nat} (D : DTree' E 0 (ordL E 0) T) : outI E.length T = treeL E := by
  obtain ⟨f, L⟩ := (rpo hE hn).lay
  have hlen : ∀ x ∈ ordL E 0, x < E.length := (rpo hE hn).lt
  have hS : SL E 0 (ordL E 0) true (strictL E) E.length := by
    refine ⟨fun b hb => ?_, fun a b hb => ?_⟩
    · rw [strictL_suc hb]
      exact List.Pairwise.filter _ List.nodup_range
    · rw [strictL_suc hb, List.mem_filter, List.mem_range, sdomP_iff hE hn, mem_ordL hE hn, mem_ordL hE hn]
      constructor
      · rintro ⟨h1, h2, h3, h4⟩
        exact ⟨h2, dm_reach h2 h4, fun e => h3 e.symm, .inr rfl, h4⟩
      · rintro ⟨h1, h2, h3, _, h5⟩
        exact ⟨hlen a ((mem_ordL hE hn).2 h2), h1, fun e => h3 e.symm, h5⟩
  unfold outI treeL
  refine List.map_congr_left fun b hb => ?_
  have hb' := List.mem_range.1 hb
  rw [near_tree L D hS (fun x hx _ => hlen x hx) hb' (fun v hv => D.out hv)]
  cases T b with
  | none => rfl
  | some c => simp [tI]

end Go.Ab

namespace Go.Ab
open Go.RowKit Go.Proofs

theorem dominator_Tree_ok (g : Gr) (hg : g.small) : PureFn Try.prog f_dominator_Tree [.agg g.cells] (· = encInts (treeL g.E)) := by
  refine fn_x cf_dominator_Tree rfl ?_
  unfold ac_dominator_Tree
  have hB : big = 9223372036854775807 := rfl
  have hlen := g.E_len
  have hn := hg.1
  (repeat (first | (simp (disch := (first | omega | (simp only [evF, evL, implies_true, and_self]; done) | fail)) only [evS, evZ, evK, evB, evL, evR, Nat.reduceBEq, Nat.reduceAdd, Nat.reduceLeDiff, boxR, rboxR, allocR, fldR, binI, unR, pickR, mknilR, mkslR, buildSlR, buildR, extR, convI, eqB, evU, wrap64, Gr.cells]) | (with_reducible intro _) | ((with_reducible apply And.intro); omega)))
  (refine condX_intro (fun h => ?_) (fun h => ?_)) <;> (try simp only [decide_eq_true_eq, decide_eq_false_iff_not, Bool.not_eq_true', Bool.not_eq_false', Bool.and_eq_true, Bool.or_eq_true, not_true_eq_false, not_false_eq_true] at h)
  · (repeat (first | (simp (disch := (first | omega | (simp only [evF, evL, implies_true, and_self]; done) | fail)) only [evS, evZ, evK, evB, evL, evR, Nat.reduceBEq, Nat.reduceAdd, Nat.reduceLeDiff, boxR, rboxR, allocR, fldR, binI, unR, pickR, mknilR, mkslR, buildSlR, buildR, extR, convI, eqB, evU, wrap64, rs_dominator_Tree]) | (with_reducible intro _) | ((with_reducible apply And.intro); omega)))
    refine ⟨_, ?_, rfl⟩
    have : treeL g.E = [] := by unfold treeL; rw [show g.E.length = 0 by omega]; rfl
    rw [this]
    exact vw_ints (l := []) trivial rfl (Nat.zero_le _)
  · (repeat (first | (simp (disch := (first | omega | (simp only [evF, evL, implies_true, and_self]; done) | fail)) only [evS, evZ, evK, evB, evL, evR, Nat.reduceBEq, Nat.reduceAdd, Nat.reduceLeDiff, boxR, rboxR, allocR, fldR, binI, unR, pickR, mknilR, mkslR, buildSlR, buildR, extR, convI, eqB, evU, wrap64, Gr.two]) | (with_reducible intro _) | ((with_reducible apply And.intro); omega)))
    refine callX_fix (call_flat (dominator_all_ok g hg) rfl) ?_
    (repeat (first | (simp (disch := (first | omega | (simp only [evF, evL, implies_true, and_self]; done) | fail)) only [evS, evZ, evK, evB, evL, evR, Nat.reduceBEq, Nat.reduceAdd, Nat.reduceLeDiff, boxR, rboxR, allocR, fldR, binI, unR, pickR, mknilR, mkslR, buildSlR, buildR, extR, convI, eqB, evU, wrap64]) | (with_reducible intro _) | ((with_reducible apply And.intro); omega)))
    refine call_own [] 0 _ (dominator_tree_ok g.E (Gr.E_small hg) g.E_ok 0 (by omega)) rfl rfl (by (try simp only [evW, evK, evB, evL, Nat.reduceBEq, Nat.reduceAdd, Nat.reduceSub, Nat.reduceLeDiff, Nat.reduceLT, implies_true, and_self, Int.natCast_zero, Int.natCast_one, Int.cast_ofNat_Int, evV, encInts, encNats, encBools, encP, encNN]) <;> (repeat' with_reducible apply And.intro) <;> first | omega | exact vw_nats rfl rfl (by omega) | exact vw_ints rfl rfl (by omega) | exact vw_bools rfl rfl (by omega) | exact rowV_fe (fun _ => rfl) | exact rowV_fe_start (c := cN) (fun _ => rfl) rfl | exact rowsV_fam (fun _ => rfl) (by decide) ⟨rfl, rfl⟩ trivial | exact rowsV_fam (fun _ => rfl) (by decide) (fun _ _ => ⟨rfl, rfl⟩) trivial | (simp; done)) (by (try simp only [evW, evK, evB, evL, Nat.reduceBEq, Nat.reduceAdd, Nat.reduceSub, Nat.reduceLeDiff, Nat.reduceLT, implies_true, and_self, Int.natCast_zero, Int.natCast_one, Int.cast_ofNat_Int, evV, encInts, encNats, encBools, encP, encNN]) <;> (repeat' with_reducible apply And.intro) <;> first | omega | exact vw_nats rfl rfl (by omega) | exact vw_ints rfl rfl (by omega) | exact vw_bools rfl rfl (by omega) | exact rowV_fe (fun _ => rfl) | exact rowV_fe_start (c := cN) (fun _ => rfl) rfl | exact rowsV_fam (fun _ => rfl) (by decide) ⟨rfl, rfl⟩ trivial | exact rowsV_fam (fun _ => rfl) (by decide) (fun _ _ => ⟨rfl, rfl⟩) trivial | (simp; done)) ?_
    rintro v H' nx' ⟨T, hT, rfl, rfl, rfl⟩
    (repeat (first | (simp (disch := (first | omega | (simp only [evF, evL, implies_true, and_self]; done) | fail)) only [evS, evZ, evK, evB, evL, evR, Nat.reduceBEq, Nat.reduceAdd, Nat.reduceLeDiff, boxR, rboxR, allocR, fldR, binI, unR, pickR, mknilR, mkslR, buildSlR, buildR, extR, convI, eqB, evU, wrap64, rs_dominator_Tree]) | (with_reducible intro _) | ((with_reducible apply And.intro); omega)))
    refine ⟨_, ?_, rfl⟩
    rw [← treeL_eq g.E_ok (by omega) hT]
    have e := outI_len (n := g.E.length) (T := T)
    have := vw_ints (H := [(0, .row 1 [] 0), (1, .row 1 ((outI g.E.length T).map cI) 0)]) (H2 := []) (σ := nos) (D := allR) (t := false) (r := 1) (q := 0) (g := 0) (l := outI g.E.length T) trivial rfl (by omega)
    rwa [e] at this

theorem inB_order {E : Adj} (hE : E.ok) : inB E.length (orderL E) = reachL E := by
  unfold inB reachL mapR
  refine List.map_congr_left fun b hb => ?_
  have hb' := List.mem_range.1 hb
  have hn : 0 < E.length := by omega
  have h1 : orderL E = ordL E 0 := by unfold orderL ordL; rw [if_neg (by omega)]
  have h2 : b ∈ fromL E 0 (-1) ↔ RA E (fun _ => False) 0 b := fromL_all hE hn
  rw [h1]
  exact decide_eq_decide.2 ((mem_ordL hE hn).trans h2.symm)

theorem orderL_nd {E : Adj} (hE : E.ok) : NdL E.length (orderL E) := by
  by_cases hn : 0 < E.length
  · have h1 : orderL E = ordL E 0 := by unfold orderL ordL; rw [if_neg (by omega)]
    rw [h1]
    exact ⟨(rpo hE hn).nd, (rpo hE hn).lt⟩
  · have h1 : orderL E = [] := by unfold orderL; rw [if_pos (by omega)]
    rw [h1]
    exact ⟨by simp, by simp⟩

theorem dominator_Reachable_ok (g : Gr) (hg : g.small) : PureFn Try.prog f_dominator_Reachable [.agg g.cells] (· = encBools (reachL g.E)) := by
  refine fn_x cf_dominator_Reachable rfl ?_
  unfold ac_dominator_Reachable
  have hB : big = 9223372036854775807 := rfl
  have hlen := g.E_len
  have hn := hg.1
  rw [← inB_order g.E_ok]
  have hnd := orderL_nd g.E_ok
  (repeat (first | (simp (disch := (first | omega | (simp only [evF, evL, implies_true, and_self]; done) | fail)) only [evS, evZ, evK, evB, evL, evR, Nat.reduceBEq, Nat.reduceAdd, Nat.reduceLeDiff, boxR, rboxR, allocR, fldR, binI, unR, pickR, mknilR, mkslR, buildSlR, buildR, extR, convI, eqB, evU, wrap64, Gr.cells, Gr.two]) | (with_reducible intro _) | ((with_reducible apply And.intro); omega)))
  refine callX_fix (call_flat (dominator_Order_ok g hg) rfl) ?_
  generalize orderL g.E = l at hnd ⊢
  generalize g.E.length = n at hlen hnd ⊢
  subst hlen
  have hln := hnd.len
  (repeat (first | (simp (disch := (first | omega | (simp only [evF, evL, implies_true, and_self]; done) | fail)) only [evS, evZ, evK, evB, evL, evR, Nat.reduceBEq, Nat.reduceAdd, Nat.reduceLeDiff, boxR, rboxR, allocR, fldR, binI, unR, pickR, mknilR, mkslR, buildSlR, buildR, extR, convI, eqB, evU, wrap64, encNats]) | (with_reducible intro _) | ((with_reducible apply And.intro); omega)))
  refine loopX_intro (fun i : Nat => ([(3, .own 0 0 0 0 g.blocks.length), (11, encNats l), (12, .int .i64 l.length), (13, .int .i64 i)], [(0, .row 1 ((inB g.blocks.length (l.take i)).map cB) 0)])) 1 (fun i => i ≤ l.length) (fun i => l.length - i) 0 (Nat.zero_le _) (Ent.tab [(0, 1, 0)] [] rfl (by (try simp only [evW, evK, evB, evL, Nat.reduceBEq, Nat.reduceAdd, Nat.reduceSub, Nat.reduceLeDiff, Nat.reduceLT, implies_true, and_self, Int.natCast_zero, Int.natCast_one, Int.cast_ofNat_Int, evV, encInts, encNats, encBools, encP, inB_nil]) <;> (repeat' with_reducible apply And.intro) <;> first | omega | exact vw_nats rfl rfl (by omega) | exact vw_ints rfl rfl (by omega) | exact vw_bools rfl rfl (by omega) | exact rowV_fe (fun _ => rfl) | exact rowV_fe_start (c := cN) (fun _ => rfl) rfl | exact rowsV_fam (fun _ => rfl) (by decide) ⟨rfl, rfl⟩ trivial | exact rowsV_fam (fun _ => rfl) (by decide) (fun _ _ => ⟨rfl, rfl⟩) trivial | (simp; done)) (by (try simp only [evW, evK, evB, evL, Nat.reduceBEq, Nat.reduceAdd, Nat.reduceSub, Nat.reduceLeDiff, Nat.reduceLT, implies_true, and_self, Int.natCast_zero, Int.natCast_one, Int.cast_ofNat_Int, evV, encInts, encNats, encBools, encP, inB_nil]) <;> (repeat' with_reducible apply And.intro) <;> first | omega | exact vw_nats rfl rfl (by omega) | exact vw_ints rfl rfl (by omega) | exact vw_bools rfl rfl (by omega) | exact rowV_fe (fun _ => rfl) | exact rowV_fe_start (c := cN) (fun _ => rfl) rfl | exact rowsV_fam (fun _ => rfl) (by decide) ⟨rfl, rfl⟩ trivial | exact rowsV_fam (fun _ => rfl) (by decide) (fun _ _ => ⟨rfl, rfl⟩) trivial | (simp; done))) ?_
  intro i hi wf
  unfold ac_dominator_Reachable_l0
  (repeat (first | (simp (disch := (first | omega | (simp only [evF, evL, implies_true, and_self]; done) | fail)) only [evS, evZ, evK, evB, evL, evR, Nat.reduceBEq, Nat.reduceAdd, Nat.reduceLeDiff, boxR, rboxR, allocR, fldR, binI, unR, pickR, mknilR, mkslR, buildSlR, buildR, extR, convI, eqB, evU, wrap64, encNats]) | (with_reducible intro _) | ((with_reducible apply And.intro); omega)))
  (refine condX_intro (fun h => ?_) (fun h => ?_)) <;> (try simp only [decide_eq_true_eq, decide_eq_false_iff_not, Bool.not_eq_true', Bool.not_eq_false', Bool.and_eq_true, Bool.or_eq_true, not_true_eq_false, not_false_eq_true] at h)
  · have hi' : i < l.length := by omega
    have hk := hnd.lt _ (List.getElem_mem hi')
    have htk : l.take (i + 1) = l.take i ++ [l[i]] := by rw [List.take_add_one, List.getElem?_eq_getElem hi']; rfl
    (repeat (first | (simp (disch := (first | omega | (simp only [evF, evL, implies_true, and_self]; done) | fail)) only [evS, evZ, evK, evB, evL, evR, Nat.reduceBEq, Nat.reduceAdd, Nat.reduceLeDiff, boxR, rboxR, allocR, fldR, binI, unR, pickR, mknilR, mkslR, buildSlR, buildR, extR, convI, eqB, evU, wrap64, getD_map hi', inB_len, inB_set]) | (with_reducible intro _) | ((with_reducible apply And.intro); omega)))
    exact ⟨i + 1, by omega, by omega, (Ent.tab [(0, 0, 0)] [] rfl (by (try simp only [evW, evK, evB, evL, Nat.reduceBEq, Nat.reduceAdd, Nat.reduceSub, Nat.reduceLeDiff, Nat.reduceLT, implies_true, and_self, Int.natCast_zero, Int.natCast_one, Int.cast_ofNat_Int, evV, encInts, encNats, encBools, encP, htk]) <;> (repeat' with_reducible apply And.intro) <;> first | omega | exact vw_nats rfl rfl (by omega) | exact vw_ints rfl rfl (by omega) | exact vw_bools rfl rfl (by omega) | exact rowV_fe (fun _ => rfl) | exact rowV_fe_start (c := cN) (fun _ => rfl) rfl | exact rowsV_fam (fun _ => rfl) (by decide) ⟨rfl, rfl⟩ trivial | exact rowsV_fam (fun _ => rfl) (by decide) (fun _ _ => ⟨rfl, rfl⟩) trivial | (simp; done)) (by (try simp only [evW, evK, evB, evL, Nat.reduceBEq, Nat.reduceAdd, Nat.reduceSub, Nat.reduceLeDiff, Nat.reduceLT, implies_true, and_self, Int.natCast_zero, Int.natCast_one, Int.cast_ofNat_Int, evV, encInts, encNats, encBools, encP, htk]) <;> (repeat' with_reducible apply And.intro) <;> first | omega | exact vw_nats rfl rfl (by omega) | exact vw_ints rfl rfl (by omega) | exact vw_bools rfl rfl (by omega) | exact rowV_fe (fun _ => rfl) | exact rowV_fe_start (c := cN) (fun _ => rfl) rfl | exact rowsV_fam (fun _ => rfl) (by decide) ⟨rfl, rfl⟩ trivial | exact rowsV_fam (fun _ => rfl) (by decide) (fun _ _ => ⟨rfl, rfl⟩) trivial | (simp; done)))⟩
  · unfold ac_dominator_Reachable_k1
    (repeat (first | (simp (disch := (first | omega | (simp only [evF, evL, implies_true, and_self]; done) | fail)) only [evS, evZ, evK, evB, evL, evR, Nat.reduceBEq, Nat.reduceAdd, Nat.reduceLeDiff, boxR, rboxR, allocR, fldR, binI, unR, pickR, mknilR, mkslR, buildSlR, buildR, extR, convI, eqB, evU, wrap64, rs_dominator_Reachable]) | (with_reducible intro _) | ((with_reducible apply And.intro); omega)))
    refine ⟨_, ?_, rfl⟩
    rw [List.take_of_length_le (by omega)]
    have e := inB_len (n := g.blocks.length) (l := l)
    have := vw_bools (H := [(0, .row 1 ((inB g.blocks.length l).map cB) 0)]) (H2 := []) (σ := nos) (D := allR) (t := false) (r := 0) (q := 0) (g := 0) (l := inB g.blocks.length l) trivial rfl (by omega)
    rwa [e] at this

theorem dominator_Dominates_ok (t : List Int) (a b : Int) (ht : t.length ≤ 1000) : PureFn Try.prog f_dominator_Dominates [encInts t, .int .i64 a, .int .i64 b] (· = .bool (domL t a b)) := by
  refine fn_x cf_dominator_Dominates rfl ?_
  unfold ac_dominator_Dominates
  have hB : big = 9223372036854775807 := rfl
  have out : ∀ c m, ¬ (0 ≤ c ∧ c < (t.length : Int)) → domGo t a m c = false := by
    intro c m h
    cases m with
    | zero => rfl
    | succ m => simp only [domGo]; rw [if_neg h]
  unfold domL
  (repeat (first | (simp (disch := (first | omega | (simp only [evF, evL, implies_true, and_self]; done) | fail)) only [evS, evZ, evK, evB, evL, evR, Nat.reduceBEq, Nat.reduceAdd, Nat.reduceLeDiff, boxR, rboxR, allocR, fldR, binI, unR, pickR, mknilR, mkslR, buildSlR, buildR, extR, convI, eqB, evU, wrap64, encInts]) | (with_reducible intro _) | ((with_reducible apply And.intro); omega)))
  generalize h1 : decide (a < 0) = h1b; cases h1b <;> simp only [decide_eq_true_eq, decide_eq_false_iff_not, ne_eq, Classical.not_not] at h1
  rotate_left
  · (repeat (first | (simp (disch := (first | omega | (simp only [evF, evL, implies_true, and_self]; done) | fail)) only [evS, evZ, evK, evB, evL, evR, Nat.reduceBEq, Nat.reduceAdd, Nat.reduceLeDiff, boxR, rboxR, allocR, fldR, binI, unR, pickR, mknilR, mkslR, buildSlR, buildR, extR, convI, eqB, evU, wrap64, rs_dominator_Dominates]) | (with_reducible intro _) | ((with_reducible apply And.intro); omega)))
    rw [if_pos (.inl h1)]
    exact ⟨_, .bool _ _, rfl⟩
  (repeat (first | (simp (disch := (first | omega | (simp only [evF, evL, implies_true, and_self]; done) | fail)) only [evS, evZ, evK, evB, evL, evR, Nat.reduceBEq, Nat.reduceAdd, Nat.reduceLeDiff, boxR, rboxR, allocR, fldR, binI, unR, pickR, mknilR, mkslR, buildSlR, buildR, extR, convI, eqB, evU, wrap64]) | (with_reducible intro _) | ((with_reducible apply And.intro); omega)))
  generalize h2 : decide (a ≥ t.length) = h2b; cases h2b <;> simp only [decide_eq_true_eq, decide_eq_false_iff_not, ne_eq, Classical.not_not] at h2
  rotate_left
  · (repeat (first | (simp (disch := (first | omega | (simp only [evF, evL, implies_true, and_self]; done) | fail)) only [evS, evZ, evK, evB, evL, evR, Nat.reduceBEq, Nat.reduceAdd, Nat.reduceLeDiff, boxR, rboxR, allocR, fldR, binI, unR, pickR, mknilR, mkslR, buildSlR, buildR, extR, convI, eqB, evU, wrap64, rs_dominator_Dominates]) | (with_reducible intro _) | ((with_reducible apply And.intro); omega)))
    rw [if_pos (.inr h2)]
    exact ⟨_, .bool _ _, rfl⟩
  rw [if_neg (by omega)]
  (repeat (first | (simp (disch := (first | omega | (simp only [evF, evL, implies_true, and_self]; done) | fail)) only [evS, evZ, evK, evB, evL, evR, Nat.reduceBEq, Nat.reduceAdd, Nat.reduceLeDiff, boxR, rboxR, allocR, fldR, binI, unR, pickR, mknilR, mkslR, buildSlR, buildR, extR, convI, eqB, evU, wrap64]) | (with_reducible intro _) | ((with_reducible apply And.intro); omega)))
  generalize h3 : decide (b < 0) = h3b; cases h3b <;> simp only [decide_eq_true_eq, decide_eq_false_iff_not, ne_eq, Classical.not_not] at h3
  rotate_left
  · (repeat (first | (simp (disch := (first | omega | (simp only [evF, evL, implies_true, and_self]; done) | fail)) only [evS, evZ, evK, evB, evL, evR, Nat.reduceBEq, Nat.reduceAdd, Nat.reduceLeDiff, boxR, rboxR, allocR, fldR, binI, unR, pickR, mknilR, mkslR, buildSlR, buildR, extR, convI, eqB, evU, wrap64, rs_dominator_Dominates]) | (with_reducible intro _) | ((with_reducible apply And.intro); omega)))
    rw [out b _ (by omega)]
    exact ⟨_, .bool _ _, rfl⟩
  (repeat (first | (simp (disch := (first | omega | (simp only [evF, evL, implies_true, and_self]; done) | fail)) only [evS, evZ, evK, evB, evL, evR, Nat.reduceBEq, Nat.reduceAdd, Nat.reduceLeDiff, boxR, rboxR, allocR, fldR, binI, unR, pickR, mknilR, mkslR, buildSlR, buildR, extR, convI, eqB, evU, wrap64]) | (with_reducible intro _) | ((with_reducible apply And.intro); omega)))
  (refine condX_intro (fun h4 => ?_) (fun h4 => ?_)) <;> (try simp only [decide_eq_true_eq, decide_eq_false_iff_not, Bool.not_eq_true', Bool.not_eq_false', Bool.and_eq_true, Bool.or_eq_true, not_true_eq_false, not_false_eq_true] at h4)
  · (repeat (first | (simp (disch := (first | omega | (simp only [evF, evL, implies_true, and_self]; done) | fail)) only [evS, evZ, evK, evB, evL, evR, Nat.reduceBEq, Nat.reduceAdd, Nat.reduceLeDiff, boxR, rboxR, allocR, fldR, binI, unR, pickR, mknilR, mkslR, buildSlR, buildR, extR, convI, eqB, evU, wrap64, rs_dominator_Dominates]) | (with_reducible intro _) | ((with_reducible apply And.intro); omega)))
    rw [out b _ (by omega)]
    exact ⟨_, .bool _ _, rfl⟩
  (repeat (first | (simp (disch := (first | omega | (simp only [evF, evL, implies_true, and_self]; done) | fail)) only [evS, evZ, evK, evB, evL, evR, Nat.reduceBEq, Nat.reduceAdd, Nat.reduceLeDiff, boxR, rboxR, allocR, fldR, binI, unR, pickR, mknilR, mkslR, buildSlR, buildR, extR, convI, eqB, evU, wrap64]) | (with_reducible intro _) | ((with_reducible apply And.intro); omega)))
  refine loopX_intro (fun s : Nat × Int => ([(0, encInts t), (1, .int .i64 a), (2, .int .i64 s.2), (27, .int .i64 ((t.length : Int) + 1)), (28, .int .i64 s.1)], [])) 0 (fun s => s.1 ≤ t.length + 1 ∧ 0 ≤ s.2 ∧ s.2 < t.length ∧ domGo t a (t.length + 1 - s.1) s.2 = domGo t a (t.length + 1) b) (fun s => t.length + 1 - s.1) (0, b) ⟨Nat.zero_le _, by simp only; omega, by simp only; omega, rfl⟩ (Ent.keep rfl (by (try simp [subK, Kn.get, beq_eq]) <;> (repeat' with_reducible apply And.intro) <;> first | rfl | omega | (simp; done))) ?_
  rintro ⟨i, c⟩ ⟨hi, hc1, hc2, hgo⟩ wf
  simp only at hi hc1 hc2 hgo
  rw [← hgo]
  unfold ac_dominator_Dominates_l0
  (repeat (first | (simp (disch := (first | omega | (simp only [evF, evL, implies_true, and_self]; done) | fail)) only [evS, evZ, evK, evB, evL, evR, Nat.reduceBEq, Nat.reduceAdd, Nat.reduceLeDiff, boxR, rboxR, allocR, fldR, binI, unR, pickR, mknilR, mkslR, buildSlR, buildR, extR, convI, eqB, evU, wrap64]) | (with_reducible intro _) | ((with_reducible apply And.intro); omega)))
  (refine condX_intro (fun h5 => ?_) (fun h5 => ?_)) <;> (try simp only [decide_eq_true_eq, decide_eq_false_iff_not, Bool.not_eq_true', Bool.not_eq_false', Bool.and_eq_true, Bool.or_eq_true, not_true_eq_false, not_false_eq_true] at h5)
  · obtain ⟨m, hm⟩ : ∃ m, t.length + 1 - i = m + 1 := ⟨t.length - i, by omega⟩
    have hct : c.toNat < t.length := by omega
    have hs : domGo t a (t.length + 1 - i) c = if a = c then true else domGo t a m (t[c.toNat]) := by
      rw [hm]
      simp only [domGo]
      rw [if_pos ⟨by omega, hc2⟩, List.getD_eq_getElem?_getD, List.getElem?_eq_getElem hct, Option.getD_some]
    (repeat (first | (simp (disch := (first | omega | (simp only [evF, evL, implies_true, and_self]; done) | fail)) only [evS, evZ, evK, evB, evL, evR, Nat.reduceBEq, Nat.reduceAdd, Nat.reduceLeDiff, boxR, rboxR, allocR, fldR, binI, unR, pickR, mknilR, mkslR, buildSlR, buildR, extR, convI, eqB, evU, wrap64]) | (with_reducible intro _) | ((with_reducible apply And.intro); omega)))
    (refine condX_intro (fun h6 => ?_) (fun h6 => ?_)) <;> (try simp only [decide_eq_true_eq, decide_eq_false_iff_not, Bool.not_eq_true', Bool.not_eq_false', Bool.and_eq_true, Bool.or_eq_true, not_true_eq_false, not_false_eq_true] at h6)
    · (repeat (first | (simp (disch := (first | omega | (simp only [evF, evL, implies_true, and_self]; done) | fail)) only [evS, evZ, evK, evB, evL, evR, Nat.reduceBEq, Nat.reduceAdd, Nat.reduceLeDiff, boxR, rboxR, allocR, fldR, binI, unR, pickR, mknilR, mkslR, buildSlR, buildR, extR, convI, eqB, evU, wrap64, rs_dominator_Dominates]) | (with_reducible intro _) | ((with_reducible apply And.intro); omega)))
      rw [hs, if_pos h6]
      exact ⟨_, .bool _ _, rfl⟩
    · rw [if_neg h6] at hs
      (repeat (first | (simp (disch := (first | omega | (simp only [evF, evL, implies_true, and_self]; done) | fail)) only [evS, evZ, evK, evB, evL, evR, Nat.reduceBEq, Nat.reduceAdd, Nat.reduceLeDiff, boxR, rboxR, allocR, fldR, binI, unR, pickR, mknilR, mkslR, buildSlR, buildR, extR, convI, eqB, evU, wrap64, encInts, getD_map hct]) | (with_reducible intro _) | ((with_reducible apply And.intro); omega)))
      generalize t[c.toNat] = d at hs ⊢
      generalize h7 : decide (d < 0) = h7b; cases h7b <;> simp only [decide_eq_true_eq, decide_eq_false_iff_not, ne_eq, Classical.not_not] at h7
      · (repeat (first | (simp (disch := (first | omega | (simp only [evF, evL, implies_true, and_self]; done) | fail)) only [evS, evZ, evK, evB, evL, evR, Nat.reduceBEq, Nat.reduceAdd, Nat.reduceLeDiff, boxR, rboxR, allocR, fldR, binI, unR, pickR, mknilR, mkslR, buildSlR, buildR, extR, convI, eqB, evU, wrap64]) | (with_reducible intro _) | ((with_reducible apply And.intro); omega)))
        (refine condX_intro (fun h8 => ?_) (fun h8 => ?_)) <;> (try simp only [decide_eq_true_eq, decide_eq_false_iff_not, Bool.not_eq_true', Bool.not_eq_false', Bool.and_eq_true, Bool.or_eq_true, not_true_eq_false, not_false_eq_true] at h8)
        · (repeat (first | (simp (disch := (first | omega | (simp only [evF, evL, implies_true, and_self]; done) | fail)) only [evS, evZ, evK, evB, evL, evR, Nat.reduceBEq, Nat.reduceAdd, Nat.reduceLeDiff, boxR, rboxR, allocR, fldR, binI, unR, pickR, mknilR, mkslR, buildSlR, buildR, extR, convI, eqB, evU, wrap64, rs_dominator_Dominates]) | (with_reducible intro _) | ((with_reducible apply And.intro); omega)))
          rw [hs, out d m (by omega)]
          exact ⟨_, .bool _ _, rfl⟩
        · (repeat (first | (simp (disch := (first | omega | (simp only [evF, evL, implies_true, and_self]; done) | fail)) only [evS, evZ, evK, evB, evL, evR, Nat.reduceBEq, Nat.reduceAdd, Nat.reduceLeDiff, boxR, rboxR, allocR, fldR, binI, unR, pickR, mknilR, mkslR, buildSlR, buildR, extR, convI, eqB, evU, wrap64]) | (with_reducible intro _) | ((with_reducible apply And.intro); omega)))
          refine ⟨(i + 1, d), ⟨by simp only; omega, by simp only; omega, by simp only; omega, ?_⟩, by simp only; omega, Ent.keep rfl (by (try simp [subK, Kn.get, beq_eq]) <;> (repeat' with_reducible apply And.intro) <;> first | rfl | omega | (simp; done))⟩
          simp only
          rw [hs, show t.length + 1 - (i + 1) = m by omega]
      · (repeat (first | (simp (disch := (first | omega | (simp only [evF, evL, implies_true, and_self]; done) | fail)) only [evS, evZ, evK, evB, evL, evR, Nat.reduceBEq, Nat.reduceAdd, Nat.reduceLeDiff, boxR, rboxR, allocR, fldR, binI, unR, pickR, mknilR, mkslR, buildSlR, buildR, extR, convI, eqB, evU, wrap64, rs_dominator_Dominates]) | (with_reducible intro _) | ((with_reducible apply And.intro); omega)))
        rw [hs, out d m (by omega)]
        exact ⟨_, .bool _ _, rfl⟩
  · unfold ac_dominator_Dominates_k1
    (repeat (first | (simp (disch := (first | omega | (simp only [evF, evL, implies_true, and_self]; done) | fail)) only [evS, evZ, evK, evB, evL, evR, Nat.reduceBEq, Nat.reduceAdd, Nat.reduceLeDiff, boxR, rboxR, allocR, fldR, binI, unR, pickR, mknilR, mkslR, buildSlR, buildR, extR, convI, eqB, evU, wrap64, rs_dominator_Dominates]) | (with_reducible intro _) | ((with_reducible apply And.intro); omega)))
    rw [show t.length + 1 - i = 0 by omega]
    exact ⟨_, .bool _ _, rfl⟩

theorem slices_Contains_ok (l : List Nat) (x : Nat) : PureFn Try.prog f_slices_Contains_int_int [encNats l, .int .i64 x] (· = .bool (decide (x ∈ l))) := by
  have hidx : PureFn Try.prog f_slices_Index_int_int [encNats l, .int .i64 x] (fun v => ∃ r : Int, v = .int .i64 r ∧ -1 ≤ r ∧ (0 ≤ r ↔ x ∈ l)) := by
    refine fn_x cf_slices_Index_int_int rfl ?_
    unfold ac_slices_Index_int_int
    have hB : big = 9223372036854775807 := rfl
    (repeat (first | (simp (disch := (first | omega | (simp only [evF, evL, implies_true, and_self]; done) | fail)) only [evS, evZ, evK, evB, evL, evR, Nat.reduceBEq, Nat.reduceAdd, Nat.reduceLeDiff, boxR, rboxR, allocR, fldR, binI, unR, pickR, mknilR, mkslR, buildSlR, buildR, extR, convI, eqB, evU, wrap64, encNats]) | (with_reducible intro _) | ((with_reducible apply And.intro); omega)))
    refine loopX_intro (fun i : Nat => ([(0, encNats l), (1, .int .i64 x), (7, .int .i64 l.length), (8, .int .i64 i)], [])) 0 (fun i => i ≤ l.length ∧ x ∉ l.take i) (fun i => l.length - i) 0 ⟨Nat.zero_le _, by simp⟩ (Ent.keep rfl (by (try simp [subK, Kn.get, beq_eq]) <;> (repeat' with_reducible apply And.intro) <;> first | rfl | omega | (simp; done))) ?_
    intro i ⟨hi, hno⟩ wf
    unfold ac_slices_Index_int_int_l0
    (repeat (first | (simp (disch := (first | omega | (simp only [evF, evL, implies_true, and_self]; done) | fail)) only [evS, evZ, evK, evB, evL, evR, Nat.reduceBEq, Nat.reduceAdd, Nat.reduceLeDiff, boxR, rboxR, allocR, fldR, binI, unR, pickR, mknilR, mkslR, buildSlR, buildR, extR, convI, eqB, evU, wrap64, encNats]) | (with_reducible intro _) | ((with_reducible apply And.intro); omega)))
    (refine condX_intro (fun h => ?_) (fun h => ?_)) <;> (try simp only [decide_eq_true_eq, decide_eq_false_iff_not, Bool.not_eq_true', Bool.not_eq_false', Bool.and_eq_true, Bool.or_eq_true, not_true_eq_false, not_false_eq_true] at h)
    · have hi' : i < l.length := by omega
      (repeat (first | (simp (disch := (first | omega | (simp only [evF, evL, implies_true, and_self]; done) | fail)) only [evS, evZ, evK, evB, evL, evR, Nat.reduceBEq, Nat.reduceAdd, Nat.reduceLeDiff, boxR, rboxR, allocR, fldR, binI, unR, pickR, mknilR, mkslR, buildSlR, buildR, extR, convI, eqB, evU, wrap64, getD_map hi']) | (with_reducible intro _) | ((with_reducible apply And.intro); omega)))
      (refine condX_intro (fun h2 => ?_) (fun h2 => ?_)) <;> (try simp only [decide_eq_true_eq, decide_eq_false_iff_not, Bool.not_eq_true', Bool.not_eq_false', Bool.and_eq_true, Bool.or_eq_true, not_true_eq_false, not_false_eq_true] at h2)
      · (repeat (first | (simp (disch := (first | omega | (simp only [evF, evL, implies_true, and_self]; done) | fail)) only [evS, evZ, evK, evB, evL, evR, Nat.reduceBEq, Nat.reduceAdd, Nat.reduceLeDiff, boxR, rboxR, allocR, fldR, binI, unR, pickR, mknilR, mkslR, buildSlR, buildR, extR, convI, eqB, evU, wrap64, rs_slices_Index_int_int]) | (with_reducible intro _) | ((with_reducible apply And.intro); omega)))
        refine ⟨_, .int _ _ _, i, rfl, by omega, fun _ => ?_, fun _ => by omega⟩
        rw [show x = l[i] by omega]
        exact List.getElem_mem hi'
      · (repeat (first | (simp (disch := (first | omega | (simp only [evF, evL, implies_true, and_self]; done) | fail)) only [evS, evZ, evK, evB, evL, evR, Nat.reduceBEq, Nat.reduceAdd, Nat.reduceLeDiff, boxR, rboxR, allocR, fldR, binI, unR, pickR, mknilR, mkslR, buildSlR, buildR, extR, convI, eqB, evU, wrap64]) | (with_reducible intro _) | ((with_reducible apply And.intro); omega)))
        refine ⟨i + 1, ⟨by omega, ?_⟩, by omega, Ent.keep rfl (by (try simp [subK, Kn.get, beq_eq]) <;> (repeat' with_reducible apply And.intro) <;> first | rfl | omega | (simp; done))⟩
        rw [List.take_add_one, List.getElem?_eq_getElem hi']
        simp only [List.mem_append, not_or, Option.toList, List.mem_singleton]
        exact ⟨hno, by omega⟩
    · unfold ac_slices_Index_int_int_k1
      (repeat (first | (simp (disch := (first | omega | (simp only [evF, evL, implies_true, and_self]; done) | fail)) only [evS, evZ, evK, evB, evL, evR, Nat.reduceBEq, Nat.reduceAdd, Nat.reduceLeDiff, boxR, rboxR, allocR, fldR, binI, unR, pickR, mknilR, mkslR, buildSlR, buildR, extR, convI, eqB, evU, wrap64, rs_slices_Index_int_int]) | (with_reducible intro _) | ((with_reducible apply And.intro); omega)))
      rw [List.take_of_length_le (by omega)] at hno
      exact ⟨_, .int _ _ _, -1, rfl, by omega, fun h => by omega, fun h => absurd h hno⟩
  refine fn_x cf_slices_Contains_int_int rfl ?_
  unfold ac_slices_Contains_int_int
  (repeat (first | (simp (disch := (first | omega | (simp only [evF, evL, implies_true, and_self]; done) | fail)) only [evS, evZ, evK, evB, evL, evR, Nat.reduceBEq, Nat.reduceAdd, Nat.reduceLeDiff, boxR, rboxR, allocR, fldR, binI, unR, pickR, mknilR, mkslR, buildSlR, buildR, extR, convI, eqB, evU, wrap64]) | (with_reducible intro _) | ((with_reducible apply And.intro); omega)))
  refine call_read (D := noR) hidx (.cons (.sl _ _ _ _) (.cons (.int _ _ _) .nil)) (fun _ _ => .inr fun _ _ h => h) ?_
  rintro v ⟨r, rfl, h1, h2⟩
  (repeat (first | (simp (disch := (first | omega | (simp only [evF, evL, implies_true, and_self]; done) | fail)) only [evS, evZ, evK, evB, evL, evR, Nat.reduceBEq, Nat.reduceAdd, Nat.reduceLeDiff, boxR, rboxR, allocR, fldR, binI, unR, pickR, mknilR, mkslR, buildSlR, buildR, extR, convI, eqB, evU, wrap64, rs_slices_Contains_int_int]) | (with_reducible intro _) | ((with_reducible apply And.intro); omega)))
  refine ⟨_, .bool _ _, ?_⟩
  have : decide (r ≥ 0) = decide (x ∈ l) := decide_eq_decide.2 h2
  rw [this]

end Go.Ab
