/-
  Part 7 of the proof: how the calls of this program run, over values instead of memory, and what each function computes.
-/
import Derived.KernelRfl
import Derived.Test.YtmlhipilbnjhiaaGreatKf
set_option maxRecDepth 100000
set_option linter.unusedVariables false
set_option linter.unusedSimpArgs false
set_option linter.unnecessarySimpa false
set_option linter.unusedSectionVars false

namespace Go.Ab
open Go.RowKit Go.Proofs
def One (p : NdF → List Int) : Prop := ∀ f, (p f).length ≤ 1
theorem zmp : One labP := fun f => by unfold labP; split <;> simp
theorem zoD : One blkP := fun f => by unfold blkP; split <;> simp
mutual
theorem zge {p : NdF → List Int} (h : One p) : ∀ n : Nd, (coll p n).length ≤ za7 n
  | .mk f _ l => by rw [coll, List.length_append, za7]; have := h f; have := zqb h l; omega
theorem zqb {p : NdF → List Int} (h : One p) : ∀ l : List Nd, (zis p l).length ≤ za4 l
  | [] => by rw [zis]; simp
  | x :: l => by rw [zis, List.length_append, za4]; have := zge h x; have := zqb h l; omega
end
theorem zi1 {l : List Int} {H : AH} : zdg 1 (encL 1 (fun n => [.int .i64 n]) l) H = some (l.map cI) := zoi (fun _ _ => rfl)
theorem zoq {p : NdF → List Int} {l : List Nd} {i : Nat} (h : i < l.length) : zis p (l.drop i) = coll p l[i] ++ zis p (l.drop (i + 1)) := by
  rw [List.drop_eq_getElem_cons h, zis]
theorem zoX : ∀ (k : Nat) (e : Nd), za7 e ≤ k → k ≤ 1000 → zk Tryz.prog zeq [.agg (encN e)] (· = za (coll labP e)) := by
  intro k
  induction k with
  | zero => intro e h; obtain ⟨_, _, l⟩ := e; rw [za7] at h; omega
  | succ k ih =>
  intro e hk hk2
  have hlen := zge zmp e
  obtain ⟨⟨kd, bl, lb⟩, c, l⟩ := e
  refine fn_x zo9 rfl ?_
  unfold zkJ
  have hB := hBig
  rw [za7] at hk hlen
  rw [coll] at hlen ⊢
  generalize hE : encN (.mk ⟨kd, bl, lb⟩ c l) = E
  rw [zbs] at hE
  simp only at hE
  subst hE
  generalize hR : labP ⟨kd, bl, lb⟩ ++ zis labP l = R at hlen ⊢
  have body : ∀ (x0 : List Int) (H : AH) (nx : Nat) (K : Kn), labP ⟨kd, bl, lb⟩ = x0 → Ent 0 K H nx [(1, encP 5 [.int .i64 kd, .int .i64 bl, .int .i64 lb, encL 5 encX c, encL 5 encN l]), (3, .own 0 0 0 0 x0.length), (4, .int .i64 0)] [(0, .row 1 (x0.map cI) 0)] 1 → zsq Tryz.prog 0 zeC (zgh 0 (seqQ Tryz.prog 0 zew (retK zhl fun v H' x => ∃ a, Frz H' v a ∧ a = za R))) K H nx := by
    intro x0 H nx K hx0 hent
    refine zm (fun s : Nat × List Int => ([(1, encP 5 [.int .i64 kd, .int .i64 bl, .int .i64 lb, encL 5 encX c, encL 5 encN l]), (3, .own 0 0 0 0 s.2.length), (4, .int .i64 s.1)], [(0, .row 1 (s.2.map cI) 0)])) 1 (fun s => s.1 ≤ l.length ∧ s.2 ++ zis labP (l.drop s.1) = R) (fun s => l.length - s.1) (0, x0) ⟨Nat.zero_le _, by rw [hx0] at hR; exact hR⟩ hent ?_
    rintro ⟨i, x⟩ ⟨hi, hgo⟩ wf
    simp only at hi hgo
    unfold zeC
    by_cases hl : i < l.length
    · have hm := zdh (List.getElem_mem hl)
      rw [zoq hl, ← List.append_assoc] at hgo
      have hlen2 := congrArg List.length hgo
      simp only [List.length_append] at hlen2
      (repeat first | simp (disch := try exact dis1) only [evD, Nat.reduceBEq, Nat.reduceAdd, Nat.reduceLeDiff, fldP, dT, zo hl, zam, zK] | with_reducible intro _ | ((with_reducible apply And.intro); omega))
      refine ze (zh (ih l[i] (by omega) (by omega)) (flN rfl)) ?_
      (repeat first | simp (disch := try exact dis1) only [evD, Nat.reduceBEq, Nat.reduceAdd, Nat.reduceLeDiff, za, zi1] | with_reducible intro _ | ((with_reducible apply And.intro); omega))
      exact ⟨(i + 1, x ++ coll labP l[i]), ⟨by simp only; omega, hgo⟩, by simp only; omega, (Ent.tab [(0, 0, 1)] [] rfl (by (try simp only [evWB, Nat.reduceBEq, Nat.reduceAdd, Nat.reduceSub, Nat.reduceLeDiff, Nat.reduceLT, implies_true, List.length_append, List.map_append]) <;> exact fin1) (by (try simp only [evWB, Nat.reduceBEq, Nat.reduceAdd, Nat.reduceSub, Nat.reduceLeDiff, Nat.reduceLT, implies_true, List.length_append, List.map_append]) <;> exact fin1))⟩
    · rw [List.drop_of_length_le (by omega), zis, List.append_nil] at hgo
      subst hgo
      (repeat first | simp (disch := try exact dis1) only [evD, Nat.reduceBEq, Nat.reduceAdd, Nat.reduceLeDiff, fldP, dF] | with_reducible intro _ | ((with_reducible apply And.intro); omega))
      unfold zew
      (repeat first | simp (disch := try exact dis1) only [evD, Nat.reduceBEq, Nat.reduceAdd, Nat.reduceLeDiff, zhl] | with_reducible intro _ | ((with_reducible apply And.intro); omega))
      exact ⟨_, zbj (l := x) trivial rfl (by omega), rfl⟩
  (repeat first | simp (disch := try exact dis1) only [evD, Nat.reduceBEq, Nat.reduceAdd, Nat.reduceLeDiff, fldP] | with_reducible intro _ | ((with_reducible apply And.intro); omega))
  have hg : labP ⟨kd, bl, lb⟩ = if kd = 10 then [lb] else [] := rfl
  by_cases h9 : kd = 10
  · (repeat first | simp (disch := try exact dis1) only [evD, Nat.reduceBEq, Nat.reduceAdd, Nat.reduceLeDiff, dT, fldP] | with_reducible intro _ | ((with_reducible apply And.intro); omega))
    rw [if_pos h9] at hg
    exact body [lb] _ _ _ hg (Ent.tab [(0, 1, 1)] [] rfl (by (try simp only [evWB, Nat.reduceBEq, Nat.reduceAdd, Nat.reduceSub, Nat.reduceLeDiff, Nat.reduceLT, implies_true]) <;> exact fin1) (by (try simp only [evWB, Nat.reduceBEq, Nat.reduceAdd, Nat.reduceSub, Nat.reduceLeDiff, Nat.reduceLT, implies_true]) <;> exact fin1))
  · (repeat first | simp (disch := try exact dis1) only [evD, Nat.reduceBEq, Nat.reduceAdd, Nat.reduceLeDiff, dF] | with_reducible intro _ | ((with_reducible apply And.intro); omega))
    rw [if_neg h9] at hg
    exact body [] _ _ _ hg (Ent.tab [(0, 1, 0)] [] rfl (by (try simp only [evWB, Nat.reduceBEq, Nat.reduceAdd, Nat.reduceSub, Nat.reduceLeDiff, Nat.reduceLT, implies_true]) <;> exact fin1) (by (try simp only [evWB, Nat.reduceBEq, Nat.reduceAdd, Nat.reduceSub, Nat.reduceLeDiff, Nat.reduceLT, implies_true]) <;> exact fin1))
theorem zph : ∀ (k : Nat) (e : Nd), za7 e ≤ k → k ≤ 1000 → zk Tryz.prog zek [.agg (encN e)] (· = za (coll blkP e)) := by
  intro k
  induction k with
  | zero => intro e h; obtain ⟨_, _, l⟩ := e; rw [za7] at h; omega
  | succ k ih =>
  intro e hk hk2
  have hlen := zge zoD e
  obtain ⟨⟨kd, bl, lb⟩, c, l⟩ := e
  refine fn_x zoH rfl ?_
  unfold zku
  have hB := hBig
  rw [za7] at hk hlen
  rw [coll] at hlen ⊢
  generalize hE : encN (.mk ⟨kd, bl, lb⟩ c l) = E
  rw [zbs] at hE
  simp only at hE
  subst hE
  generalize hR : blkP ⟨kd, bl, lb⟩ ++ zis blkP l = R at hlen ⊢
  have body : ∀ (x0 : List Int) (H : AH) (nx : Nat) (K : Kn), blkP ⟨kd, bl, lb⟩ = x0 → Ent 0 K H nx [(1, encP 5 [.int .i64 kd, .int .i64 bl, .int .i64 lb, encL 5 encX c, encL 5 encN l]), (3, .own 0 0 0 0 x0.length), (4, .int .i64 0)] [(0, .row 1 (x0.map cI) 0)] 1 → zsq Tryz.prog 0 zeI (zgh 0 (seqQ Tryz.prog 0 zeA (retK zhv fun v H' x => ∃ a, Frz H' v a ∧ a = za R))) K H nx := by
    intro x0 H nx K hx0 hent
    refine zm (fun s : Nat × List Int => ([(1, encP 5 [.int .i64 kd, .int .i64 bl, .int .i64 lb, encL 5 encX c, encL 5 encN l]), (3, .own 0 0 0 0 s.2.length), (4, .int .i64 s.1)], [(0, .row 1 (s.2.map cI) 0)])) 1 (fun s => s.1 ≤ l.length ∧ s.2 ++ zis blkP (l.drop s.1) = R) (fun s => l.length - s.1) (0, x0) ⟨Nat.zero_le _, by rw [hx0] at hR; exact hR⟩ hent ?_
    rintro ⟨i, x⟩ ⟨hi, hgo⟩ wf
    simp only at hi hgo
    unfold zeI
    by_cases hl : i < l.length
    · have hm := zdh (List.getElem_mem hl)
      rw [zoq hl, ← List.append_assoc] at hgo
      have hlen2 := congrArg List.length hgo
      simp only [List.length_append] at hlen2
      (repeat first | simp (disch := try exact dis1) only [evD, Nat.reduceBEq, Nat.reduceAdd, Nat.reduceLeDiff, fldP, dT, zo hl, zam, zK] | with_reducible intro _ | ((with_reducible apply And.intro); omega))
      refine ze (zh (ih l[i] (by omega) (by omega)) (flN rfl)) ?_
      (repeat first | simp (disch := try exact dis1) only [evD, Nat.reduceBEq, Nat.reduceAdd, Nat.reduceLeDiff, za, zi1] | with_reducible intro _ | ((with_reducible apply And.intro); omega))
      exact ⟨(i + 1, x ++ coll blkP l[i]), ⟨by simp only; omega, hgo⟩, by simp only; omega, (Ent.tab [(0, 0, 1)] [] rfl (by (try simp only [evWB, Nat.reduceBEq, Nat.reduceAdd, Nat.reduceSub, Nat.reduceLeDiff, Nat.reduceLT, implies_true, List.length_append, List.map_append]) <;> exact fin1) (by (try simp only [evWB, Nat.reduceBEq, Nat.reduceAdd, Nat.reduceSub, Nat.reduceLeDiff, Nat.reduceLT, implies_true, List.length_append, List.map_append]) <;> exact fin1))⟩
    · rw [List.drop_of_length_le (by omega), zis, List.append_nil] at hgo
      subst hgo
      (repeat first | simp (disch := try exact dis1) only [evD, Nat.reduceBEq, Nat.reduceAdd, Nat.reduceLeDiff, fldP, dF] | with_reducible intro _ | ((with_reducible apply And.intro); omega))
      unfold zeA
      (repeat first | simp (disch := try exact dis1) only [evD, Nat.reduceBEq, Nat.reduceAdd, Nat.reduceLeDiff, zhv] | with_reducible intro _ | ((with_reducible apply And.intro); omega))
      exact ⟨_, zbj (l := x) trivial rfl (by omega), rfl⟩
  (repeat first | simp (disch := try exact dis1) only [evD, Nat.reduceBEq, Nat.reduceAdd, Nat.reduceLeDiff, fldP] | with_reducible intro _ | ((with_reducible apply And.intro); omega))
  have hg : blkP ⟨kd, bl, lb⟩ = if kd = 2 ∨ kd = 5 then [bl] else [] := rfl
  by_cases h2 : kd = 2
  · (repeat first | simp (disch := try exact dis1) only [evD, Nat.reduceBEq, Nat.reduceAdd, Nat.reduceLeDiff, dT, fldP] | with_reducible intro _ | ((with_reducible apply And.intro); omega))
    rw [if_pos (.inl h2)] at hg
    exact body [bl] _ _ _ hg (Ent.tab [(0, 1, 1)] [] rfl (by (try simp only [evWB, Nat.reduceBEq, Nat.reduceAdd, Nat.reduceSub, Nat.reduceLeDiff, Nat.reduceLT, implies_true]) <;> exact fin1) (by (try simp only [evWB, Nat.reduceBEq, Nat.reduceAdd, Nat.reduceSub, Nat.reduceLeDiff, Nat.reduceLT, implies_true]) <;> exact fin1))
  · by_cases h5 : kd = 5
    · (repeat first | simp (disch := try exact dis1) only [evD, Nat.reduceBEq, Nat.reduceAdd, Nat.reduceLeDiff, dF, dT, fldP] | with_reducible intro _ | ((with_reducible apply And.intro); omega))
      rw [if_pos (.inr h5)] at hg
      exact body [bl] _ _ _ hg (Ent.tab [(0, 1, 1)] [] rfl (by (try simp only [evWB, Nat.reduceBEq, Nat.reduceAdd, Nat.reduceSub, Nat.reduceLeDiff, Nat.reduceLT, implies_true]) <;> exact fin1) (by (try simp only [evWB, Nat.reduceBEq, Nat.reduceAdd, Nat.reduceSub, Nat.reduceLeDiff, Nat.reduceLT, implies_true]) <;> exact fin1))
    · (repeat first | simp (disch := try exact dis1) only [evD, Nat.reduceBEq, Nat.reduceAdd, Nat.reduceLeDiff, dF, fldP] | with_reducible intro _ | ((with_reducible apply And.intro); omega))
      rw [if_neg (by omega)] at hg
      exact body [] _ _ _ hg (Ent.tab [(0, 1, 0)] [] rfl (by (try simp only [evWB, Nat.reduceBEq, Nat.reduceAdd, Nat.reduceSub, Nat.reduceLeDiff, Nat.reduceLT, implies_true]) <;> exact fin1) (by (try simp only [evWB, Nat.reduceBEq, Nat.reduceAdd, Nat.reduceSub, Nat.reduceLeDiff, Nat.reduceLT, implies_true]) <;> exact fin1))
theorem zlL : ∀ l m : List Nd, zdM (l ++ m) = zdM l ++ zdM m
  | [], m => by rw [zdM]; rfl
  | x :: l, m => by rw [List.cons_append, zdM, zdM, zlL l m, List.append_assoc]
theorem zcu : ∀ l m : List Nd, za4 (l ++ m) = za4 l + za4 m
  | [], m => by rw [za4]; simp
  | x :: l, m => by rw [List.cons_append, za4, za4, zcu l m]; omega
theorem zvY : ∀ n : Nd, 1 ≤ za7 n
  | .mk _ _ _ => by rw [za7]; omega
theorem zi2 : ∀ l : List Nd, l.length ≤ za4 l
  | [] => by rw [za4]; simp
  | x :: l => by rw [List.length_cons, za4]; have := zi2 l; have := zvY x; omega
theorem znO (l : List Nd) : za4 l.reverse = za4 l := by
  induction l with
  | nil => rfl
  | cons a l ih => rw [List.reverse_cons, zcu, ih]; simp only [za4]; omega
theorem zyT {H H2 : AH} {σ : Nat → Nat → Option (Nat × Nat × Nat)} {D : Nat → Nat → Prop} {t : Bool} : ∀ (e : Nd) (j : Nat), j < 5 → Vw H H2 σ D t ((encN e).getD j .undef) ((encN e).getD j .undef)
  | .mk _ _ _, j, hj => by
    rw [zbs]
    match j, hj with
    | 0, _ => exact .int _ _ _
    | 1, _ => exact .int _ _ _
    | 2, _ => exact .int _ _ _
    | 3, _ => exact .sl _ _ _ _
    | 4, _ => exact .sl _ _ _ _
theorem zyP {H H2 : AH} {σ : Nat → Nat → Option (Nat × Nat × Nat)} {D : Nat → Nat → Prop} {t : Bool} {r q g : Nat} {l : List Nd} (hD : D r q) (hg : H.get r q = some (.row 5 (l.map encN) g)) (hb : l.length ≤ big) : Vw H H2 σ D t (.own r q g 0 l.length) (encL 5 encN l) :=
  znj hD hg hb fun a _ j hj => zyT a j hj
theorem zhE (e : Nd) (hs : za7 e ≤ 1000) : zk Tryz.prog zci [.agg (encN e)] (· = encL 5 encN (allN e)) := by
  refine fn_x zmk rfl ?_
  unfold zhN
  have hB := hBig
  generalize hR : allN e = R
  have hRl : R.length ≤ 1000 := by rw [← hR, zms]; exact hs
  (repeat first | simp (disch := try exact dis1) only [evD, Nat.reduceBEq, Nat.reduceAdd, Nat.reduceLeDiff, zam, zaq, zK] | with_reducible intro _ | ((with_reducible apply And.intro); omega))
  refine zm (fun s : List Nd × List Nd × List Nd => ([(3, .own 0 0 0 0 s.1.length), (4, .own 1 0 0 0 s.2.1.length)], [(0, .row 5 (s.1.map encN) 0), (1, .row 5 ((s.2.1 ++ s.2.2).map encN) 0)])) 2 (fun s => s.1 ++ zdM s.2.1.reverse = R ∧ s.1.length + za4 s.2.1 ≤ 1000) (fun s => za4 s.2.1) ([], [e], []) ⟨by simp only [List.reverse_singleton, List.nil_append, zdM, List.append_nil]; exact hR, by simp only [za4, List.length_nil]; omega⟩ (Ent.tab [(0, 1, 0), (1, 2, 0)] [] rfl (by (try simp only [evWB, Nat.reduceBEq, Nat.reduceAdd, Nat.reduceSub, Nat.reduceLeDiff, Nat.reduceLT, implies_true, zaq]) <;> exact fin1) (by (try simp only [evWB, Nat.reduceBEq, Nat.reduceAdd, Nat.reduceSub, Nat.reduceLeDiff, Nat.reduceLT, implies_true, zaq]) <;> exact fin1)) ?_
  rintro ⟨out, rest, junk⟩ ⟨hgo, hsz⟩ wf
  simp only at hgo hsz
  unfold zfE
  have hlr := zi2 rest
  by_cases hr : 0 < rest.length
  · obtain ⟨r, x, rfl⟩ : ∃ r x, rest = r ++ [x] := ⟨rest.dropLast, rest.getLast (by intro h; rw [h] at hr; simp at hr), (List.dropLast_concat_getLast _).symm⟩
    have hlen : (r ++ [x]).length = r.length + 1 := by simp
    have hidx : (((r.length + 1 : Nat) : Int) - 1).toNat = r.length := by omega
    have hget : (List.map encN (r ++ [x] ++ junk)).getD r.length [] = encN x := by
      rw [List.append_assoc, List.map_append, List.getD_eq_getElem?_getD, List.getElem?_append_right (by simp)]
      simp
    have hll : (r ++ [x] ++ junk).length = r.length + 1 + junk.length := by simp; omega
    rw [zcu] at hsz
    rw [List.reverse_append, List.reverse_singleton, List.singleton_append, zdM] at hgo
    obtain ⟨⟨kd, bl, lb⟩, c, l⟩ := x
    simp only [za4, za7, Nat.add_zero] at hsz
    rw [allN, ← List.append_assoc] at hgo
    generalize hE : encN (Nd.mk ⟨kd, bl, lb⟩ c l) = E at hget
    have hE' := hE
    rw [zbs] at hE'
    simp only at hE'
    subst hE'
    rw [hlen] at hlr
    (repeat first | simp (disch := try exact dis1) only [evD, Nat.reduceBEq, Nat.reduceAdd, Nat.reduceLeDiff, dT, hidx, hget, hll, hlen, List.length_cons, List.length_nil] | with_reducible intro _ | ((with_reducible apply And.intro); omega))
    have hn4 : ((((r.length + 1 : Nat) : Int)) - 1 - 0).toNat = r.length := by omega
    simp only [hn4, Int.toNat_zero]
    simp only [← hE] at hget ⊢
    have h4 : (encN (Nd.mk ⟨kd, bl, lb⟩ c l)).getD 4 .undef = encL 5 encN l := by rw [hE]; rfl
    have hX : List.map encN out ++ [encN (Nd.mk ⟨kd, bl, lb⟩ c l)] = List.map encN (out ++ [Nd.mk ⟨kd, bl, lb⟩ c l]) := by simp
    (refine zp (fun hc => ?_) (fun hc => ?_)) <;> (try simp only [dcd] at hc)
    · have hl0 : l = [] := List.eq_nil_of_length_eq_zero (by omega)
      subst hl0
      rw [zdM] at hgo
      (repeat first | simp (disch := try exact dis1) only [evD, Nat.reduceBEq, Nat.reduceAdd, Nat.reduceLeDiff] | with_reducible intro _ | ((with_reducible apply And.intro); omega))
      exact ⟨(out ++ [Nd.mk ⟨kd, bl, lb⟩ c []], r, Nd.mk ⟨kd, bl, lb⟩ c [] :: junk), ⟨hgo, by simp only [List.length_append, List.length_cons, List.length_nil]; simp only [za4] at hsz; omega⟩, by simp only [zcu, za4, za7]; omega, (Ent.tab [(0, 0, 1), (1, 1, 0)] [] rfl (by (try simp only [evWB, Nat.reduceBEq, Nat.reduceAdd, Nat.reduceSub, Nat.reduceLeDiff, Nat.reduceLT, implies_true, List.length_append, List.map_append, List.append_assoc, List.singleton_append]) <;> exact fin2) (by (try simp only [evWB, Nat.reduceBEq, Nat.reduceAdd, Nat.reduceSub, Nat.reduceLeDiff, Nat.reduceLT, implies_true, List.length_append, List.map_append, List.append_assoc, List.singleton_append]) <;> exact fin2))⟩
    · have hl0 : 0 < l.length := by omega
      (repeat first | simp (disch := try exact dis1) only [evD, Nat.reduceBEq, Nat.reduceAdd, Nat.reduceLeDiff, fldP, h4] | with_reducible intro _ | ((with_reducible apply And.intro); omega))
      refine zm (fun s : Nat × List Nd => ([(3, .own 0 0 0 0 (out ++ [Nd.mk ⟨kd, bl, lb⟩ c l]).length), (4, .own 1 0 0 0 (r ++ (l.drop (l.length - s.1)).reverse).length), (5, .ptr 2 0 0 0 0), (6, .int .i64 ((l.length : Int) - 1 - s.1))], [(0, .row 5 ((out ++ [Nd.mk ⟨kd, bl, lb⟩ c l]).map encN) 0), (1, .row 5 ((r ++ (l.drop (l.length - s.1)).reverse ++ s.2).map encN) 0), (2, .row 5 [encN (Nd.mk ⟨kd, bl, lb⟩ c l)] 0)])) 3 (fun s => s.1 ≤ l.length) (fun s => l.length - s.1) (0, Nd.mk ⟨kd, bl, lb⟩ c l :: junk) (Nat.zero_le _) (Ent.tab [(0, 0, 1), (1, 1, 0), (2, 2, 0)] [] rfl (by (try simp only [evWB, Nat.reduceBEq, Nat.reduceAdd, Nat.reduceSub, Nat.reduceLeDiff, Nat.reduceLT, implies_true, List.length_append, List.map_append, List.append_assoc, List.singleton_append, List.drop_length, List.reverse_nil, Nat.sub_zero, List.nil_append]) <;> exact fin2) (by (try simp only [evWB, Nat.reduceBEq, Nat.reduceAdd, Nat.reduceSub, Nat.reduceLeDiff, Nat.reduceLT, implies_true, List.length_append, List.map_append, List.append_assoc, List.singleton_append, List.drop_length, List.reverse_nil, Nat.sub_zero, List.nil_append]) <;> exact fin2)) ?_
      rintro ⟨j, jk⟩ hj wf2
      simp only at hj
      unfold zfk
      by_cases hjl : j < l.length
      · have hix : ((l.length : Int) - 1 - (j : Int)).toNat = l.length - 1 - j := by omega
        have hlt : l.length - 1 - j < l.length := by omega
        have hD : ((l.drop (l.length - j)).reverse).length = j := by simp; omega
        have hst : (l.drop (l.length - (j + 1))).reverse = (l.drop (l.length - j)).reverse ++ [l[l.length - 1 - j]] := by
          rw [show l.length - (j + 1) = l.length - 1 - j by omega, List.drop_eq_getElem_cons hlt, List.reverse_cons, show l.length - 1 - j + 1 = l.length - j by omega]
        generalize hDD : (l.drop (l.length - j)).reverse = D at *
        have htk : List.take (r ++ D).length (List.map encN (r ++ D ++ jk)) = List.map encN (r ++ D) := by
          rw [List.map_append (l₁ := r ++ D), List.take_left' (by simp)]
        have hll2 : (r ++ D).length = r.length + j := by rw [List.length_append, hD]
        have hlr2 : r.length ≤ 1000 := by have := zi2 r; omega
        have hll3 : l.length ≤ 1000 := by have := zi2 l; omega
        (repeat first | simp (disch := try exact dis1) only [evD, Nat.reduceBEq, Nat.reduceAdd, Nat.reduceLeDiff, dT, fldP, h4, hix, zo hlt, zam, zK, htk] | with_reducible intro _ | ((with_reducible apply And.intro); omega))
        refine ⟨⟨by simp, by omega⟩, (j + 1, []), by simp only; omega, by simp only; omega, ?_⟩
        simp only [hst]
        exact (Ent.tab [(0, 0, 0), (1, 1, 1), (2, 2, 0)] [] rfl (by (try simp only [evWB, Nat.reduceBEq, Nat.reduceAdd, Nat.reduceSub, Nat.reduceLeDiff, Nat.reduceLT, implies_true, List.length_append, List.map_append, List.append_assoc, List.append_nil, List.map_cons, List.map_nil, List.length_cons, List.length_nil]) <;> exact fin2) (by (try simp only [evWB, Nat.reduceBEq, Nat.reduceAdd, Nat.reduceSub, Nat.reduceLeDiff, Nat.reduceLT, implies_true, List.length_append, List.map_append, List.append_assoc, List.append_nil, List.map_cons, List.map_nil, List.length_cons, List.length_nil]) <;> exact fin2))
      · have hj2 : j = l.length := by omega
        subst hj2
        simp only [Nat.sub_self, List.drop_zero]
        (repeat first | simp (disch := try exact dis1) only [evD, Nat.reduceBEq, Nat.reduceAdd, Nat.reduceLeDiff, dF] | with_reducible intro _ | ((with_reducible apply And.intro); omega))
        have hsl := znO l
        refine ⟨(out ++ [Nd.mk ⟨kd, bl, lb⟩ c l], r ++ l.reverse, jk), ⟨?_, ?_⟩, ?_, (Ent.tab [(0, 0, 0), (1, 1, 0)] [] rfl (by (try simp only [evWB, Nat.reduceBEq, Nat.reduceAdd, Nat.reduceSub, Nat.reduceLeDiff, Nat.reduceLT, implies_true]) <;> exact fin2) (by (try simp only [evWB, Nat.reduceBEq, Nat.reduceAdd, Nat.reduceSub, Nat.reduceLeDiff, Nat.reduceLT, implies_true]) <;> exact fin2))⟩
        · simp only [List.reverse_append, List.reverse_reverse, zlL]
          rw [← List.append_assoc]
          rw [← hgo]
          simp
        · simp only [List.length_append, List.length_cons, List.length_nil, zcu, hsl]
          omega
        · simp only [zcu, hsl, za4, za7]
          omega
  · rw [show rest = [] from List.eq_nil_of_length_eq_zero (by omega), List.reverse_nil, zdM, List.append_nil] at hgo
    subst hgo
    (repeat first | simp (disch := try exact dis1) only [evD, Nat.reduceBEq, Nat.reduceAdd, Nat.reduceLeDiff, dF] | with_reducible intro _ | ((with_reducible apply And.intro); omega))
    unfold zfD
    (repeat first | simp (disch := try exact dis1) only [evD, Nat.reduceBEq, Nat.reduceAdd, Nat.reduceLeDiff, zhK] | with_reducible intro _ | ((with_reducible apply And.intro); omega))
    exact ⟨_, zyP (l := out) trivial rfl (by omega), rfl⟩
end Go.Ab
namespace Go.Ab
open Go.RowKit Go.Proofs Go.Maps Go.Sort Go.Shelf
section
variable {H : AH} {nx : Nat}
theorem zvM (r : Nat) : zaf Tryz.prog zaa [.mp r] H nx (fun v H' nx' => (v, H', nx') = (.fn (.func zx) [.it nx], H.set nx 0 (.row 1 [[.mp r]] 0), nx + 1)) := by
  intro w L ι vs rel hv
  obtain ⟨mv, hvs, hm⟩ : ∃ mv, vs = #[mv] ∧ VR w (Lt L ι H) ι mv (.mp r) := by
    rcases vs with ⟨l⟩
    cases hv with
    | cons h1 h2 => cases h2; exact ⟨_, rfl, h1⟩
  subst hvs
  cases hm with
  | mp _ _ lm hlm hcm =>
    have key := callsIn_wide.1 (AnyZI.keys_in zst Fence.wide 5 trivial rfl (some lm.block) w)
    refine Calls.mono key fun e w' ⟨he, hw⟩ => ?_
    subst hw
    generalize zbe.t 23 = tt at *
    have hno : ¬ maxLen + 3 ≤ maxLen := by omega
    have c1 : Chg w ι H nx 0 0 ⟨w.heap.size, 0, maxLen + 3, 1⟩ (w.alloc (.cells #[.map (some lm.block)] tt)) :=
      ⟨rfl, rfl, rfl, by simp, fun b hb _ => Below.heap_alloc w _ b hb, fun _ => .inr (Nat.le_refl _), fun l0 h0 => (by rw [rel.freshI] at h0; cases h0), fun g2 l2 h2 => (by rw [rel.freshI] at h2; cases h2)⟩
    have hb : (w.alloc (.cells #[.map (some lm.block)] tt)).heap[w.heap.size]? = some (.cells #[.map (some lm.block)] tt) := World.alloc_heap_new w _
    refine ⟨_, ι.put nx 0 0 ⟨w.heap.size, 0, maxLen + 3, 1⟩, H.set nx 0 (.row 1 [[.mp r]] 0), nx + 1, _, he, c1.step (rel.sok 1) rel (Nat.lt_succ_self _) (Nat.le_succ _) ⟨rfl, fun i c hi => ?_, fun h => absurd h hno, fun _ => ⟨Nat.succ_pos 0, _, hb, rfl, by simp [znK]⟩, fun i c j a hi hj => ?_⟩, Nat.le_succ _, ?_, rfl⟩
    · match i with
      | 0 => cases hi; rfl
      | i + 1 => cases hi
    · match i with
      | 0 =>
        cases hi
        match j with
        | 0 =>
          cases hj
          refine ⟨.map (some lm.block), ?_, fun h => absurd h hno, c1.vr (rel.sok 1) rel (.mp _ _ _ hlm hcm)⟩
          unfold zcp
          rw [if_neg hno]
          simp only [hb, Option.bind_some]
          rfl
        | j + 1 => cases hj
      | i + 1 => cases hi
    · refine .fn _ _ _ _ rfl fun i v a h1 h2 => ?_
      match i with
      | 0 =>
        cases h1; cases h2
        exact .it _ nx ⟨w.heap.size, 0, maxLen + 3, 1⟩ (Inj.put_same _ _ _ _ _) (.inr rfl)
      | i + 1 => cases h2
end
def insI (x : Int) : List Int → List Int
  | [] => [x]
  | y :: r => bif decide (x ≤ y) then x :: y :: r else y :: insI x r
def zho : List Int → List Int
  | [] => []
  | x :: r => insI x (zho r)
theorem zny (x : Int) : ∀ l : List Int, (insI x l).Perm (x :: l)
  | [] => .refl _
  | y :: r => by
    rw [insI]
    cases decide (x ≤ y)
    · exact ((zny x r).cons y).trans (.swap x y r)
    · exact .refl _
theorem zda : ∀ l : List Int, (zho l).Perm l
  | [] => .refl _
  | x :: r => (zny x _).trans ((zda r).cons x)
theorem znv (x : Int) : ∀ l : List Int, l.Pairwise (· ≤ ·) → (insI x l).Pairwise (· ≤ ·)
  | [], _ => by simp [insI]
  | y :: r, h => by
    rw [insI]
    rw [List.pairwise_cons] at h
    cases hd : decide (x ≤ y) with
    | true =>
      have hxy : x ≤ y := of_decide_eq_true hd
      refine List.pairwise_cons.2 ⟨fun z hz => ?_, List.pairwise_cons.2 h⟩
      rcases List.mem_cons.1 hz with rfl | hz
      · exact hxy
      · exact Int.le_trans hxy (h.1 z hz)
    | false =>
      have hxy : ¬ x ≤ y := of_decide_eq_false hd
      refine List.pairwise_cons.2 ⟨fun z hz => ?_, znv x r h.2⟩
      rcases List.mem_cons.1 ((zny x r).mem_iff.1 hz) with rfl | hz
      · omega
      · exact h.1 z hz
theorem ziM : ∀ l : List Int, (zho l).Pairwise (· ≤ ·)
  | [] => .nil
  | x :: r => znv x _ (ziM r)
theorem zuL {l m : List Int} (h : l.Perm m) (hl : l.Pairwise (· ≤ ·)) (hm : m.Pairwise (· ≤ ·)) : l = m :=
  List.Perm.eq_of_pairwise (fun _ _ _ _ h1 h2 => Int.le_antisymm h1 h2) hl hm h
theorem ziQ {l m : List Int} (h : l.Perm m) : l.mergeSort (fun x y => decide (x ≤ y)) = zho m := by
  refine zuL ((List.mergeSort_perm _ _).trans (h.trans (zda m).symm)) ?_ (ziM m)
  have := List.pairwise_mergeSort (le := fun x y : Int => decide (x ≤ y)) (fun a b c h1 h2 => by simp only [decide_eq_true_eq] at *; exact Int.le_trans h1 h2) (fun a b => by simp only [Bool.or_eq_true, decide_eq_true_eq]; exact Int.le_total a b) l
  exact this.imp fun h => of_decide_eq_true h
def entI : List (List AV) → Option (List (Int × Int))
  | [] => some []
  | c :: r => match c with
    | [.int .i64 k, _, .int .i64 b] => match entI r with
      | some l => some ((k, b) :: l)
      | none => none
    | _ => none
theorem zqL : ∀ {es : List (List AV)} {l : List (Int × Int)}, entI es = some l → l.length = es.length ∧ ∀ (i : Nat) (p : Int × Int), l[i]? = some p → ∃ v, es[i]? = some [.int .i64 p.1, v, .int .i64 p.2]
  | [], l, h => by cases h; exact ⟨rfl, fun i p h => by simp at h⟩
  | c :: r, l, h => by
    unfold entI at h
    split at h
    · rename_i k v b
      split at h
      · rename_i l' he
        cases h
        obtain ⟨h1, h2⟩ := zqL he
        refine ⟨by simp [h1], fun i p hi => ?_⟩
        match i with
        | 0 => cases hi; exact ⟨v, rfl⟩
        | i + 1 => exact h2 i p hi
      · cases h
    · cases h
section
variable {w : World} {L : Nat → Prop} {ι : Inj} {H : AH} {nx : Nat}
theorem zwE (rel : RelH w L ι H nx) {r : Nat} {l : Loc} {c : Int} {u u' : AV} {es : List (List AV)} {ps : List (Int × Int)} (hl : ι r 0 0 = some l) (hcap : l.cap = maxLen + 1)
    (hm : H.get r 0 = some (.row 3 ([.int .i64 c, u, u'] :: es) 0)) (hes : entI es = some ps) :
    ∃ ms clock, w.heap[l.block]? = some (.map ms clock) ∧ c = (clock : Int) ∧ ms.toList.map (fun e => e.key) = ps.map (fun p => encZ p.1) ∧ ms.toList.map (fun e => (e.born : Int)) = ps.map (·.2) ∧ ∀ p ∈ ps, InR .i64 p.1 := by
  obtain ⟨l', hl', ok⟩ := rel.row _ _ _ _ _ hm
  rw [hl] at hl'
  cases hl'
  obtain ⟨ms, clock, hb, hsz, hh⟩ := ok.map hcap
  obtain ⟨hlen, hget⟩ := zqL hes
  have hms : ms.size = ps.length := by simp at hsz; omega
  have one : ∀ (i : Nat) (p : Int × Int), ps[i]? = some p → ∃ e, ms[i]? = some e ∧ e.key = encZ p.1 ∧ (e.born : Int) = p.2 ∧ InR .i64 p.1 := by
    intro i p hi
    obtain ⟨v, hv⟩ := hget i p hi
    have hi' : i < ms.size := by rw [hms]; exact (List.getElem?_eq_some_iff.1 hi).1
    obtain ⟨v1, e1, r1⟩ := hh (i + 1) 0 _ (.int .i64 p.1) (by simpa using hv) rfl
    obtain ⟨v2, e2, r2⟩ := hh (i + 1) 2 _ (.int .i64 p.2) (by simpa using hv) rfl
    simp only [zde, Array.getElem?_eq_getElem hi', Option.map_some, Option.some.injEq] at e1 e2
    refine ⟨ms[i], Array.getElem?_eq_getElem hi', ?_, ?_, ?_⟩
    · rw [e1]; generalize p.1 = y at r1 ⊢; cases r1; rfl
    · rw [← e2] at r2
      generalize p.2 = y at r2 ⊢
      cases r2; rfl
    · generalize p.1 = y at r1 ⊢
      cases r1; assumption
  refine ⟨ms, clock, hb, ?_, ?_, ?_, fun p hp => ?_⟩
  · obtain ⟨v, e0, r0⟩ := hh 0 0 _ (.int .i64 c) rfl rfl
    simp only [zde, Option.some.injEq] at e0
    rw [← e0] at r0
    cases r0; rfl
  · apply List.ext_getElem?
    intro i
    rw [List.getElem?_map, List.getElem?_map, Array.getElem?_toList]
    cases hi : ps[i]? with
    | none => rw [Array.getElem?_eq_none (by rw [hms]; exact List.getElem?_eq_none_iff.1 hi)]; rfl
    | some p => obtain ⟨e, h1, h2, _⟩ := one i p hi; rw [h1]; simp [h2]
  · apply List.ext_getElem?
    intro i
    rw [List.getElem?_map, List.getElem?_map, Array.getElem?_toList]
    cases hi : ps[i]? with
    | none => rw [Array.getElem?_eq_none (by rw [hms]; exact List.getElem?_eq_none_iff.1 hi)]; rfl
    | some p => obtain ⟨e, h1, _, h3, _⟩ := one i p hi; rw [h1]; simp [h3]
  · obtain ⟨i, hi, rfl⟩ := List.mem_iff_getElem.1 hp
    obtain ⟨_, _, _, _, h⟩ := one i _ (List.getElem?_eq_getElem hi)
    exact h
theorem zz1 (rel : RelH w L ι H nx) {w' : World} {e : TypeId} {v : Value} {n : Nat} {zs : List Int} (hn : zs.length = n) (hrow : w'.ownsRow w.heap.size e 1 v n (zs.map encZ)) (hb : Below w.heap.size w w') (hz : ∀ z ∈ zs, InR .i64 z) :
    ∃ ι', Step w L ι H nx w' ι' (H.set nx 0 (.row 1 (zs.map fun k => [.int .i64 k]) 0)) (nx + 1) ∧ VR w' (Lt L ι' (H.set nx 0 (.row 1 (zs.map fun k => [.int .i64 k]) 0))) ι' v (.own nx 0 0 0 n) := by
  obtain ⟨hlen, ⟨rfl, rfl⟩ | ⟨g, cap, cur, rfl, hg, hgb, h1, h2, h3, h4⟩⟩ := hrow
  · obtain rfl : zs = [] := List.eq_nil_of_length_eq_zero hn
    have c1 : Chg w ι H nx 0 0 ⟨0, 0, 0, 1⟩ w' := ⟨hb.os, hb.tape, hb.output, hb.size, fun b hb' _ => hb.block b hb', fun h => by simp at h, fun l0 h0 => (by rw [rel.freshI] at h0; cases h0), fun g2 l2 h2 => (by rw [rel.freshI] at h2; cases h2)⟩
    refine ⟨_, c1.step (rel.sok 1) rel (Nat.lt_succ_self _) (Nat.le_succ _) (.mk' rfl (Nat.le_refl _) (Nat.zero_le _) (fun k hk => by simp at hk) (fun h => by simp at h) (fun k c' hk => by simp at hk) (fun k c' j a hk _ => by simp at hk)), ?_⟩
    exact .own _ nx 0 0 0 0 _ 0 _ (Inj.put_same _ _ _ _ _) (Nat.zero_le _) (Nat.le_refl _) (Nat.le_refl _) (fun h => by omega)
  · have c1 : Chg w ι H nx 0 0 ⟨g, 0, cap, 1⟩ w' := ⟨hb.os, hb.tape, hb.output, hb.size, fun b hb' _ => hb.block b hb', fun _ => .inr hg, fun l0 h0 => (by rw [rel.freshI] at h0; cases h0), fun g2 l2 h2 => (by rw [rel.freshI] at h2; cases h2)⟩
    have hcell : ∀ k, k < cap → w'.cell? ⟨g, k, none⟩ = cur[k]? := fun k hk => by
      simp only [World.cell?, hgb, Option.isSome_none, Bool.false_eq_true, if_false]
    refine ⟨_, c1.step (rel.sok 1) rel (Nat.lt_succ_self _) (Nat.le_succ _) (.mk' rfl (by simp; omega) h2 (fun k hk => ?_) (fun _ => ?_) (fun k c' hk => ?_) (fun k c' j a hk hj => ?_)), .own _ nx 0 0 0 n _ cap _ (Inj.put_same _ _ _ _ _) h2 h1 (by simp) (fun _ => by simp)⟩
    · simp only [Nat.zero_add, Nat.mul_one] at hk ⊢
      rw [hcell k hk]
      refine ⟨by rw [Array.getElem?_eq_getElem (by omega)]; rfl, by simp [World.frozen?, hgb]⟩
    · intro c e' lo hi hh
      rw [hgb] at hh
      cases hh
      exact .inl rfl
    · rw [List.getElem?_map] at hk
      obtain ⟨z, _, rfl⟩ := Option.map_eq_some_iff.1 hk
      rfl
    · rw [List.getElem?_map] at hk
      obtain ⟨z, hz', rfl⟩ := Option.map_eq_some_iff.1 hk
      match j with
      | 0 =>
        cases hj
        have hkn : k < n := by rw [← hn]; exact (List.getElem?_eq_some_iff.1 hz').1
        refine ⟨encZ z, ?_, rfl, .int _ _ _ (hz z (List.mem_of_getElem? hz'))⟩
        simp only [Nat.zero_add, Nat.mul_one, Nat.add_zero]
        rw [hcell k (by omega)]
        have := congrArg (fun (l : List Value) => l[k]?) h4
        simp only [Nat.mul_one, List.getElem?_take_of_lt hkn, List.getElem?_map, hz', Option.map_some, Array.getElem?_toList] at this
        exact this
      | j + 1 => cases hj
theorem zlQ {α β : Type} {f : α → β} : ∀ {l : List α}, (l.map f).Nodup → l.Nodup
  | [], _ => .nil
  | a :: l, h => by
    rw [List.map_cons, List.nodup_cons] at h
    exact List.nodup_cons.2 ⟨fun hm => h.1 (List.mem_map_of_mem hm), zlQ h.2⟩
theorem zvJ {k : IntKind} {n : Int} (h : InR k n) : (Lit.int k n).wf = true := by
  unfold Lit.wf
  simpa [InR] using h
theorem zr1 {r rb : Nat} {c : Int} {u u' : AV} {es : List (List AV)} {ps : List (Int × Int)} (hb : H.get rb 0 = some (.row 1 [[.mp r]] 0)) (hm : H.get r 0 = some (.row 3 ([.int .i64 c, u, u'] :: es) 0)) (hes : entI es = some ps)
    (hk : (ps.map (·.1)).Nodup) (hbn : (ps.map (·.2)).Nodup) (hcl : ∀ p ∈ ps, p.2 < c) (hlen : ps.length ≤ 1000000) :
    zaf Tryz.prog zbS [.fn (.func zx) [.it rb]] H nx (fun v H' nx' => (v, H', nx') = (.own nx 0 0 0 ps.length, H.set nx 0 (.row 1 ((zho (ps.map (·.1))).map fun k => [.int .i64 k]) 0), nx + 1)) := by
  intro w L ι vs rel hv
  obtain ⟨mv, hvs, hmv⟩ : ∃ mv, vs = #[mv] ∧ VR w (Lt L ι H) ι mv (.fn (.func zx) [.it rb]) := by
    rcases vs with ⟨l⟩
    cases hv with
    | cons h1 h2 => cases h2; exact ⟨_, rfl, h1⟩
  subst hvs
  cases hmv with
  | fn _ _ cs _ hs hcv =>
    obtain ⟨pv, rfl⟩ : ∃ pv, cs = #[pv] := by
      rcases cs with ⟨l⟩
      match l, hs with
      | [pv], _ => exact ⟨pv, rfl⟩
    have hp := hcv 0 pv (.it rb) rfl rfl
    cases hp with
    | it _ _ lb hlb hcb =>
      obtain ⟨lb', hlb', okb⟩ := rel.row _ _ _ _ _ hb
      rw [hlb] at hlb'
      cases hlb'
      have hno : ¬ lb.cap ≤ maxLen := by omega
      obtain ⟨_, o, ho, ho2, ho3⟩ := okb.spec hno
      obtain ⟨mv, h4, _, h5⟩ := okb.hold 0 _ 0 (.mp r) rfl rfl
      unfold zcp at h4
      rw [if_neg hno, ho] at h4
      cases h5 with
      | mp _ _ lm hlm hcm =>
        obtain ⟨cells, te, fz, rfl⟩ : ∃ cells te fz, o = .cells cells te fz := by
          cases o <;> first | exact ⟨_, _, _, rfl⟩ | (simp [znK] at ho3; omega) | (simp [vlen] at ho2; done)
        simp only [Option.bind_some, zde] at h4
        have hcell : w.cell? ⟨lb.block, 0, none⟩ = some (.map (some lm.block)) := by
          simp only [World.cell?, ho, Option.isSome_none, Bool.false_eq_true, if_false]
          exact h4
        obtain ⟨ms, clock, hmb, rfl, hks, hbs, hin⟩ := zwE rel hlm hcm hm hes
        have hsz : ms.size = ps.length := by
          have := congrArg List.length hks
          simpa using this
        have hmb' : lm.block < w.heap.size := (Array.getElem?_eq_some_iff.1 hmb).1
        have hlb2 : lb.block < w.heap.size := (Array.getElem?_eq_some_iff.1 ho).1
        let R : Value → Option (DataW Unit × List MemPlace) := fun _ => some (.nil, [])
        have hkt : Tryz.prog.underlying (zbe.t 26) = some (.int .i64) := zst.t26
        have hreads : ∀ x ∈ ms.toList, Go.WideElems.rd Tryz.prog (zbe.t 26) R x = some (.int .i64 (intOf ((keyOf Tryz.prog (zbe.t 26) x.key).getD (.bool false))), .nil) ∧ ∃ p ∈ ps, x.key = encZ p.1 := by
          intro x hx
          have : x.key ∈ ps.map fun p => encZ p.1 := by rw [← hks]; exact List.mem_map_of_mem hx
          obtain ⟨p, hp, hpe⟩ := List.mem_map.1 this
          refine ⟨?_, p, hp, hpe.symm⟩
          have hko := keyOf_int_mk hkt (zvJ (hin p hp))
          unfold Go.WideElems.rd
          rw [← hpe, hko]
          rfl
        have F : Go.WideElems.Fit Tryz.prog (zbe.t 26) R ms clock := ⟨by unfold maxLen; omega, ⟨fun x hx => ?_, ?_, ?_⟩, fun x hx => ⟨_, (hreads x hx).1⟩⟩
        rotate_left
        · have : (x.born : Int) ∈ ps.map (·.2) := by rw [← hbs]; exact List.mem_map_of_mem hx
          obtain ⟨p, hp, hpe⟩ := List.mem_map.1 this
          have := hcl p hp
          omega
        · rw [← hbs] at hbn
          rw [show (ms.toList.map fun e => (e.born : Int)) = (ms.toList.map (·.born)).map (fun n : Nat => (n : Int)) by simp [Function.comp_def]] at hbn
          exact zlQ hbn
        · rw [hks]
          rw [show (ps.map fun p => encZ p.1) = (ps.map (·.1)).map encZ by simp [Function.comp_def]]
          exact List.Pairwise.map _ (fun a b hab e => hab (encZ_inj e)) hk
        have hown : w.ownsMap Tryz.prog (zbe.t 26) R lm.block ms.size (.map ((ms.toList.map (Go.WideElems.rg Tryz.prog (zbe.t 26) R)).foldr DataW.insert [])) := ⟨ms, clock, hmb, F, Nat.le_refl _, rfl⟩
        have hkeys : (intKeys (DataW.map (H := Unit) ((ms.toList.map (Go.WideElems.rg Tryz.prog (zbe.t 26) R)).foldr DataW.insert []))).Perm (ps.map (·.1)) := by
          show ((List.foldr DataW.insert [] _).map fun p => intOf p.1).Perm _
          refine ((Go.WideShapes.sorted_perm _).map _).trans ?_
          refine List.Perm.of_eq ?_
          have : (ms.toList.map fun e => e.key).map (fun v => match v with | .int _ n => n | _ => 0) = ps.map (·.1) := by
            rw [hks]
            simp [Function.comp_def]
          rw [← this, List.map_map, List.map_map]
          refine List.map_congr_left fun x hx => ?_
          obtain ⟨h1, p, hp, hpe⟩ := hreads x hx
          simp only [Function.comp]
          rw [Go.WideElems.rg_of h1, hpe, keyOf_int_mk hkt (zvJ (hin p hp))]
          rfl
        have hsize : Maps.size (DataW.map (H := Unit) ((ms.toList.map (Go.WideElems.rg Tryz.prog (zbe.t 26) R)).foldr DataW.insert [])) = ps.length := by
          rw [Maps.size_eq, (Go.WideShapes.sorted_perm _).length_eq, List.length_map, Array.length_toList, hsz]
        have hseq := AnyZI.keys_gives (ρ := zbe) { zst with } Fence.wide 2 trivial rfl (by omega) lb.block lm.block ms.size _ w hlb2 hcell hown
        have sorts : AnyZI.SortsIn Tryz.prog zkx Fence.wide 4 :=
          ⟨fun blk off cap ss W hH hblk hsz => callsIn_wide.2 (AnyM.slices_Sort_int zpv blk off cap ss W hH hblk hsz), fun p cap W => callsIn_wide.2 (AnyM.slices_Sort_int_none zpv p cap W)⟩
        have cS := AnyZI.sorted_in zvq Fence.wide 5 trivial trivial trivial trivial rfl (by omega) sorts zqq zx #[.pointer (some ⟨lb.block, 0, none⟩)] trivial zpb _ _ (by rw [hsize]; unfold maxLen; omega) (by rw [hsize]; omega) _ hseq
        refine Calls.mono (callsIn_wide.1 cS) fun e w' ⟨v, ss, he, hperm, hrow, _, hbel⟩ => ?_
        have hp2 : ss.Perm (ps.map (·.1)) := hperm.trans hkeys
        rw [ziQ hp2] at hrow
        have hl : ss.length = ps.length := by rw [hp2.length_eq, List.length_map]
        rw [hl] at hrow
        have hsl : (zho (ps.map (·.1))).length = ps.length := by rw [(zda _).length_eq, List.length_map]
        obtain ⟨ι', st, hvr⟩ := zz1 rel hsl hrow hbel (fun z hz => by
          obtain ⟨p, hp, rfl⟩ := List.mem_map.1 ((zda _).mem_iff.1 hz)
          exact hin p hp)
        exact ⟨v, ι', _, _, _, he, st, Nat.le_succ _, hvr, rfl⟩
end
end Go.Ab
namespace Go.Ab
open Go.RowKit Go.Proofs
theorem zxc : zT Tryz.prog zad (qRo []) = some ((zlk 5 72 [.int .i64 0, .int .i64 0, .int .i64 0, .nilsl, .nilsl]).strip, [.tmp 2], 8) := by kernel_rfl
theorem zxh : zT Tryz.prog zac (qRo []) = some ((zlk 5 56 [.int .i64 0, .int .u32 0, .int .i64 0, .int .i64 0, .nilsl]).strip, [.tmp 2], 8) := by kernel_rfl
theorem zAl : zT Tryz.prog zB (qRo []) = some ((zlk 1 8 [.int .i64 0]).strip, [.tmp 2], 8) := by kernel_rfl
def nodB : List Int → Bool
  | [] => true
  | x :: r => !(r.any fun y => decide (y = x)) && nodB r
theorem zrP : ∀ {l : List Int}, nodB l = true → l.Nodup
  | [], _ => .nil
  | x :: r, h => by
    simp only [nodB, Bool.and_eq_true, Bool.not_eq_true', List.any_eq_false, decide_eq_true_eq] at h
    exact List.nodup_cons.2 ⟨fun hm => h.1 x hm rfl, zrP h.2⟩
def zkM (sz : Nat) (args : List AV) (H : AH) (nx : Nat) : Option (AV × AH × Nat) :=
  match args with
  | [x] => bif zwm sz x H then some (.own nx 0 0 0 0, H.set nx 0 (.row sz [] 0), nx + 1) else none
  | _ => none
def zvK (args : List AV) (H : AH) (nx : Nat) : Option (AV × AH × Nat) :=
  match args with
  | [.mp r] => some (.fn (.func zx) [.it nx], H.set nx 0 (.row 1 [[.mp r]] 0), nx + 1)
  | _ => none
def zpK (args : List AV) (H : AH) (nx : Nat) : Option (AV × AH × Nat) :=
  match args with
  | [.fn (.func g) [.it rb]] => bif Nat.beq g zx then
      match H.get rb 0 with
      | some (.row 1 [[.mp r]] 0) => match H.get r 0 with
        | some (.row 3 ([.int .i64 c, _, _] :: es) 0) => match entI es with
          | some ps => bif nodB (ps.map (·.1)) && (nodB (ps.map (·.2)) && ((ps.all fun p => decide (p.2 < c)) && Nat.ble ps.length 1000000)) then
              some (.own nx 0 0 0 ps.length, H.set nx 0 (.row 1 ((zho (ps.map (·.1))).map fun k => [.int .i64 k]) 0), nx + 1)
            else none
          | none => none
        | _ => none
      | _ => none
    else none
  | _ => none
def zwi : zba := fun f args H nx =>
  bif Nat.beq f zaa then zvK args H nx
  else bif Nat.beq f zbS then zpK args H nx
  else bif Nat.beq f zad then zkM 5 args H nx
  else bif Nat.beq f zac then zkM 5 args H nx
  else bif Nat.beq f zB then zkM 1 args H nx
  else none
theorem zjM {f sz bytes : Nat} {z : List AV} (hc : zT Tryz.prog f (qRo []) = some ((zlk sz bytes z).strip, [.tmp 2], 8)) {args : List AV} {H : AH} {nx : Nat} {r : AV × AH × Nat} (h : zkM sz args H nx = some r) :
    zaf Tryz.prog f args H nx (fun v H' nx' => (v, H', nx') = r) := by
  unfold zkM at h
  split at h
  · rename_i x
    cases hx : zwm sz x H with
    | false => rw [hx] at h; cases h
    | true => rw [hx] at h; cases h; exact zo6 hc (by decide) hx
  · cases h
theorem zc5 : zwi.Sound Tryz.prog := by
  intro f args H nx r h
  unfold zwi at h
  cases h1 : Nat.beq f zaa with
  | true =>
    rw [h1] at h
    obtain rfl := zl h1
    simp only [cond_true] at h
    unfold zvK at h
    split at h
    · cases h; exact zvM _
    · cases h
  | false =>
  rw [h1] at h
  cases h2 : Nat.beq f zbS with
  | true =>
    rw [h2] at h
    obtain rfl := zl h2
    simp only [cond_true, cond_false] at h
    unfold zpK at h
    split at h
    · rename_i g rb
      cases hg : Nat.beq g zx with
      | false => rw [hg] at h; cases h
      | true =>
        rw [hg] at h
        obtain rfl := zl hg
        simp only [cond_true] at h
        split at h
        · rename_i r hb
          split at h
          · rename_i c u u' es hm
            split at h
            · rename_i ps hes
              generalize hcond : (nodB (ps.map (·.1)) && _) = cond at h
              cases cond with
              | false => cases h
              | true =>
                cases h
                simp only [Bool.and_eq_true, List.all_eq_true, decide_eq_true_eq] at hcond
                exact zr1 hb hm hes (zrP hcond.1) (zrP hcond.2.1) hcond.2.2.1 (bleT hcond.2.2.2)
            · cases h
          · cases h
        · cases h
    · cases h
  | false =>
  rw [h2] at h
  cases h3 : Nat.beq f zad with
  | true => rw [h3] at h; obtain rfl := zl h3; exact zjM zxc h
  | false =>
  rw [h3] at h
  cases h4 : Nat.beq f zac with
  | true => rw [h4] at h; obtain rfl := zl h4; exact zjM zxh h
  | false =>
  rw [h4] at h
  cases h5 : Nat.beq f zB with
  | true => rw [h5] at h; obtain rfl := zl h5; exact zjM zAl h
  | false => rw [h5] at h; cases h
end Go.Ab
namespace Go.Ab
def q36 : FuncId → Nat → List Nat := qTabK [(zl7, ([], [0], [])),
  (zjG, ([], [153131183434107391], [(8, [1]), (17, [12])])),
  (ziC, ([], [639], [])),
  (zcq, ([], [4127], [])),
  (ziG, ([], [39], [(3, [14])])),
  (zgr, ([], [4175], [(6, [20])])),
  (zjj, ([], [20769187743700468513022123643584511], [])),
  (zjc, ([], [162259279247065020637433926156287], [])),
  (zkB, ([], [591484760677544919167], [])),
  (zb1, ([12, 14, 18, 20, 28, 32, 34, 36, 43, 45, 47, 50, 66, 78], [255], [(9, [9, 25])])),
  (zcA, ([], [568332671], [])),
  (zcZ, ([], [2417999287491809886999039], [])),
  (zkt, ([], [1050543], [])),
  (znk, ([], [4159], [])),
  (zck, ([], [131635], [])),
  (zbc, ([], [137716893951], [(15, [1, 2])])),
  (zcK, ([], [985163492243583], [])),
  (zq6, ([], [1151], [])),
  (zus, ([], [2418003825158137522946175], [])),
  (zg9, ([], [7], [])),
  (zhn, ([], [18033092365263871], [])),
  (zkW, ([], [34735], [])),
  (zsj, ([], [16543], [])),
  (ztO, ([], [19], [])),
  (zb3, ([], [34735], [])),
  (zeq, ([], [131231], [])),
  (zek, ([], [4198431], [])),
  (zpS, ([], [67244047], [])),
  (znZ, ([], [67109951], [])),
  (zg7, ([], [524863], [])),
  (zgZ, ([], [17180000503], [])),
  (zt7, ([], [2111], [])),
  (zkS, ([], [33818751], [])),
  (znn, ([], [17716773063], [])),
  (zoB, ([], [528415], [])),
  (zmd, ([], [4127], [])),
  (zd6, ([], [2148532687], [])),
  (zt4, ([], [5], [])),
  (zu2, ([], [5], [])),
  (zr8, ([], [5], [])),
  (zbl, ([], [4636591142270639], [])),
  (zh0, ([], [4533489117377705399028447], [])),
  (zgO, ([], [16785383], [(6, [9])])),
  (zci, ([], [69793220735], [])),
  (zlh, ([], [8396471], [])),
  (zee, ([], [576478346637019383], [])),
  (zcf, ([], [2417925426205621976301599], [])),
  (zuh, ([], [4611721211406190543], [])),
  (zy, ([], [19], [])),
  (zbV, ([], [7], [])),
  (zC, ([], [154742504910672625680777343], [])),
  (zb6, ([], [19360524294128575204755323], [])),
  (zbn, ([], [65567], [])),
  (zbN, ([], [15], [])),
  (zaS, ([], [19], [])),
  (zch, ([], [5], [])),
  (zS, ([], [17596514574653], [])),
  (zB, ([], [21], [])),
  (zad, ([], [21], [])),
  (zjT, ([], [3615], [])),
  (zmb, ([], [121332966943], [])),
  (zac, ([], [21], [])),
  (zjm, ([], [7183], [])),
  (zmo, ([], [137443270975], [(8, [10])])),
  (zue, ([], [154742504946702430897184751], [])),
  (zsa, ([], [1073743991], [])),
  (zdF, ([], [32927], [])),
  (ztD, ([], [576497036187140159], [])),
  (zem, ([], [34426982519], [])),
  (zei, ([], [131343], [])),
  (zgj, ([], [17179902207], [])),
  (zfh, ([], [2199027580983], [])),
  (zrf, ([], [4503634255579251], [])),
  (zrG, ([], [543], [])),
  (zv5, ([], [139586718751], [])),
  (ztX, ([], [2199027458207], [])),
  (zfy, ([], [2149581295], [])),
  (ze7, ([], [1082523791], [])),
  (zqO, ([], [140741817401855], [])),
  (zoL, ([], [274877923571], [])),
  (zhb, ([], [9345848867383], [])),
  (zcY, ([], [17732730991], [])),
  (zc4, ([], [71], [])),
  (zaC, ([], [7], [])),
  (zdr, ([], [1082523791], [])),
  (zid, ([], [7696599156671], [(9, [5])])),
  (zgL, ([], [5444517870735015490971866452025900261023], [(18, [10]), (19, [6, 8])])),
  (zgt, ([], [2101171], [])),
  (ze5, ([], [1180861854287308271583], [])),
  (zlf, ([], [155], [])),
  (zmK, ([], [5], [])),
  (zgq, ([], [8421351], [])),
  (ziU, ([], [7], [])),
  (zfe, ([], [132151], [])),
  (zg3, ([], [93], [])),
  (zcn, ([], [151], [])),
  (zal, ([], [31], [])),
  (zfI, ([], [5], [])),
  (zU, ([], [66483], [])),
  (zcR, ([], [143], [])),
  (zbv, ([], [30767], [])),
  (zaW, ([], [15], [])),
  (zbo, ([], [66483], [])),
  (zfj, ([], [10384593871817177683247510831234831], [])),
  (zm9, ([], [5], [])),
  (zdK, ([], [504373101], [])),
  (zqT, ([], [70368752566775], [])),
  (zuu, ([], [8589936759], [])),
  (zpp, ([], [34493964791], [])),
  (zoy, ([], [162259277131445106534407549223927], [])),
  (zqP, ([], [2099103], [])),
  (zv7, ([], [5], [])),
  (zqs, ([], [562949953425311], [])),
  (zrb, ([], [1127], [])),
  (zP, ([], [4616189618057552319], [])),
  (zeu, ([], [140879222276159], [])),
  (zbI, ([], [7], [])),
  (zO, ([], [19], [])),
  (zao, ([], [19], [])),
  (zdq, ([], [11], [])),
  (zc2, ([], [2589], [])),
  (zav, ([], [18032061663346911], [])),
  (zmn, ([], [81208866883799183159208249057267], [])),
  (zdk, ([], [14367], [])),
  (zbG, ([], [2295], [])),
  (zkT, ([], [70800343807], [])),
  (zox, ([], [4310819007], [])),
  (zdz, ([], [19], [])),
  (znT, ([], [15], [])),
  (zpD, ([], [2305844110935750607], [])),
  (zpi, ([], [276315827], [])),
  (zcN, ([], [21], [])),
  (zpH, ([], [17179873267], [])),
  (zgE, ([], [51], [])),
  (zel, ([], [47], [])),
  (zgW, ([], [545391503], [])),
  (zep, ([], [4198583], [])),
  (zcT, ([], [1298074215238169961055195466694927], [])),
  (zej, ([], [31], [])),
  (zaj, ([], [8864946749727], [])),
  (zds, ([], [1073746119], [])),
  (ze2, ([], [1074268103], [])),
  (zdL, ([], [8804682991559], [])),
  (zea, ([], [20829169751433159], [])),
  (zdN, ([], [8391], [])),
  (zcd, ([], [83087207854311395603287443752634311], [])),
  (znV, ([], [19], [])),
  (zdd, ([], [19023213622105999119], [])),
  (zeH, ([], [22458641409078797123448399039441150152463], [])),
  (zkZ, ([], [277], [])),
  (zkU, ([], [16661], [])),
  (zd2, ([], [65619], [])),
  (zoE, ([], [23], [])),
  (zn1, ([], [604465220153940708952047], [])),
  (zW, ([], [66483], [])),
  (zX, ([], [66483], [])),
  (zdt, ([], [5], [])),
  (zfM, ([], [5], [])),
  (zkE, ([], [3946589], [])),
  (zkk, ([], [262735], [])),
  (zcv, ([], [138563092727], [])),
  (zbh, ([], [17023135], [])),
  (za0, ([], [525], [])),
  (ziI, ([], [17597437313095], [])),
  (zgN, ([], [3615], [])),
  (zet, ([], [66483], [])),
  (zbS, ([], [13], [])),
  (zaa, ([], [7], [])),
  (zF, ([], [19], [])),
  (zeh, ([], [15], [])),
  (zY, ([], [7], [])),
  (zfd, ([], [4503668346913551], [])),
  (zg6, ([], [5], [])),
  (zhX, ([], [5], [])),
  (zdf, ([], [71], [])),
  (zfW, ([], [1055], [])),
  (zmJ, ([], [5], [])),
  (zvd, ([], [1162750726242719], [])),
  (zau, ([], [537399539], [])),
  (zbf, ([], [11], [])),
  (zjl, ([], [5], [])),
  (zx, ([], [8363], [])),
  (zV, ([], [66483], [])),
  (zfS, ([], [262927], [])),
  (zfQ, ([], [23], []))]
def stmV (op nx el : Int) (e : AV) : List AV := [.int .i64 op, .int .i64 0, .int .i64 0, .int .i64 nx, .int .i64 el, .int .u32 0, e, .nilsl]
def zji : AV := .agg [.int .u32 0, slL 2 [[.int .u32 0, slL 8 [stmV 6 1 0 .nilsl]], [.int .u32 0, slL 8 [stmV 7 2 3 (slL 5 [[.int .i64 2, .int .u32 0, .int .i64 1, .int .i64 0, .nilsl]])]], [.int .u32 0, slL 8 [stmV 6 1 0 .nilsl]], [.int .u32 0, slL 8 [stmV 10 0 0 .nilsl]]]]
end Go.Ab
