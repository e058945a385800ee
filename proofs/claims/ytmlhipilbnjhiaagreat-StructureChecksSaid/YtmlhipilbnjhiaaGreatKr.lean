/-
  Part 18 of the proof: how the calls of this program run, over values instead of memory, and what each function computes.
-/
import Derived.KernelRfl
import Derived.Test.YtmlhipilbnjhiaaGreatKq
set_option maxRecDepth 100000
set_option linter.unusedVariables false
set_option linter.unusedSimpArgs false
set_option linter.unnecessarySimpa false
set_option linter.unusedSectionVars false

namespace Go.Ab
open Go.RowKit Go.Proofs
mutual
def zhb : Nd → Bool → Bool
  | .mk f _ l, b => if (f.kind = 7 ∨ f.kind = 8) ∧ b = false then true else zcK l (b || zcj f.kind)
def zcK : List Nd → Bool → Bool
  | [], _ => false
  | x :: l, b => zhb x b || zcK l b
end
theorem znK : ∀ (l : List Nd) (b : Bool), zcK l b = l.any (zhb · b)
  | [], b => by rw [zcK]; rfl
  | x :: l, b => by rw [zcK, znK l b]; rfl
theorem flNB {b : Bool} {e : Nd} : ([AV.agg (encN e), .bool b]).all AV.flat = true := flN (r := [.bool b]) rfl
theorem zrJ : ∀ (k : Nat) (e : Nd) (b : Bool), zbZ e ≤ k → zaj Tryz.prog zgn [.agg (encN e), .bool b] (· = .bool (zhb e b)) := by
  intro k
  induction k with
  | zero => intro e b h; obtain ⟨_, _, l⟩ := e; rw [zbZ] at h; omega
  | succ k ih =>
  intro e b hk
  obtain ⟨⟨kd, bl, lb⟩, c, l⟩ := e
  refine fn_x zqC rfl ?_
  unfold zmi
  have hB := hBig
  rw [zbZ] at hk
  have hE := zci ⟨kd, bl, lb⟩ c l
  simp only at hE
  rw [hE, zhb]
  simp only
  have body : ∀ K : Kn, K = [(1, .bool b), (2, encP 5 [.int .i64 kd, .int .i64 bl, .int .i64 lb, encL 5 encX c, encL 5 encN l]), (5, .int .i64 0)] → zs8 Tryz.prog 0 zga (zgW 0 (seqQ Tryz.prog 0 zgE (retK zcm fun v H' x => ∃ a, Frz H' v a ∧ a = .bool (zcK l (b || zcj kd))))) K [] 0 := by
    rintro _ rfl
    generalize hR : zcK l (b || zcj kd) = R
    refine zam (fun i : Nat => ([(1, .bool b), (2, encP 5 [.int .i64 kd, .int .i64 bl, .int .i64 lb, encL 5 encX c, encL 5 encN l]), (5, .int .i64 i)], [])) 0 (fun i => i ≤ l.length ∧ zcK (l.drop i) (b || zcj kd) = R) (fun i => l.length - i) 0 ⟨Nat.zero_le _, hR⟩ (Ent.keep rfl fin5) ?_
    rintro i ⟨hi, hgo⟩ wf
    unfold zga
    by_cases hl : i < l.length
    case neg =>
      rw [List.drop_of_length_le (by omega), zcK] at hgo
      subst hgo
      (repeat first | simp (disch := try exact dis1) only [evD, Nat.reduceBEq, Nat.reduceAdd, Nat.reduceLeDiff, fldP, dF] | with_reducible intro _ | ((with_reducible apply And.intro); omega))
      unfold zgE
      (repeat first | simp (disch := try exact dis1) only [evD, Nat.reduceBEq, Nat.reduceAdd, Nat.reduceLeDiff, zcm] | with_reducible intro _ | ((with_reducible apply And.intro); omega))
      exact ⟨_, .bool _ _, rfl⟩
    have hm := zeo (List.getElem_mem hl)
    rw [List.drop_eq_getElem_cons hl, zcK] at hgo
    have hcall := fun b' => ih l[i] b' (by omega)
    have hmk : ∀ q : Bool, (b || zcj kd) = q → (b = false → q = decide (kd = 4 ∨ kd = 5)) := fun q h hb => by rw [← h, hb]; rfl
    cases b with
    | true =>
      rw [Bool.true_or] at hgo
      (repeat first | simp (disch := try exact dis1) only [evD, Nat.reduceBEq, Nat.reduceAdd, Nat.reduceLeDiff, fldP, dT, zao hl, zbd, zaJ] | with_reducible intro _ | ((with_reducible apply And.intro); omega))
      refine za7 (zah (hcall true) flNB) ?_
      cases hq : zhb l[i] true with
      | true => rw [hq, Bool.true_or] at hgo; subst hgo; (repeat first | simp (disch := try exact dis1) only [evD, Nat.reduceBEq, Nat.reduceAdd, Nat.reduceLeDiff, zcm] | with_reducible intro _ | ((with_reducible apply And.intro); omega)); exact ⟨_, .bool _ _, rfl⟩
      | false => rw [hq, Bool.false_or] at hgo; (repeat first | simp (disch := try exact dis1) only [evD, Nat.reduceBEq, Nat.reduceAdd, Nat.reduceLeDiff] | with_reducible intro _ | ((with_reducible apply And.intro); omega)); exact ⟨i + 1, ⟨by omega, by rw [Bool.true_or]; exact hgo⟩, by omega, Ent.keep rfl fin5⟩
    | false =>
      by_cases h4 : kd = 4
      · have e4 : zcj kd = true := by unfold zcj; exact decide_eq_true (.inl h4)
        rw [e4, Bool.false_or] at hgo ⊢
        (repeat first | simp (disch := try exact dis1) only [evD, Nat.reduceBEq, Nat.reduceAdd, Nat.reduceLeDiff, fldP, dT, zao hl, zbd, zaJ] | with_reducible intro _ | ((with_reducible apply And.intro); omega))
        refine za7 (zah (hcall true) flNB) ?_
        cases hq : zhb l[i] true with
        | true => rw [hq, Bool.true_or] at hgo; subst hgo; (repeat first | simp (disch := try exact dis1) only [evD, Nat.reduceBEq, Nat.reduceAdd, Nat.reduceLeDiff, zcm] | with_reducible intro _ | ((with_reducible apply And.intro); omega)); exact ⟨_, .bool _ _, rfl⟩
        | false => rw [hq, Bool.false_or] at hgo; (repeat first | simp (disch := try exact dis1) only [evD, Nat.reduceBEq, Nat.reduceAdd, Nat.reduceLeDiff] | with_reducible intro _ | ((with_reducible apply And.intro); omega)); exact ⟨i + 1, ⟨by omega, hgo⟩, by omega, Ent.keep rfl fin5⟩
      by_cases h5 : kd = 5
      · have e5 : zcj kd = true := by unfold zcj; exact decide_eq_true (.inr h5)
        rw [e5, Bool.false_or] at hgo ⊢
        (repeat first | simp (disch := try exact dis1) only [evD, Nat.reduceBEq, Nat.reduceAdd, Nat.reduceLeDiff, fldP, dT, dF, zao hl, zbd, zaJ] | with_reducible intro _ | ((with_reducible apply And.intro); omega))
        refine za7 (zah (hcall true) flNB) ?_
        cases hq : zhb l[i] true with
        | true => rw [hq, Bool.true_or] at hgo; subst hgo; (repeat first | simp (disch := try exact dis1) only [evD, Nat.reduceBEq, Nat.reduceAdd, Nat.reduceLeDiff, zcm] | with_reducible intro _ | ((with_reducible apply And.intro); omega)); exact ⟨_, .bool _ _, rfl⟩
        | false => rw [hq, Bool.false_or] at hgo; (repeat first | simp (disch := try exact dis1) only [evD, Nat.reduceBEq, Nat.reduceAdd, Nat.reduceLeDiff] | with_reducible intro _ | ((with_reducible apply And.intro); omega)); exact ⟨i + 1, ⟨by omega, hgo⟩, by omega, Ent.keep rfl fin5⟩
      have e0 : zcj kd = false := by unfold zcj; exact decide_eq_false (by omega)
      rw [e0, Bool.false_or] at hgo ⊢
      (repeat first | simp (disch := try exact dis1) only [evD, Nat.reduceBEq, Nat.reduceAdd, Nat.reduceLeDiff, fldP, dT, dF, zao hl, zbd, zaJ] | with_reducible intro _ | ((with_reducible apply And.intro); omega))
      refine za7 (zah (hcall false) flNB) ?_
      cases hq : zhb l[i] false with
      | true => rw [hq, Bool.true_or] at hgo; subst hgo; (repeat first | simp (disch := try exact dis1) only [evD, Nat.reduceBEq, Nat.reduceAdd, Nat.reduceLeDiff, zcm] | with_reducible intro _ | ((with_reducible apply And.intro); omega)); exact ⟨_, .bool _ _, rfl⟩
      | false => rw [hq, Bool.false_or] at hgo; (repeat first | simp (disch := try exact dis1) only [evD, Nat.reduceBEq, Nat.reduceAdd, Nat.reduceLeDiff] | with_reducible intro _ | ((with_reducible apply And.intro); omega)); exact ⟨i + 1, ⟨by omega, hgo⟩, by omega, Ent.keep rfl fin5⟩
  have stop : (kd = 7 ∨ kd = 8) → b = false → (if (kd = 7 ∨ kd = 8) ∧ b = false then true else zcK l (b || zcj kd)) = true := fun h1 h2 => if_pos ⟨h1, h2⟩
  have go : ¬ ((kd = 7 ∨ kd = 8) ∧ b = false) → (if (kd = 7 ∨ kd = 8) ∧ b = false then true else zcK l (b || zcj kd)) = zcK l (b || zcj kd) := fun h => if_neg h
  by_cases h7 : kd = 7
  · cases hb : b with
    | true => subst hb; rw [go (by simp)]; (repeat first | simp (disch := try exact dis1) only [evD, Nat.reduceBEq, Nat.reduceAdd, Nat.reduceLeDiff, fldP, dT, dF] | with_reducible intro _ | ((with_reducible apply And.intro); omega)); exact body _ rfl
    | false => subst hb; rw [stop (.inl h7) rfl]; (repeat first | simp (disch := try exact dis1) only [evD, Nat.reduceBEq, Nat.reduceAdd, Nat.reduceLeDiff, fldP, dT, zcm] | with_reducible intro _ | ((with_reducible apply And.intro); omega)); exact ⟨_, .bool _ _, rfl⟩
  by_cases h8 : kd = 8
  · cases hb : b with
    | true => subst hb; rw [go (by simp)]; (repeat first | simp (disch := try exact dis1) only [evD, Nat.reduceBEq, Nat.reduceAdd, Nat.reduceLeDiff, fldP, dT, dF] | with_reducible intro _ | ((with_reducible apply And.intro); omega)); exact body _ rfl
    | false => subst hb; rw [stop (.inr h8) rfl]; (repeat first | simp (disch := try exact dis1) only [evD, Nat.reduceBEq, Nat.reduceAdd, Nat.reduceLeDiff, fldP, dT, dF, zcm] | with_reducible intro _ | ((with_reducible apply And.intro); omega)); exact ⟨_, .bool _ _, rfl⟩
  rw [go (by omega)]
  (repeat first | simp (disch := try exact dis1) only [evD, Nat.reduceBEq, Nat.reduceAdd, Nat.reduceLeDiff, fldP, dF] | with_reducible intro _ | ((with_reducible apply And.intro); omega))
  exact body _ rfl
structure PredN (fv : AV) (l : List Nd) (p : Nd → Bool) : Prop where
  ex : ∃ f caps, fv = .fn (.func f) caps ∧ zeS Tryz.prog f = true ∧ zaE caps = true ∧ ∀ s ∈ l, zaj Tryz.prog f ([.agg (encN s)] ++ caps) (· = .bool (p s))
theorem zs4 {fv : AV} {l : List Nd} {p : Nd → Bool} (hp : PredN fv l p) {s : Nd} (hs : s ∈ l) {H : AH} {nx : Nat} {k : AV → AH → Nat → Prop} (hk : k (.bool (p s)) H nx) : zlg Tryz.prog fv [.agg (encN s)] H nx k := by
  obtain ⟨f, caps, rfl, hg, hf, hx⟩ := hp.ex
  rw [zhE]
  refine ⟨hg, zae (zah (hx s hs) ?_) hk⟩
  simp only [List.cons_append, List.nil_append, List.all_cons, Bool.and_eq_true]
  exact ⟨by have := flN (r := []) rfl (e := s); simpa using this, zdg hf⟩
theorem zt6 {fv : AV} {l : List Nd} {p : Nd → Bool} (hp : PredN fv l p) {H H2 : AH} {σ : Nat → Nat → Option (Nat × Nat × Nat)} {D : Nat → Nat → Prop} {t : Bool} : Vw H H2 σ D t fv fv := by
  obtain ⟨f, caps, rfl, hg, hf, hx⟩ := hp.ex
  refine .fn _ _ _ _ rfl fun i a b h1 h2 => ?_
  rw [h1] at h2
  cases h2
  exact zdq (zcc hf h1)
theorem zj5 (l : List Nd) (fv : AV) (p : Nd → Bool) (hp : PredN fv l p) : zaj Tryz.prog zaS [encL 5 encN l, fv] (· = .int .i64 (idxI (l.findIdx? p))) := by
  refine fn_x zdC rfl ?_
  unfold zbU
  have hB := hBig
  (repeat first | simp (disch := try exact dis1) only [evD, Nat.reduceBEq, Nat.reduceAdd, Nat.reduceLeDiff] | with_reducible intro _ | ((with_reducible apply And.intro); omega))
  refine zam (fun i : Nat => ([(0, encL 5 encN l), (1, fv), (7, .int .i64 l.length), (8, .int .i64 i)], [])) 0 (fun i => i ≤ l.length ∧ ∀ j (h : j < l.length), j < i → p l[j] = false) (fun i => l.length - i) 0 ⟨Nat.zero_le _, fun j _ h => by omega⟩ (Ent.keep rfl fin5) ?_
  intro i ⟨hi, hno⟩ wf
  unfold zbD
  (repeat first | simp (disch := try exact dis1) only [evD, Nat.reduceBEq, Nat.reduceAdd, Nat.reduceLeDiff] | with_reducible intro _ | ((with_reducible apply And.intro); omega))
  (refine zap (fun h => ?_) (fun h => ?_)) <;> (try simp only [dcd] at h)
  · have hi' : i < l.length := by omega
    (repeat first | simp (disch := try exact dis1) only [evD, Nat.reduceBEq, Nat.reduceAdd, Nat.reduceLeDiff, zao hi', zbd, zaJ] | with_reducible intro _ | ((with_reducible apply And.intro); omega))
    refine zs4 hp (List.getElem_mem hi') ?_
    (repeat first | simp (disch := try exact dis1) only [evD, Nat.reduceBEq, Nat.reduceAdd, Nat.reduceLeDiff] | with_reducible intro _ | ((with_reducible apply And.intro); omega))
    (refine zap (fun h2 => ?_) (fun h2 => ?_)) <;> (try simp only [dcd] at h2)
    · (repeat first | simp (disch := try exact dis1) only [evD, Nat.reduceBEq, Nat.reduceAdd, Nat.reduceLeDiff, za9] | with_reducible intro _ | ((with_reducible apply And.intro); omega))
      have e : l.findIdx? p = some i := by
        rw [List.findIdx?_eq_some_iff_getElem]
        exact ⟨hi', h2, fun j hj => by rw [hno j (by omega) hj]; simp⟩
      rw [e]
      exact ⟨_, .int _ _ _, rfl⟩
    · (repeat first | simp (disch := try exact dis1) only [evD, Nat.reduceBEq, Nat.reduceAdd, Nat.reduceLeDiff] | with_reducible intro _ | ((with_reducible apply And.intro); omega))
      refine ⟨i + 1, ⟨by omega, fun j hj hji => ?_⟩, by omega, Ent.keep rfl fin5⟩
      by_cases hje : j = i
      · subst hje; simpa using h2
      · exact hno j hj (by omega)
  · unfold zbG
    (repeat first | simp (disch := try exact dis1) only [evD, Nat.reduceBEq, Nat.reduceAdd, Nat.reduceLeDiff, za9] | with_reducible intro _ | ((with_reducible apply And.intro); omega))
    have e : l.findIdx? p = none := by
      rw [List.findIdx?_eq_none_iff]
      intro x hx
      obtain ⟨j, hj, rfl⟩ := List.mem_iff_getElem.1 hx
      exact hno j hj (by omega)
    rw [e]
    exact ⟨_, .int _ _ _, rfl⟩
theorem zz1 {l : List Nd} {p : Nd → Bool} : decide (idxI (l.findIdx? p) ≥ 0) = l.any p := by
  cases h : l.findIdx? p with
  | none =>
    have := List.findIdx?_eq_none_iff.1 h
    rw [decide_eq_false (by simp [idxI])]
    symm
    rw [List.any_eq_false]
    intro x hx
    rw [this x hx]; simp
  | some i =>
    obtain ⟨h1, h2, _⟩ := List.findIdx?_eq_some_iff_getElem.1 h
    rw [decide_eq_true (by simp [idxI])]
    exact (zpI h1 h2).symm
theorem zcI (l : List Nd) (fv : AV) (p : Nd → Bool) (hp : PredN fv l p) : zaj Tryz.prog zaw [encL 5 encN l, fv] (· = .bool (l.any p)) := by
  refine fn_x zc4 rfl ?_
  unfold zbx
  (repeat first | simp (disch := try exact dis1) only [evD, Nat.reduceBEq, Nat.reduceAdd, Nat.reduceLeDiff] | with_reducible intro _ | ((with_reducible apply And.intro); omega))
  refine zae (zaY (D := noR) (zj5 l fv p hp) (.cons (zbp rfl) (.cons (zt6 hp) .nil)) (.inl rfl)) ?_
  (repeat first | simp (disch := try exact dis1) only [evD, Nat.reduceBEq, Nat.reduceAdd, Nat.reduceLeDiff, zby] | with_reducible intro _ | ((with_reducible apply And.intro); omega))
  refine ⟨_, .bool _ _, ?_⟩
  rw [← zz1]
theorem zjJ {H : AH} {f r g n : Nat} {c : List AV} (hg : H.get r 0 = some (.row n [c] g)) (hc : c.all AV.flat0 = true) (hn : c.length = n) : Vw H [] nos allR false (.fn (.func f) [.ptr r 0 g 0 0]) (.fn (.func f) [encP n c]) := by
  refine .fn _ _ _ _ rfl fun i a b h1 h2 => ?_
  match i with
  | 0 => cases h1; cases h2; exact zx3 trivial hg hc hn
  | i + 1 => cases h1
theorem zjU : ∀ (k : Nat) (e : Nd) (b : Bool), zbZ e ≤ k → zaj Tryz.prog zcb [.agg (encN e), .bool b] (· = .bool (!zhb e b)) := by
  intro k
  induction k with
  | zero => intro e b h; obtain ⟨_, _, l⟩ := e; rw [zbZ] at h; omega
  | succ k ih =>
  intro e b hk
  obtain ⟨⟨kd, bl, lb⟩, c, l⟩ := e
  refine fn_x zj6 rfl ?_
  unfold zfJ
  have hB := hBig
  rw [zbZ] at hk
  have hE := zci ⟨kd, bl, lb⟩ c l
  simp only at hE
  rw [hE, zhb]
  simp only
  have hp : ∀ q : Bool, PredN (.fn (.func zbP) [encP 1 [.bool q]]) l (zhb · q) := by
    intro q
    refine ⟨_, _, rfl, by kernel_rfl, rfl, fun s hs => ?_⟩
    have hm := zeo hs
    refine fn_x ziO rfl ?_
    unfold zeR
    (repeat first | simp (disch := try exact dis1) only [evD, Nat.reduceBEq, Nat.reduceAdd, Nat.reduceLeDiff, zbd, zbi, zaJ, encP] | with_reducible intro _ | ((with_reducible apply And.intro); omega))
    refine zae (zah (ih s q (by omega)) flNB) ?_
    (repeat first | simp (disch := try exact dis1) only [evD, Nat.reduceBEq, Nat.reduceAdd, Nat.reduceLeDiff, zeK] | with_reducible intro _ | ((with_reducible apply And.intro); omega))
    exact ⟨_, .bool _ _, rfl⟩
  have stop : (kd = 7 ∨ kd = 8) → b = false → (if (kd = 7 ∨ kd = 8) ∧ b = false then true else zcK l (b || zcj kd)) = true := fun h1 h2 => if_pos ⟨h1, h2⟩
  have go : ¬ ((kd = 7 ∨ kd = 8) ∧ b = false) → (if (kd = 7 ∨ kd = 8) ∧ b = false then true else zcK l (b || zcj kd)) = zcK l (b || zcj kd) := fun h => if_neg h
  have e0 : kd ≠ 4 → kd ≠ 5 → zcj kd = false := fun h4 h5 => by unfold zcj; exact decide_eq_false (by omega)
  have fin : ∀ (q : Bool), zaj Tryz.prog zaw [encL 5 encN l, .fn (.func zbP) [encP 1 [.bool q]]] (· = .bool (zcK l q)) := by
    intro q
    rw [znK]
    exact zcI l _ _ (hp q)
  cases b with
  | true =>
    rw [go (by simp), Bool.true_or]
    have fin1 := fin true
    generalize zcK l true = R at fin1
    by_cases h7 : kd = 7
    · (repeat first | simp (disch := try exact dis1) only [evD, Nat.reduceBEq, Nat.reduceAdd, Nat.reduceLeDiff, fldP, dT, dF, zay] | with_reducible intro _ | ((with_reducible apply And.intro); omega))
      refine zae (zaY (D := allR) fin1 (.cons (zbp rfl) (.cons (zjJ rfl rfl rfl) .nil)) (.inl rfl)) ?_
      (repeat first | simp (disch := try exact dis1) only [evD, Nat.reduceBEq, Nat.reduceAdd, Nat.reduceLeDiff, fldP, dT, dF, zay] | with_reducible intro _ | ((with_reducible apply And.intro); omega))
      exact ⟨_, .bool _ _, rfl⟩
    by_cases h8 : kd = 8
    · (repeat first | simp (disch := try exact dis1) only [evD, Nat.reduceBEq, Nat.reduceAdd, Nat.reduceLeDiff, fldP, dT, dF, zay] | with_reducible intro _ | ((with_reducible apply And.intro); omega))
      refine zae (zaY (D := allR) fin1 (.cons (zbp rfl) (.cons (zjJ rfl rfl rfl) .nil)) (.inl rfl)) ?_
      (repeat first | simp (disch := try exact dis1) only [evD, Nat.reduceBEq, Nat.reduceAdd, Nat.reduceLeDiff, fldP, dT, dF, zay] | with_reducible intro _ | ((with_reducible apply And.intro); omega))
      exact ⟨_, .bool _ _, rfl⟩
    (repeat first | simp (disch := try exact dis1) only [evD, Nat.reduceBEq, Nat.reduceAdd, Nat.reduceLeDiff, fldP, dT, dF, zay] | with_reducible intro _ | ((with_reducible apply And.intro); omega))
    refine zae (zaY (D := allR) fin1 (.cons (zbp rfl) (.cons (zjJ rfl rfl rfl) .nil)) (.inl rfl)) ?_
    (repeat first | simp (disch := try exact dis1) only [evD, Nat.reduceBEq, Nat.reduceAdd, Nat.reduceLeDiff, fldP, dT, dF, zay] | with_reducible intro _ | ((with_reducible apply And.intro); omega))
    exact ⟨_, .bool _ _, rfl⟩
  | false =>
    by_cases h7 : kd = 7
    · rw [stop (.inl h7) rfl]
      (repeat first | simp (disch := try exact dis1) only [evD, Nat.reduceBEq, Nat.reduceAdd, Nat.reduceLeDiff, fldP, dT, dF, zay] | with_reducible intro _ | ((with_reducible apply And.intro); omega))
      exact ⟨_, .bool _ _, rfl⟩
    by_cases h8 : kd = 8
    · rw [stop (.inr h8) rfl]
      (repeat first | simp (disch := try exact dis1) only [evD, Nat.reduceBEq, Nat.reduceAdd, Nat.reduceLeDiff, fldP, dT, dF, zay] | with_reducible intro _ | ((with_reducible apply And.intro); omega))
      exact ⟨_, .bool _ _, rfl⟩
    rw [go (by omega), Bool.false_or]
    have finq := fin (zcj kd)
    generalize zcK l (zcj kd) = R at finq
    have hq : zcj kd = decide (kd = 4 ∨ kd = 5) := rfl
    by_cases h4 : kd = 4
    · rw [hq, decide_eq_true (.inl h4)] at finq
      (repeat first | simp (disch := try exact dis1) only [evD, Nat.reduceBEq, Nat.reduceAdd, Nat.reduceLeDiff, fldP, dT, dF, zay] | with_reducible intro _ | ((with_reducible apply And.intro); omega))
      refine zae (zaY (D := allR) finq (.cons (zbp rfl) (.cons (zjJ rfl rfl rfl) .nil)) (.inl rfl)) ?_
      (repeat first | simp (disch := try exact dis1) only [evD, Nat.reduceBEq, Nat.reduceAdd, Nat.reduceLeDiff, fldP, dT, dF, zay] | with_reducible intro _ | ((with_reducible apply And.intro); omega))
      exact ⟨_, .bool _ _, rfl⟩
    by_cases h5 : kd = 5
    · rw [hq, decide_eq_true (.inr h5)] at finq
      (repeat first | simp (disch := try exact dis1) only [evD, Nat.reduceBEq, Nat.reduceAdd, Nat.reduceLeDiff, fldP, dT, dF, zay] | with_reducible intro _ | ((with_reducible apply And.intro); omega))
      refine zae (zaY (D := allR) finq (.cons (zbp rfl) (.cons (zjJ rfl rfl rfl) .nil)) (.inl rfl)) ?_
      (repeat first | simp (disch := try exact dis1) only [evD, Nat.reduceBEq, Nat.reduceAdd, Nat.reduceLeDiff, fldP, dT, dF, zay] | with_reducible intro _ | ((with_reducible apply And.intro); omega))
      exact ⟨_, .bool _ _, rfl⟩
    rw [e0 h4 h5] at finq
    (repeat first | simp (disch := try exact dis1) only [evD, Nat.reduceBEq, Nat.reduceAdd, Nat.reduceLeDiff, fldP, dT, dF, zay] | with_reducible intro _ | ((with_reducible apply And.intro); omega))
    refine zae (zaY (D := allR) finq (.cons (zbp rfl) (.cons (zjJ rfl rfl rfl) .nil)) (.inl rfl)) ?_
    (repeat first | simp (disch := try exact dis1) only [evD, Nat.reduceBEq, Nat.reduceAdd, Nat.reduceLeDiff, fldP, dT, dF, zay] | with_reducible intro _ | ((with_reducible apply And.intro); omega))
    exact ⟨_, .bool _ _, rfl⟩
def hasI (l : List Int) (t : Int) : Bool := l.any fun x => decide (x = t)
theorem zf7 (l : List Int) (t : Int) : zaj Tryz.prog zdb [zaa l, .int .i64 t] (· = .bool (hasI l t)) := by
  refine fn_x zpe rfl ?_
  unfold zl7 hasI
  have hB := hBig
  generalize hR : (l.any fun x => decide (x = t)) = R
  (repeat first | simp (disch := try exact dis1) only [evD, Nat.reduceBEq, Nat.reduceAdd, Nat.reduceLeDiff, zaa] | with_reducible intro _ | ((with_reducible apply And.intro); omega))
  refine zam (fun i : Nat => ([(0, zaa l), (1, .int .i64 t), (5, .int .i64 i)], [])) 0 (fun i => i ≤ l.length ∧ ((l.drop i).any fun x => decide (x = t)) = R) (fun i => l.length - i) 0 ⟨Nat.zero_le _, hR⟩ (Ent.keep rfl fin5) ?_
  rintro i ⟨hi, hgo⟩ wf
  unfold zhR
  by_cases hl : i < l.length
  · rw [List.drop_eq_getElem_cons hl, List.any_cons] at hgo
    by_cases hx : l[i] = t
    · rw [decide_eq_true hx, Bool.true_or] at hgo
      subst hgo
      (repeat first | simp (disch := try exact dis1) only [evD, Nat.reduceBEq, Nat.reduceAdd, Nat.reduceLeDiff, dT, zaa, zao hl, zhD] | with_reducible intro _ | ((with_reducible apply And.intro); omega))
      exact ⟨_, .bool _ _, rfl⟩
    · rw [decide_eq_false hx, Bool.false_or] at hgo
      (repeat first | simp (disch := try exact dis1) only [evD, Nat.reduceBEq, Nat.reduceAdd, Nat.reduceLeDiff, dT, dF, zaa, zao hl] | with_reducible intro _ | ((with_reducible apply And.intro); omega))
      exact ⟨i + 1, ⟨by omega, hgo⟩, by omega, Ent.keep rfl fin5⟩
  · rw [List.drop_of_length_le (by omega)] at hgo
    replace hgo : R = false := by rw [← hgo]; rfl
    subst hgo
    (repeat first | simp (disch := try exact dis1) only [evD, Nat.reduceBEq, Nat.reduceAdd, Nat.reduceLeDiff, dF, zaa] | with_reducible intro _ | ((with_reducible apply And.intro); omega))
    unfold zif
    (repeat first | simp (disch := try exact dis1) only [evD, Nat.reduceBEq, Nat.reduceAdd, Nat.reduceLeDiff, zhD] | with_reducible intro _ | ((with_reducible apply And.intro); omega))
    exact ⟨_, .bool _ _, rfl⟩
mutual
def zeg : Nd → List Int
  | .mk f _ l => if f.kind = 9 then [f.label] else zcx l
def zcx : List Nd → List Int
  | [] => []
  | x :: l => zeg x ++ zcx l
end
mutual
theorem zmJ : ∀ n : Nd, (zeg n).length ≤ zbZ n
  | .mk f _ l => by
    have := zh1 l
    rw [zeg, zbZ]
    split
    · simp only [List.length_singleton]; omega
    · omega
theorem zh1 : ∀ l : List Nd, (zcx l).length ≤ zbW l
  | [] => by rw [zcx]; simp
  | x :: l => by
    have h1 := zmJ x
    have h2 := zh1 l
    rw [zcx, List.length_append, zbW]
    omega
end
theorem zow : ∀ (k : Nat) (e : Nd), zbZ e ≤ k → k ≤ 1000 → zaj Tryz.prog zet [.agg (encN e)] (· = zaa (zeg e)) := by
  intro k
  induction k with
  | zero => intro e h; obtain ⟨_, _, l⟩ := e; rw [zbZ] at h; omega
  | succ k ih =>
  intro e hk hk2
  obtain ⟨⟨kd, bl, lb⟩, c, l⟩ := e
  refine fn_x zoC rfl ?_
  unfold zks
  have hB := hBig
  rw [zbZ] at hk
  have hlen := zh1 l
  have hE := zci ⟨kd, bl, lb⟩ c l
  simp only at hE
  rw [hE, zeg]
  simp only
  by_cases h9 : kd = 9
  · rw [if_pos h9]
    (repeat first | simp (disch := try exact dis1) only [evD, Nat.reduceBEq, Nat.reduceAdd, Nat.reduceLeDiff, fldP, dT, zhj] | with_reducible intro _ | ((with_reducible apply And.intro); omega))
    exact ⟨_, zcd (l := [lb]) trivial rfl (by simp only [List.length_singleton]; omega), rfl⟩
  rw [if_neg h9]
  generalize hR : zcx l = R at hlen
  (repeat first | simp (disch := try exact dis1) only [evD, Nat.reduceBEq, Nat.reduceAdd, Nat.reduceLeDiff, fldP, dF] | with_reducible intro _ | ((with_reducible apply And.intro); omega))
  refine zam (fun s : Nat × List Int => ([(1, encP 5 [.int .i64 kd, .int .i64 bl, .int .i64 lb, encL 5 encX c, encL 5 encN l]), (3, .own 0 0 0 0 s.2.length), (4, .int .i64 s.1)], [(0, .row 1 (s.2.map cI) 0)])) 1 (fun s => s.1 ≤ l.length ∧ s.2 ++ zcx (l.drop s.1) = R) (fun s => l.length - s.1) (0, []) ⟨Nat.zero_le _, hR⟩ (Ent.tab [(0, 1, 0)] [] rfl (by (try simp only [evWB, Nat.reduceBEq, Nat.reduceAdd, Nat.reduceSub, Nat.reduceLeDiff, Nat.reduceLT]) <;> exact fin2) (by (try simp only [evWB, Nat.reduceBEq, Nat.reduceAdd, Nat.reduceSub, Nat.reduceLeDiff, Nat.reduceLT]) <;> exact fin2)) ?_
  rintro ⟨i, x⟩ ⟨hi, hgo⟩ wf
  simp only at hi hgo
  unfold zht
  by_cases hl : i < l.length
  · have hm := zeo (List.getElem_mem hl)
    rw [List.drop_eq_getElem_cons hl, zcx, ← List.append_assoc] at hgo
    have hlen2 := congrArg List.length hgo
    simp only [List.length_append] at hlen2
    (repeat first | simp (disch := try exact dis1) only [evD, Nat.reduceBEq, Nat.reduceAdd, Nat.reduceLeDiff, fldP, dT, zao hl, zbd, zaJ] | with_reducible intro _ | ((with_reducible apply And.intro); omega))
    refine zae (zah (ih l[i] (by omega) (by omega)) (flN rfl)) ?_
    (repeat first | simp (disch := try exact dis1) only [evD, Nat.reduceBEq, Nat.reduceAdd, Nat.reduceLeDiff, zaa, zjO] | with_reducible intro _ | ((with_reducible apply And.intro); omega))
    exact ⟨(i + 1, x ++ zeg l[i]), ⟨by simp only; omega, hgo⟩, by simp only; omega, (Ent.tab [(0, 0, 1)] [] rfl (by (try simp only [evWB, Nat.reduceBEq, Nat.reduceAdd, Nat.reduceSub, Nat.reduceLeDiff, Nat.reduceLT, List.length_append, List.map_append]) <;> exact fin1) (by (try simp only [evWB, Nat.reduceBEq, Nat.reduceAdd, Nat.reduceSub, Nat.reduceLeDiff, Nat.reduceLT, List.length_append, List.map_append]) <;> exact fin1))⟩
  · rw [List.drop_of_length_le (by omega), zcx, List.append_nil] at hgo
    subst hgo
    (repeat first | simp (disch := try exact dis1) only [evD, Nat.reduceBEq, Nat.reduceAdd, Nat.reduceLeDiff, fldP, dF] | with_reducible intro _ | ((with_reducible apply And.intro); omega))
    unfold zhz
    (repeat first | simp (disch := try exact dis1) only [evD, Nat.reduceBEq, Nat.reduceAdd, Nat.reduceLeDiff, zhj] | with_reducible intro _ | ((with_reducible apply And.intro); omega))
    exact ⟨_, zcd (l := x) trivial rfl (by omega), rfl⟩
theorem zkQ (l : List Int) (t : Int) : zaj Tryz.prog zcg [zaa l, .int .i64 t] (fun a => ∃ n : Int, a = .int .i64 n ∧ decide (n ≥ 0) = hasI l t) := by
  refine fn_x zhW rfl ?_
  unfold zed hasI
  have hB := hBig
  generalize hR : (l.any fun x => decide (x = t)) = R
  (repeat first | simp (disch := try exact dis1) only [evD, Nat.reduceBEq, Nat.reduceAdd, Nat.reduceLeDiff, zaa] | with_reducible intro _ | ((with_reducible apply And.intro); omega))
  refine zam (fun i : Nat => ([(0, zaa l), (1, .int .i64 t), (7, .int .i64 l.length), (8, .int .i64 i)], [])) 0 (fun i => i ≤ l.length ∧ ((l.drop i).any fun x => decide (x = t)) = R) (fun i => l.length - i) 0 ⟨Nat.zero_le _, hR⟩ (Ent.keep rfl fin5) ?_
  rintro i ⟨hi, hgo⟩ wf
  unfold zds
  by_cases hl : i < l.length
  · rw [List.drop_eq_getElem_cons hl, List.any_cons] at hgo
    by_cases hx : l[i] = t
    · rw [decide_eq_true hx, Bool.true_or] at hgo
      subst hgo
      have hx2 : decide (t = l[i]) = true := decide_eq_true hx.symm
      (repeat first | simp (disch := try exact dis1) only [evD, Nat.reduceBEq, Nat.reduceAdd, Nat.reduceLeDiff, dT, hx2, zaa, zao hl, zcE] | with_reducible intro _ | ((with_reducible apply And.intro); omega))
      exact ⟨_, .int _ _ _, i, rfl, decide_eq_true (by omega)⟩
    · rw [decide_eq_false hx, Bool.false_or] at hgo
      have hx2 : decide (t = l[i]) = false := decide_eq_false (fun h => hx h.symm)
      (repeat first | simp (disch := try exact dis1) only [evD, Nat.reduceBEq, Nat.reduceAdd, Nat.reduceLeDiff, dT, hx2, zaa, zao hl] | with_reducible intro _ | ((with_reducible apply And.intro); omega))
      exact ⟨i + 1, ⟨by omega, hgo⟩, by omega, Ent.keep rfl fin5⟩
  · rw [List.drop_of_length_le (by omega)] at hgo
    replace hgo : R = false := by rw [← hgo]; rfl
    subst hgo
    (repeat first | simp (disch := try exact dis1) only [evD, Nat.reduceBEq, Nat.reduceAdd, Nat.reduceLeDiff, dF, zaa] | with_reducible intro _ | ((with_reducible apply And.intro); omega))
    unfold zdt
    (repeat first | simp (disch := try exact dis1) only [evD, Nat.reduceBEq, Nat.reduceAdd, Nat.reduceLeDiff, zcE] | with_reducible intro _ | ((with_reducible apply And.intro); omega))
    exact ⟨_, .int _ _ _, -1, rfl, rfl⟩
theorem ziQ (l : List Int) (t : Int) : zaj Tryz.prog zbJ [zaa l, .int .i64 t] (· = .bool (hasI l t)) := by
  refine fn_x zgJ rfl ?_
  unfold zdu
  have hB := hBig
  (repeat first | simp (disch := try exact dis1) only [evD, Nat.reduceBEq, Nat.reduceAdd, Nat.reduceLeDiff] | with_reducible intro _ | ((with_reducible apply And.intro); omega))
  refine zxt (D := noR) (zkQ l t) (.cons (zbp rfl) (.cons (zbp rfl) .nil)) (fun a ⟨n, h, _⟩ => .inl (by rw [h]; rfl)) ?_
  rintro _ ⟨n, rfl, hn⟩
  (repeat first | simp (disch := try exact dis1) only [evD, Nat.reduceBEq, Nat.reduceAdd, Nat.reduceLeDiff, hn, zdv] | with_reducible intro _ | ((with_reducible apply And.intro); omega))
  exact ⟨_, .bool _ _, rfl⟩
def wOk (l : List Bl) (b : Int) : Bool := if b < 0 then false else match l[b.toNat]? with
  | none => false
  | some x => decide (x.stmts.length = 1)
mutual
def zkP (g : List Bl) : Nd → Bool
  | .mk f _ l => if f.kind = 5 ∧ wOk g f.block = false then false else zem g l
def zem (g : List Bl) : List Nd → Bool
  | [] => true
  | x :: l => zkP g x && zem g l
end
theorem zpB (ad : Int) (gl : List Bl) : ∀ (k : Nat) (e : Nd), zbZ e ≤ k → zaj Tryz.prog zfa [.agg (encN e), .agg [.int .u32 ad, encL 2 Bl.cells gl]] (· = .bool (zkP gl e)) := by
  intro k
  induction k with
  | zero => intro e h; obtain ⟨_, _, l⟩ := e; rw [zbZ] at h; omega
  | succ k ih =>
  intro e hk
  obtain ⟨⟨kd, bl, lb⟩, c, l⟩ := e
  refine fn_x zp6 rfl ?_
  unfold zlr
  have hB := hBig
  rw [zbZ] at hk
  have hE := zci ⟨kd, bl, lb⟩ c l
  simp only at hE
  rw [hE, zkP]
  simp only
  have body : ∀ K : Kn, K = [(2, encP 5 [.int .i64 kd, .int .i64 bl, .int .i64 lb, encL 5 encX c, encL 5 encN l]), (3, encP 2 [.int .u32 ad, encL 2 Bl.cells gl]), (5, .int .i64 0)] → zs8 Tryz.prog 0 zfx (zgW 0 (seqQ Tryz.prog 0 zfv (retK zcF fun v H' x => ∃ a, Frz H' v a ∧ a = .bool (zem gl l)))) K [] 0 := by
    rintro _ rfl
    generalize hR : zem gl l = R
    refine zam (fun i : Nat => ([(2, encP 5 [.int .i64 kd, .int .i64 bl, .int .i64 lb, encL 5 encX c, encL 5 encN l]), (3, encP 2 [.int .u32 ad, encL 2 Bl.cells gl]), (5, .int .i64 i)], [])) 0 (fun i => i ≤ l.length ∧ zem gl (l.drop i) = R) (fun i => l.length - i) 0 ⟨Nat.zero_le _, hR⟩ (Ent.keep rfl fin5) ?_
    rintro i ⟨hi, hgo⟩ wf
    unfold zfx
    by_cases hl : i < l.length
    case neg =>
      rw [List.drop_of_length_le (by omega), zem] at hgo
      subst hgo
      (repeat first | simp (disch := try exact dis1) only [evD, Nat.reduceBEq, Nat.reduceAdd, Nat.reduceLeDiff, fldP, dF] | with_reducible intro _ | ((with_reducible apply And.intro); omega))
      unfold zfv
      (repeat first | simp (disch := try exact dis1) only [evD, Nat.reduceBEq, Nat.reduceAdd, Nat.reduceLeDiff, zcF] | with_reducible intro _ | ((with_reducible apply And.intro); omega))
      exact ⟨_, .bool _ _, rfl⟩
    have hm := zeo (List.getElem_mem hl)
    rw [List.drop_eq_getElem_cons hl, zem] at hgo
    (repeat first | simp (disch := try exact dis1) only [evD, Nat.reduceBEq, Nat.reduceAdd, Nat.reduceLeDiff, fldP, dT, zao hl, zbd, zaJ, zgN, tab, List.getD_cons_zero, List.getD_cons_succ] | with_reducible intro _ | ((with_reducible apply And.intro); omega))
    refine za7 (zah (ih l[i] (by omega)) (flN rfl)) ?_
    cases hq : zkP gl l[i] with
    | false => rw [hq, Bool.false_and] at hgo; subst hgo; (repeat first | simp (disch := try exact dis1) only [evD, Nat.reduceBEq, Nat.reduceAdd, Nat.reduceLeDiff, zcF] | with_reducible intro _ | ((with_reducible apply And.intro); omega)); exact ⟨_, .bool _ _, rfl⟩
    | true => rw [hq, Bool.true_and] at hgo; (repeat first | simp (disch := try exact dis1) only [evD, Nat.reduceBEq, Nat.reduceAdd, Nat.reduceLeDiff] | with_reducible intro _ | ((with_reducible apply And.intro); omega)); exact ⟨i + 1, ⟨by omega, hgo⟩, by omega, Ent.keep rfl fin5⟩
  by_cases h5 : kd = 5
  case neg =>
    rw [if_neg (fun h => h5 h.1)]
    (repeat first | simp (disch := try exact dis1) only [evD, Nat.reduceBEq, Nat.reduceAdd, Nat.reduceLeDiff, fldP, dF] | with_reducible intro _ | ((with_reducible apply And.intro); omega))
    exact body _ rfl
  by_cases b0 : bl < 0
  · rw [if_pos ⟨h5, by unfold wOk; rw [if_pos b0]⟩]
    (repeat first | simp (disch := try exact dis1) only [evD, Nat.reduceBEq, Nat.reduceAdd, Nat.reduceLeDiff, fldP, dT, zcF] | with_reducible intro _ | ((with_reducible apply And.intro); omega))
    exact ⟨_, .bool _ _, rfl⟩
  by_cases b1 : bl < gl.length
  case neg =>
    rw [if_pos ⟨h5, by unfold wOk; rw [if_neg b0, List.getElem?_eq_none (by omega)]⟩]
    (repeat first | simp (disch := try exact dis1) only [evD, Nat.reduceBEq, Nat.reduceAdd, Nat.reduceLeDiff, fldP, dT, dF, zcF] | with_reducible intro _ | ((with_reducible apply And.intro); omega))
    exact ⟨_, .bool _ _, rfl⟩
  have hb : bl.toNat < gl.length := by omega
  have hg : (gl.map Bl.cells).getD bl.toNat [] = [.int .u32 gl[bl.toNat].addr, encL 8 St.cells gl[bl.toNat].stmts] := zao hb
  by_cases s1 : gl[bl.toNat].stmts.length = 1
  · rw [if_neg (fun h => by have := h.2; unfold wOk at this; rw [if_neg b0, List.getElem?_eq_getElem hb] at this; simp [s1] at this)]
    (repeat first | simp (disch := try exact dis1) only [evD, Nat.reduceBEq, Nat.reduceAdd, Nat.reduceLeDiff, fldP, dT, dF, hg] | with_reducible intro _ | ((with_reducible apply And.intro); omega))
    exact body _ rfl
  · rw [if_pos ⟨h5, by unfold wOk; rw [if_neg b0, List.getElem?_eq_getElem hb]; exact decide_eq_false s1⟩]
    (repeat first | simp (disch := try exact dis1) only [evD, Nat.reduceBEq, Nat.reduceAdd, Nat.reduceLeDiff, fldP, dT, dF, hg, zcF] | with_reducible intro _ | ((with_reducible apply And.intro); omega))
    exact ⟨_, .bool _ _, rfl⟩
def zai (kd bl lb : Int) (cn ln : Nat) : Prop :=
  1 ≤ kd ∧ kd ≤ 12 ∧ ((kd = 3 ∨ kd = 5 ∨ kd = 6) → cn = 1) ∧ (kd = 3 ∨ kd = 5 ∨ kd = 6 ∨ cn = 0) ∧
  (kd = 1 ∨ (kd = 3 ∧ ln = 2) ∨ ((kd = 4 ∨ kd = 5) ∧ ln = 1) ∨ (kd = 6 ∧ 1 ≤ ln ∧ ln ≤ 64) ∨ ((kd = 2 ∨ 7 ≤ kd) ∧ ln = 0)) ∧
  (kd = 2 ∨ kd = 5 ∨ bl = 0) ∧ (kd = 9 ∨ kd = 10 ∨ lb = 0) ∧ 0 ≤ lb
instance (kd bl lb : Int) (cn ln : Nat) : Decidable (zai kd bl lb cn ln) := by unfold zai; infer_instance
def zaZ (kd bl lb : Int) (c : List Ex) (ln : Nat) : Bool := decide (zai kd bl lb c.length ln) && c.all fun e => decide (zfQ e = 0)
theorem noF {kd bl lb : Int} {c : List Ex} {n : Nat} (h : ¬ zai kd bl lb c.length n) : false = zaZ kd bl lb c n := by unfold zaZ; rw [dF h]; rfl
theorem yesF {kd bl lb : Int} {n : Nat} (h : zai kd bl lb 0 n) : zaZ kd bl lb [] n = true := by unfold zaZ; rw [dT (show zai kd bl lb ([] : List Ex).length n from h)]; rfl
theorem yesX {kd bl lb : Int} {e : Ex} {n : Nat} (h : zai kd bl lb 1 n) : zaZ kd bl lb [e] n = decide (zfQ e = 0) := by unfold zaZ; rw [dT (show zai kd bl lb [e].length n from h)]; simp
theorem noX {kd bl lb : Int} {e : Ex} {n : Nat} (h : ¬ zfQ e = 0) : zaZ kd bl lb [e] n = false := by unfold zaZ; simp [h]
theorem hgX {e : Ex} : [encX e].getD (Int.toNat 0) [] = encX e := rfl
theorem zy4 {kd bl lb : Int} {c : List Ex} {l : List Nd} (h : kd = 7 ∨ kd = 8 ∨ kd = 11 ∨ kd = 12) : zaj Tryz.prog zaA [.agg [.int .i64 kd, .int .i64 bl, .int .i64 lb, encL 5 encX c, encL 5 encN l]] (· = .bool (zaZ kd bl lb c l.length)) := by
  refine fn_x zaI rfl ?_
  unfold zaG
  have hB := hBig
  (repeat first | simp (disch := try exact dis1) only [evD, Nat.reduceBEq, Nat.reduceAdd, Nat.reduceLeDiff, dT, dF, fldP, zac] | with_reducible intro _ | ((with_reducible apply And.intro); omega))
  by_cases q0 : c.length = 0 <;> (repeat first | simp (disch := try exact dis1) only [evD, Nat.reduceBEq, Nat.reduceAdd, Nat.reduceLeDiff, dT, dF, fldP, zac] | with_reducible intro _ | ((with_reducible apply And.intro); omega))
  case neg => exact ⟨_, .bool _ _, congrArg AV.bool (noF (by unfold zai; omega))⟩
  by_cases q1 : l.length = 0 <;> (repeat first | simp (disch := try exact dis1) only [evD, Nat.reduceBEq, Nat.reduceAdd, Nat.reduceLeDiff, dT, dF, fldP, zac] | with_reducible intro _ | ((with_reducible apply And.intro); omega))
  case neg => exact ⟨_, .bool _ _, congrArg AV.bool (noF (by unfold zai; omega))⟩
  by_cases q2 : bl = 0 <;> (repeat first | simp (disch := try exact dis1) only [evD, Nat.reduceBEq, Nat.reduceAdd, Nat.reduceLeDiff, dT, dF, fldP, zac] | with_reducible intro _ | ((with_reducible apply And.intro); omega))
  case neg => exact ⟨_, .bool _ _, congrArg AV.bool (noF (by unfold zai; omega))⟩
  by_cases q3 : lb = 0 <;> (repeat first | simp (disch := try exact dis1) only [evD, Nat.reduceBEq, Nat.reduceAdd, Nat.reduceLeDiff, dT, dF, fldP, zac] | with_reducible intro _ | ((with_reducible apply And.intro); omega))
  case neg => exact ⟨_, .bool _ _, congrArg AV.bool (noF (by unfold zai; omega))⟩
  obtain rfl : c = [] := List.eq_nil_of_length_eq_zero q0
  exact ⟨_, .bool _ _, congrArg AV.bool (yesF (by unfold zai; omega)).symm⟩
theorem zyN {kd bl lb : Int} {c : List Ex} {l : List Nd} (h : kd = 2) : zaj Tryz.prog zaA [.agg [.int .i64 kd, .int .i64 bl, .int .i64 lb, encL 5 encX c, encL 5 encN l]] (· = .bool (zaZ kd bl lb c l.length)) := by
  refine fn_x zaI rfl ?_
  unfold zaG
  have hB := hBig
  (repeat first | simp (disch := try exact dis1) only [evD, Nat.reduceBEq, Nat.reduceAdd, Nat.reduceLeDiff, dT, dF, fldP, zac] | with_reducible intro _ | ((with_reducible apply And.intro); omega))
  by_cases q0 : c.length = 0 <;> (repeat first | simp (disch := try exact dis1) only [evD, Nat.reduceBEq, Nat.reduceAdd, Nat.reduceLeDiff, dT, dF, fldP, zac] | with_reducible intro _ | ((with_reducible apply And.intro); omega))
  case neg => exact ⟨_, .bool _ _, congrArg AV.bool (noF (by unfold zai; omega))⟩
  by_cases q1 : l.length = 0 <;> (repeat first | simp (disch := try exact dis1) only [evD, Nat.reduceBEq, Nat.reduceAdd, Nat.reduceLeDiff, dT, dF, fldP, zac] | with_reducible intro _ | ((with_reducible apply And.intro); omega))
  case neg => exact ⟨_, .bool _ _, congrArg AV.bool (noF (by unfold zai; omega))⟩
  by_cases q2 : lb = 0 <;> (repeat first | simp (disch := try exact dis1) only [evD, Nat.reduceBEq, Nat.reduceAdd, Nat.reduceLeDiff, dT, dF, fldP, zac] | with_reducible intro _ | ((with_reducible apply And.intro); omega))
  case neg => exact ⟨_, .bool _ _, congrArg AV.bool (noF (by unfold zai; omega))⟩
  obtain rfl : c = [] := List.eq_nil_of_length_eq_zero q0
  exact ⟨_, .bool _ _, congrArg AV.bool (yesF (by unfold zai; omega)).symm⟩
theorem zyj {kd bl lb : Int} {c : List Ex} {l : List Nd} (h : kd = 9) : zaj Tryz.prog zaA [.agg [.int .i64 kd, .int .i64 bl, .int .i64 lb, encL 5 encX c, encL 5 encN l]] (· = .bool (zaZ kd bl lb c l.length)) := by
  refine fn_x zaI rfl ?_
  unfold zaG
  have hB := hBig
  (repeat first | simp (disch := try exact dis1) only [evD, Nat.reduceBEq, Nat.reduceAdd, Nat.reduceLeDiff, dT, dF, fldP, zac] | with_reducible intro _ | ((with_reducible apply And.intro); omega))
  by_cases q0 : c.length = 0 <;> (repeat first | simp (disch := try exact dis1) only [evD, Nat.reduceBEq, Nat.reduceAdd, Nat.reduceLeDiff, dT, dF, fldP, zac] | with_reducible intro _ | ((with_reducible apply And.intro); omega))
  case neg => exact ⟨_, .bool _ _, congrArg AV.bool (noF (by unfold zai; omega))⟩
  by_cases q1 : l.length = 0 <;> (repeat first | simp (disch := try exact dis1) only [evD, Nat.reduceBEq, Nat.reduceAdd, Nat.reduceLeDiff, dT, dF, fldP, zac] | with_reducible intro _ | ((with_reducible apply And.intro); omega))
  case neg => exact ⟨_, .bool _ _, congrArg AV.bool (noF (by unfold zai; omega))⟩
  by_cases q2 : bl = 0 <;> (repeat first | simp (disch := try exact dis1) only [evD, Nat.reduceBEq, Nat.reduceAdd, Nat.reduceLeDiff, dT, dF, fldP, zac] | with_reducible intro _ | ((with_reducible apply And.intro); omega))
  case neg => exact ⟨_, .bool _ _, congrArg AV.bool (noF (by unfold zai; omega))⟩
  by_cases q3 : 0 ≤ lb <;> (repeat first | simp (disch := try exact dis1) only [evD, Nat.reduceBEq, Nat.reduceAdd, Nat.reduceLeDiff, dT, dF, fldP, zac] | with_reducible intro _ | ((with_reducible apply And.intro); omega))
  case neg => exact ⟨_, .bool _ _, congrArg AV.bool (noF (by unfold zai; omega))⟩
  obtain rfl : c = [] := List.eq_nil_of_length_eq_zero q0
  exact ⟨_, .bool _ _, congrArg AV.bool (yesF (by unfold zai; omega)).symm⟩
theorem zxm {kd bl lb : Int} {c : List Ex} {l : List Nd} (h : kd = 10) : zaj Tryz.prog zaA [.agg [.int .i64 kd, .int .i64 bl, .int .i64 lb, encL 5 encX c, encL 5 encN l]] (· = .bool (zaZ kd bl lb c l.length)) := by
  refine fn_x zaI rfl ?_
  unfold zaG
  have hB := hBig
  (repeat first | simp (disch := try exact dis1) only [evD, Nat.reduceBEq, Nat.reduceAdd, Nat.reduceLeDiff, dT, dF, fldP, zac] | with_reducible intro _ | ((with_reducible apply And.intro); omega))
  by_cases q0 : c.length = 0 <;> (repeat first | simp (disch := try exact dis1) only [evD, Nat.reduceBEq, Nat.reduceAdd, Nat.reduceLeDiff, dT, dF, fldP, zac] | with_reducible intro _ | ((with_reducible apply And.intro); omega))
  case neg => exact ⟨_, .bool _ _, congrArg AV.bool (noF (by unfold zai; omega))⟩
  by_cases q1 : l.length = 0 <;> (repeat first | simp (disch := try exact dis1) only [evD, Nat.reduceBEq, Nat.reduceAdd, Nat.reduceLeDiff, dT, dF, fldP, zac] | with_reducible intro _ | ((with_reducible apply And.intro); omega))
  case neg => exact ⟨_, .bool _ _, congrArg AV.bool (noF (by unfold zai; omega))⟩
  by_cases q2 : bl = 0 <;> (repeat first | simp (disch := try exact dis1) only [evD, Nat.reduceBEq, Nat.reduceAdd, Nat.reduceLeDiff, dT, dF, fldP, zac] | with_reducible intro _ | ((with_reducible apply And.intro); omega))
  case neg => exact ⟨_, .bool _ _, congrArg AV.bool (noF (by unfold zai; omega))⟩
  by_cases q3 : 0 ≤ lb <;> (repeat first | simp (disch := try exact dis1) only [evD, Nat.reduceBEq, Nat.reduceAdd, Nat.reduceLeDiff, dT, dF, fldP, zac] | with_reducible intro _ | ((with_reducible apply And.intro); omega))
  case neg => exact ⟨_, .bool _ _, congrArg AV.bool (noF (by unfold zai; omega))⟩
  obtain rfl : c = [] := List.eq_nil_of_length_eq_zero q0
  exact ⟨_, .bool _ _, congrArg AV.bool (yesF (by unfold zai; omega)).symm⟩
theorem zyA {kd bl lb : Int} {c : List Ex} {l : List Nd} (h : kd = 1) : zaj Tryz.prog zaA [.agg [.int .i64 kd, .int .i64 bl, .int .i64 lb, encL 5 encX c, encL 5 encN l]] (· = .bool (zaZ kd bl lb c l.length)) := by
  refine fn_x zaI rfl ?_
  unfold zaG
  have hB := hBig
  (repeat first | simp (disch := try exact dis1) only [evD, Nat.reduceBEq, Nat.reduceAdd, Nat.reduceLeDiff, dT, dF, fldP, zac] | with_reducible intro _ | ((with_reducible apply And.intro); omega))
  by_cases q0 : c.length = 0 <;> (repeat first | simp (disch := try exact dis1) only [evD, Nat.reduceBEq, Nat.reduceAdd, Nat.reduceLeDiff, dT, dF, fldP, zac] | with_reducible intro _ | ((with_reducible apply And.intro); omega))
  case neg => exact ⟨_, .bool _ _, congrArg AV.bool (noF (by unfold zai; omega))⟩
  by_cases q1 : bl = 0 <;> (repeat first | simp (disch := try exact dis1) only [evD, Nat.reduceBEq, Nat.reduceAdd, Nat.reduceLeDiff, dT, dF, fldP, zac] | with_reducible intro _ | ((with_reducible apply And.intro); omega))
  case neg => exact ⟨_, .bool _ _, congrArg AV.bool (noF (by unfold zai; omega))⟩
  by_cases q2 : lb = 0 <;> (repeat first | simp (disch := try exact dis1) only [evD, Nat.reduceBEq, Nat.reduceAdd, Nat.reduceLeDiff, dT, dF, fldP, zac] | with_reducible intro _ | ((with_reducible apply And.intro); omega))
  case neg => exact ⟨_, .bool _ _, congrArg AV.bool (noF (by unfold zai; omega))⟩
  obtain rfl : c = [] := List.eq_nil_of_length_eq_zero q0
  exact ⟨_, .bool _ _, congrArg AV.bool (yesF (by unfold zai; omega)).symm⟩
theorem zzl {kd bl lb : Int} {c : List Ex} {l : List Nd} (h : kd = 4) : zaj Tryz.prog zaA [.agg [.int .i64 kd, .int .i64 bl, .int .i64 lb, encL 5 encX c, encL 5 encN l]] (· = .bool (zaZ kd bl lb c l.length)) := by
  refine fn_x zaI rfl ?_
  unfold zaG
  have hB := hBig
  (repeat first | simp (disch := try exact dis1) only [evD, Nat.reduceBEq, Nat.reduceAdd, Nat.reduceLeDiff, dT, dF, fldP, zac] | with_reducible intro _ | ((with_reducible apply And.intro); omega))
  by_cases q0 : c.length = 0 <;> (repeat first | simp (disch := try exact dis1) only [evD, Nat.reduceBEq, Nat.reduceAdd, Nat.reduceLeDiff, dT, dF, fldP, zac] | with_reducible intro _ | ((with_reducible apply And.intro); omega))
  case neg => exact ⟨_, .bool _ _, congrArg AV.bool (noF (by unfold zai; omega))⟩
  by_cases q1 : l.length = 1 <;> (repeat first | simp (disch := try exact dis1) only [evD, Nat.reduceBEq, Nat.reduceAdd, Nat.reduceLeDiff, dT, dF, fldP, zac] | with_reducible intro _ | ((with_reducible apply And.intro); omega))
  case neg => exact ⟨_, .bool _ _, congrArg AV.bool (noF (by unfold zai; omega))⟩
  by_cases q2 : bl = 0 <;> (repeat first | simp (disch := try exact dis1) only [evD, Nat.reduceBEq, Nat.reduceAdd, Nat.reduceLeDiff, dT, dF, fldP, zac] | with_reducible intro _ | ((with_reducible apply And.intro); omega))
  case neg => exact ⟨_, .bool _ _, congrArg AV.bool (noF (by unfold zai; omega))⟩
  by_cases q3 : lb = 0 <;> (repeat first | simp (disch := try exact dis1) only [evD, Nat.reduceBEq, Nat.reduceAdd, Nat.reduceLeDiff, dT, dF, fldP, zac] | with_reducible intro _ | ((with_reducible apply And.intro); omega))
  case neg => exact ⟨_, .bool _ _, congrArg AV.bool (noF (by unfold zai; omega))⟩
  obtain rfl : c = [] := List.eq_nil_of_length_eq_zero q0
  exact ⟨_, .bool _ _, congrArg AV.bool (yesF (by unfold zai; omega)).symm⟩
theorem zyM {kd bl lb : Int} {c : List Ex} {l : List Nd} (h : kd = 3) : zaj Tryz.prog zaA [.agg [.int .i64 kd, .int .i64 bl, .int .i64 lb, encL 5 encX c, encL 5 encN l]] (· = .bool (zaZ kd bl lb c l.length)) := by
  refine fn_x zaI rfl ?_
  unfold zaG
  have hB := hBig
  (repeat first | simp (disch := try exact dis1) only [evD, Nat.reduceBEq, Nat.reduceAdd, Nat.reduceLeDiff, dT, dF, fldP, zac] | with_reducible intro _ | ((with_reducible apply And.intro); omega))
  by_cases q0 : c.length = 1
  case neg =>
    (repeat first | simp (disch := try exact dis1) only [evD, Nat.reduceBEq, Nat.reduceAdd, Nat.reduceLeDiff, dT, dF, fldP, zac] | with_reducible intro _ | ((with_reducible apply And.intro); omega))
    exact ⟨_, .bool _ _, congrArg AV.bool (noF (by unfold zai; omega))⟩
  obtain ⟨e, rfl⟩ : ∃ e, c = [e] := List.length_eq_one_iff.1 q0
  (repeat first | simp (disch := try exact dis1) only [evD, Nat.reduceBEq, Nat.reduceAdd, Nat.reduceLeDiff, dT, dF, fldP, zac] | with_reducible intro _ | ((with_reducible apply And.intro); omega))
  by_cases q1 : l.length = 2 <;> (repeat first | simp (disch := try exact dis1) only [evD, Nat.reduceBEq, Nat.reduceAdd, Nat.reduceLeDiff, dT, dF, fldP, zac] | with_reducible intro _ | ((with_reducible apply And.intro); omega))
  case neg => exact ⟨_, .bool _ _, congrArg AV.bool (noF (by unfold zai; omega))⟩
  by_cases q2 : bl = 0 <;> (repeat first | simp (disch := try exact dis1) only [evD, Nat.reduceBEq, Nat.reduceAdd, Nat.reduceLeDiff, dT, dF, fldP, zac] | with_reducible intro _ | ((with_reducible apply And.intro); omega))
  case neg => exact ⟨_, .bool _ _, congrArg AV.bool (noF (by unfold zai; omega))⟩
  by_cases q3 : lb = 0 <;> (repeat first | simp (disch := try exact dis1) only [evD, Nat.reduceBEq, Nat.reduceAdd, Nat.reduceLeDiff, dT, dF, fldP, zac] | with_reducible intro _ | ((with_reducible apply And.intro); omega))
  case neg => exact ⟨_, .bool _ _, congrArg AV.bool (noF (by unfold zai; omega))⟩
  (repeat first | simp (disch := try exact dis1) only [evD, Nat.reduceBEq, Nat.reduceAdd, Nat.reduceLeDiff, hgX, zbS, zbh, zac] | with_reducible intro _ | ((with_reducible apply And.intro); omega))
  refine zae (zah (zeC e) (flX rfl)) ?_
  (repeat first | simp (disch := try exact dis1) only [evD, Nat.reduceBEq, Nat.reduceAdd, Nat.reduceLeDiff, dT, dF, fldP, zac] | with_reducible intro _ | ((with_reducible apply And.intro); omega))
  exact ⟨_, .bool _ _, congrArg AV.bool (yesX (by unfold zai; omega)).symm⟩
theorem zzc {kd bl lb : Int} {c : List Ex} {l : List Nd} (h : kd = 5) : zaj Tryz.prog zaA [.agg [.int .i64 kd, .int .i64 bl, .int .i64 lb, encL 5 encX c, encL 5 encN l]] (· = .bool (zaZ kd bl lb c l.length)) := by
  refine fn_x zaI rfl ?_
  unfold zaG
  have hB := hBig
  (repeat first | simp (disch := try exact dis1) only [evD, Nat.reduceBEq, Nat.reduceAdd, Nat.reduceLeDiff, dT, dF, fldP, zac] | with_reducible intro _ | ((with_reducible apply And.intro); omega))
  by_cases q0 : c.length = 1
  case neg =>
    (repeat first | simp (disch := try exact dis1) only [evD, Nat.reduceBEq, Nat.reduceAdd, Nat.reduceLeDiff, dT, dF, fldP, zac] | with_reducible intro _ | ((with_reducible apply And.intro); omega))
    exact ⟨_, .bool _ _, congrArg AV.bool (noF (by unfold zai; omega))⟩
  obtain ⟨e, rfl⟩ : ∃ e, c = [e] := List.length_eq_one_iff.1 q0
  (repeat first | simp (disch := try exact dis1) only [evD, Nat.reduceBEq, Nat.reduceAdd, Nat.reduceLeDiff, dT, dF, fldP, zac] | with_reducible intro _ | ((with_reducible apply And.intro); omega))
  by_cases q1 : l.length = 1 <;> (repeat first | simp (disch := try exact dis1) only [evD, Nat.reduceBEq, Nat.reduceAdd, Nat.reduceLeDiff, dT, dF, fldP, zac] | with_reducible intro _ | ((with_reducible apply And.intro); omega))
  case neg => exact ⟨_, .bool _ _, congrArg AV.bool (noF (by unfold zai; omega))⟩
  by_cases q2 : lb = 0 <;> (repeat first | simp (disch := try exact dis1) only [evD, Nat.reduceBEq, Nat.reduceAdd, Nat.reduceLeDiff, dT, dF, fldP, zac] | with_reducible intro _ | ((with_reducible apply And.intro); omega))
  case neg => exact ⟨_, .bool _ _, congrArg AV.bool (noF (by unfold zai; omega))⟩
  (repeat first | simp (disch := try exact dis1) only [evD, Nat.reduceBEq, Nat.reduceAdd, Nat.reduceLeDiff, hgX, zbS, zbh, zac] | with_reducible intro _ | ((with_reducible apply And.intro); omega))
  refine zae (zah (zeC e) (flX rfl)) ?_
  (repeat first | simp (disch := try exact dis1) only [evD, Nat.reduceBEq, Nat.reduceAdd, Nat.reduceLeDiff, dT, dF, fldP, zac] | with_reducible intro _ | ((with_reducible apply And.intro); omega))
  exact ⟨_, .bool _ _, congrArg AV.bool (yesX (by unfold zai; omega)).symm⟩
theorem zyc {kd bl lb : Int} {c : List Ex} {l : List Nd} (h : kd = 6) : zaj Tryz.prog zaA [.agg [.int .i64 kd, .int .i64 bl, .int .i64 lb, encL 5 encX c, encL 5 encN l]] (· = .bool (zaZ kd bl lb c l.length)) := by
  refine fn_x zaI rfl ?_
  unfold zaG
  have hB := hBig
  (repeat first | simp (disch := try exact dis1) only [evD, Nat.reduceBEq, Nat.reduceAdd, Nat.reduceLeDiff, dT, dF, fldP, zac] | with_reducible intro _ | ((with_reducible apply And.intro); omega))
  by_cases q0 : c.length = 1
  case neg =>
    (repeat first | simp (disch := try exact dis1) only [evD, Nat.reduceBEq, Nat.reduceAdd, Nat.reduceLeDiff, dT, dF, fldP, zac] | with_reducible intro _ | ((with_reducible apply And.intro); omega))
    exact ⟨_, .bool _ _, congrArg AV.bool (noF (by unfold zai; omega))⟩
  obtain ⟨e, rfl⟩ : ∃ e, c = [e] := List.length_eq_one_iff.1 q0
  (repeat first | simp (disch := try exact dis1) only [evD, Nat.reduceBEq, Nat.reduceAdd, Nat.reduceLeDiff, dT, dF, fldP, zac] | with_reducible intro _ | ((with_reducible apply And.intro); omega))
  by_cases q1 : 1 ≤ l.length <;> (repeat first | simp (disch := try exact dis1) only [evD, Nat.reduceBEq, Nat.reduceAdd, Nat.reduceLeDiff, dT, dF, fldP, zac] | with_reducible intro _ | ((with_reducible apply And.intro); omega))
  case neg => exact ⟨_, .bool _ _, congrArg AV.bool (noF (by unfold zai; omega))⟩
  by_cases q2 : l.length ≤ 64 <;> (repeat first | simp (disch := try exact dis1) only [evD, Nat.reduceBEq, Nat.reduceAdd, Nat.reduceLeDiff, dT, dF, fldP, zac] | with_reducible intro _ | ((with_reducible apply And.intro); omega))
  case neg => exact ⟨_, .bool _ _, congrArg AV.bool (noF (by unfold zai; omega))⟩
  by_cases q3 : bl = 0 <;> (repeat first | simp (disch := try exact dis1) only [evD, Nat.reduceBEq, Nat.reduceAdd, Nat.reduceLeDiff, dT, dF, fldP, zac] | with_reducible intro _ | ((with_reducible apply And.intro); omega))
  case neg => exact ⟨_, .bool _ _, congrArg AV.bool (noF (by unfold zai; omega))⟩
  by_cases q4 : lb = 0 <;> (repeat first | simp (disch := try exact dis1) only [evD, Nat.reduceBEq, Nat.reduceAdd, Nat.reduceLeDiff, dT, dF, fldP, zac] | with_reducible intro _ | ((with_reducible apply And.intro); omega))
  case neg => exact ⟨_, .bool _ _, congrArg AV.bool (noF (by unfold zai; omega))⟩
  (repeat first | simp (disch := try exact dis1) only [evD, Nat.reduceBEq, Nat.reduceAdd, Nat.reduceLeDiff, hgX, zbS, zbh, zac] | with_reducible intro _ | ((with_reducible apply And.intro); omega))
  refine zae (zah (zeC e) (flX rfl)) ?_
  (repeat first | simp (disch := try exact dis1) only [evD, Nat.reduceBEq, Nat.reduceAdd, Nat.reduceLeDiff, dT, dF, fldP, zac] | with_reducible intro _ | ((with_reducible apply And.intro); omega))
  exact ⟨_, .bool _ _, congrArg AV.bool (yesX (by unfold zai; omega)).symm⟩
theorem zwl {kd bl lb : Int} {c : List Ex} {l : List Nd} (h : kd < 1) : zaj Tryz.prog zaA [.agg [.int .i64 kd, .int .i64 bl, .int .i64 lb, encL 5 encX c, encL 5 encN l]] (· = .bool (zaZ kd bl lb c l.length)) := by
  refine fn_x zaI rfl ?_
  unfold zaG
  have hB := hBig
  (repeat first | simp (disch := try exact dis1) only [evD, Nat.reduceBEq, Nat.reduceAdd, Nat.reduceLeDiff, dT, dF, fldP, zac] | with_reducible intro _ | ((with_reducible apply And.intro); omega))
  exact ⟨_, .bool _ _, congrArg AV.bool (noF (by unfold zai; omega))⟩
theorem zwT {kd bl lb : Int} {c : List Ex} {l : List Nd} (h : 12 < kd) : zaj Tryz.prog zaA [.agg [.int .i64 kd, .int .i64 bl, .int .i64 lb, encL 5 encX c, encL 5 encN l]] (· = .bool (zaZ kd bl lb c l.length)) := by
  refine fn_x zaI rfl ?_
  unfold zaG
  have hB := hBig
  (repeat first | simp (disch := try exact dis1) only [evD, Nat.reduceBEq, Nat.reduceAdd, Nat.reduceLeDiff, dT, dF, fldP, zac] | with_reducible intro _ | ((with_reducible apply And.intro); omega))
  exact ⟨_, .bool _ _, congrArg AV.bool (noF (by unfold zai; omega))⟩
theorem zv3 {kd bl lb : Int} {c : List Ex} {l : List Nd} (h : kd = 7) : zaj Tryz.prog zaM [.agg [.int .i64 kd, .int .i64 bl, .int .i64 lb, encL 5 encX c, encL 5 encN l]] (· = .bool (zaZ kd bl lb c l.length)) := by
  refine fn_x za1 rfl ?_
  unfold zaW
  have hB := hBig
  (repeat first | simp (disch := try exact dis1) only [evD, Nat.reduceBEq, Nat.reduceAdd, Nat.reduceLeDiff, dT, dF, fldP, zab] | with_reducible intro _ | ((with_reducible apply And.intro); omega))
  by_cases q0 : c.length = 0 <;> (repeat first | simp (disch := try exact dis1) only [evD, Nat.reduceBEq, Nat.reduceAdd, Nat.reduceLeDiff, dT, dF, fldP, zab] | with_reducible intro _ | ((with_reducible apply And.intro); omega))
  case neg => exact ⟨_, .bool _ _, congrArg AV.bool (noF (by unfold zai; omega))⟩
  by_cases q1 : 0 ≤ l.length <;> (repeat first | simp (disch := try exact dis1) only [evD, Nat.reduceBEq, Nat.reduceAdd, Nat.reduceLeDiff, dT, dF, fldP, zab] | with_reducible intro _ | ((with_reducible apply And.intro); omega))
  case neg => exact ⟨_, .bool _ _, congrArg AV.bool (noF (by unfold zai; omega))⟩
  by_cases q2 : l.length ≤ 0 <;> (repeat first | simp (disch := try exact dis1) only [evD, Nat.reduceBEq, Nat.reduceAdd, Nat.reduceLeDiff, dT, dF, fldP, zab] | with_reducible intro _ | ((with_reducible apply And.intro); omega))
  case neg => exact ⟨_, .bool _ _, congrArg AV.bool (noF (by unfold zai; omega))⟩
  by_cases q3 : 0 ≤ lb <;> (repeat first | simp (disch := try exact dis1) only [evD, Nat.reduceBEq, Nat.reduceAdd, Nat.reduceLeDiff, dT, dF, fldP, zab] | with_reducible intro _ | ((with_reducible apply And.intro); omega))
  case neg => exact ⟨_, .bool _ _, congrArg AV.bool (noF (by unfold zai; omega))⟩
  obtain rfl : c = [] := List.eq_nil_of_length_eq_zero q0
  by_cases b0 : bl = 0 <;> (repeat first | simp (disch := try exact dis1) only [evD, Nat.reduceBEq, Nat.reduceAdd, Nat.reduceLeDiff, dT, dF, fldP, zab] | with_reducible intro _ | ((with_reducible apply And.intro); omega))
  case neg => exact ⟨_, .bool _ _, congrArg AV.bool (noF (by unfold zai; omega))⟩
  by_cases b1 : lb = 0 <;> (repeat first | simp (disch := try exact dis1) only [evD, Nat.reduceBEq, Nat.reduceAdd, Nat.reduceLeDiff, dT, dF, fldP, zab] | with_reducible intro _ | ((with_reducible apply And.intro); omega))
  case neg => exact ⟨_, .bool _ _, congrArg AV.bool (noF (by unfold zai; omega))⟩
  exact ⟨_, .bool _ _, congrArg AV.bool (yesF (by unfold zai; omega)).symm⟩
theorem zv8 {kd bl lb : Int} {c : List Ex} {l : List Nd} (h : kd = 8) : zaj Tryz.prog zaM [.agg [.int .i64 kd, .int .i64 bl, .int .i64 lb, encL 5 encX c, encL 5 encN l]] (· = .bool (zaZ kd bl lb c l.length)) := by
  refine fn_x za1 rfl ?_
  unfold zaW
  have hB := hBig
  (repeat first | simp (disch := try exact dis1) only [evD, Nat.reduceBEq, Nat.reduceAdd, Nat.reduceLeDiff, dT, dF, fldP, zab] | with_reducible intro _ | ((with_reducible apply And.intro); omega))
  by_cases q0 : c.length = 0 <;> (repeat first | simp (disch := try exact dis1) only [evD, Nat.reduceBEq, Nat.reduceAdd, Nat.reduceLeDiff, dT, dF, fldP, zab] | with_reducible intro _ | ((with_reducible apply And.intro); omega))
  case neg => exact ⟨_, .bool _ _, congrArg AV.bool (noF (by unfold zai; omega))⟩
  by_cases q1 : 0 ≤ l.length <;> (repeat first | simp (disch := try exact dis1) only [evD, Nat.reduceBEq, Nat.reduceAdd, Nat.reduceLeDiff, dT, dF, fldP, zab] | with_reducible intro _ | ((with_reducible apply And.intro); omega))
  case neg => exact ⟨_, .bool _ _, congrArg AV.bool (noF (by unfold zai; omega))⟩
  by_cases q2 : l.length ≤ 0 <;> (repeat first | simp (disch := try exact dis1) only [evD, Nat.reduceBEq, Nat.reduceAdd, Nat.reduceLeDiff, dT, dF, fldP, zab] | with_reducible intro _ | ((with_reducible apply And.intro); omega))
  case neg => exact ⟨_, .bool _ _, congrArg AV.bool (noF (by unfold zai; omega))⟩
  by_cases q3 : 0 ≤ lb <;> (repeat first | simp (disch := try exact dis1) only [evD, Nat.reduceBEq, Nat.reduceAdd, Nat.reduceLeDiff, dT, dF, fldP, zab] | with_reducible intro _ | ((with_reducible apply And.intro); omega))
  case neg => exact ⟨_, .bool _ _, congrArg AV.bool (noF (by unfold zai; omega))⟩
  obtain rfl : c = [] := List.eq_nil_of_length_eq_zero q0
  by_cases b0 : bl = 0 <;> (repeat first | simp (disch := try exact dis1) only [evD, Nat.reduceBEq, Nat.reduceAdd, Nat.reduceLeDiff, dT, dF, fldP, zab] | with_reducible intro _ | ((with_reducible apply And.intro); omega))
  case neg => exact ⟨_, .bool _ _, congrArg AV.bool (noF (by unfold zai; omega))⟩
  by_cases b1 : lb = 0 <;> (repeat first | simp (disch := try exact dis1) only [evD, Nat.reduceBEq, Nat.reduceAdd, Nat.reduceLeDiff, dT, dF, fldP, zab] | with_reducible intro _ | ((with_reducible apply And.intro); omega))
  case neg => exact ⟨_, .bool _ _, congrArg AV.bool (noF (by unfold zai; omega))⟩
  exact ⟨_, .bool _ _, congrArg AV.bool (yesF (by unfold zai; omega)).symm⟩
theorem zuO {kd bl lb : Int} {c : List Ex} {l : List Nd} (h : kd = 11) : zaj Tryz.prog zaM [.agg [.int .i64 kd, .int .i64 bl, .int .i64 lb, encL 5 encX c, encL 5 encN l]] (· = .bool (zaZ kd bl lb c l.length)) := by
  refine fn_x za1 rfl ?_
  unfold zaW
  have hB := hBig
  (repeat first | simp (disch := try exact dis1) only [evD, Nat.reduceBEq, Nat.reduceAdd, Nat.reduceLeDiff, dT, dF, fldP, zab] | with_reducible intro _ | ((with_reducible apply And.intro); omega))
  by_cases q0 : c.length = 0 <;> (repeat first | simp (disch := try exact dis1) only [evD, Nat.reduceBEq, Nat.reduceAdd, Nat.reduceLeDiff, dT, dF, fldP, zab] | with_reducible intro _ | ((with_reducible apply And.intro); omega))
  case neg => exact ⟨_, .bool _ _, congrArg AV.bool (noF (by unfold zai; omega))⟩
  by_cases q1 : 0 ≤ l.length <;> (repeat first | simp (disch := try exact dis1) only [evD, Nat.reduceBEq, Nat.reduceAdd, Nat.reduceLeDiff, dT, dF, fldP, zab] | with_reducible intro _ | ((with_reducible apply And.intro); omega))
  case neg => exact ⟨_, .bool _ _, congrArg AV.bool (noF (by unfold zai; omega))⟩
  by_cases q2 : l.length ≤ 0 <;> (repeat first | simp (disch := try exact dis1) only [evD, Nat.reduceBEq, Nat.reduceAdd, Nat.reduceLeDiff, dT, dF, fldP, zab] | with_reducible intro _ | ((with_reducible apply And.intro); omega))
  case neg => exact ⟨_, .bool _ _, congrArg AV.bool (noF (by unfold zai; omega))⟩
  by_cases q3 : 0 ≤ lb <;> (repeat first | simp (disch := try exact dis1) only [evD, Nat.reduceBEq, Nat.reduceAdd, Nat.reduceLeDiff, dT, dF, fldP, zab] | with_reducible intro _ | ((with_reducible apply And.intro); omega))
  case neg => exact ⟨_, .bool _ _, congrArg AV.bool (noF (by unfold zai; omega))⟩
  obtain rfl : c = [] := List.eq_nil_of_length_eq_zero q0
  by_cases b0 : bl = 0 <;> (repeat first | simp (disch := try exact dis1) only [evD, Nat.reduceBEq, Nat.reduceAdd, Nat.reduceLeDiff, dT, dF, fldP, zab] | with_reducible intro _ | ((with_reducible apply And.intro); omega))
  case neg => exact ⟨_, .bool _ _, congrArg AV.bool (noF (by unfold zai; omega))⟩
  by_cases b1 : lb = 0 <;> (repeat first | simp (disch := try exact dis1) only [evD, Nat.reduceBEq, Nat.reduceAdd, Nat.reduceLeDiff, dT, dF, fldP, zab] | with_reducible intro _ | ((with_reducible apply And.intro); omega))
  case neg => exact ⟨_, .bool _ _, congrArg AV.bool (noF (by unfold zai; omega))⟩
  exact ⟨_, .bool _ _, congrArg AV.bool (yesF (by unfold zai; omega)).symm⟩
theorem zui {kd bl lb : Int} {c : List Ex} {l : List Nd} (h : kd = 12) : zaj Tryz.prog zaM [.agg [.int .i64 kd, .int .i64 bl, .int .i64 lb, encL 5 encX c, encL 5 encN l]] (· = .bool (zaZ kd bl lb c l.length)) := by
  refine fn_x za1 rfl ?_
  unfold zaW
  have hB := hBig
  (repeat first | simp (disch := try exact dis1) only [evD, Nat.reduceBEq, Nat.reduceAdd, Nat.reduceLeDiff, dT, dF, fldP, zab] | with_reducible intro _ | ((with_reducible apply And.intro); omega))
  by_cases q0 : c.length = 0 <;> (repeat first | simp (disch := try exact dis1) only [evD, Nat.reduceBEq, Nat.reduceAdd, Nat.reduceLeDiff, dT, dF, fldP, zab] | with_reducible intro _ | ((with_reducible apply And.intro); omega))
  case neg => exact ⟨_, .bool _ _, congrArg AV.bool (noF (by unfold zai; omega))⟩
  by_cases q1 : 0 ≤ l.length <;> (repeat first | simp (disch := try exact dis1) only [evD, Nat.reduceBEq, Nat.reduceAdd, Nat.reduceLeDiff, dT, dF, fldP, zab] | with_reducible intro _ | ((with_reducible apply And.intro); omega))
  case neg => exact ⟨_, .bool _ _, congrArg AV.bool (noF (by unfold zai; omega))⟩
  by_cases q2 : l.length ≤ 0 <;> (repeat first | simp (disch := try exact dis1) only [evD, Nat.reduceBEq, Nat.reduceAdd, Nat.reduceLeDiff, dT, dF, fldP, zab] | with_reducible intro _ | ((with_reducible apply And.intro); omega))
  case neg => exact ⟨_, .bool _ _, congrArg AV.bool (noF (by unfold zai; omega))⟩
  by_cases q3 : 0 ≤ lb <;> (repeat first | simp (disch := try exact dis1) only [evD, Nat.reduceBEq, Nat.reduceAdd, Nat.reduceLeDiff, dT, dF, fldP, zab] | with_reducible intro _ | ((with_reducible apply And.intro); omega))
  case neg => exact ⟨_, .bool _ _, congrArg AV.bool (noF (by unfold zai; omega))⟩
  obtain rfl : c = [] := List.eq_nil_of_length_eq_zero q0
  by_cases b0 : bl = 0 <;> (repeat first | simp (disch := try exact dis1) only [evD, Nat.reduceBEq, Nat.reduceAdd, Nat.reduceLeDiff, dT, dF, fldP, zab] | with_reducible intro _ | ((with_reducible apply And.intro); omega))
  case neg => exact ⟨_, .bool _ _, congrArg AV.bool (noF (by unfold zai; omega))⟩
  by_cases b1 : lb = 0 <;> (repeat first | simp (disch := try exact dis1) only [evD, Nat.reduceBEq, Nat.reduceAdd, Nat.reduceLeDiff, dT, dF, fldP, zab] | with_reducible intro _ | ((with_reducible apply And.intro); omega))
  case neg => exact ⟨_, .bool _ _, congrArg AV.bool (noF (by unfold zai; omega))⟩
  exact ⟨_, .bool _ _, congrArg AV.bool (yesF (by unfold zai; omega)).symm⟩
theorem zzB {kd bl lb : Int} {c : List Ex} {l : List Nd} (h : kd = 2) : zaj Tryz.prog zaM [.agg [.int .i64 kd, .int .i64 bl, .int .i64 lb, encL 5 encX c, encL 5 encN l]] (· = .bool (zaZ kd bl lb c l.length)) := by
  refine fn_x za1 rfl ?_
  unfold zaW
  have hB := hBig
  (repeat first | simp (disch := try exact dis1) only [evD, Nat.reduceBEq, Nat.reduceAdd, Nat.reduceLeDiff, dT, dF, fldP, zab] | with_reducible intro _ | ((with_reducible apply And.intro); omega))
  by_cases q0 : c.length = 0 <;> (repeat first | simp (disch := try exact dis1) only [evD, Nat.reduceBEq, Nat.reduceAdd, Nat.reduceLeDiff, dT, dF, fldP, zab] | with_reducible intro _ | ((with_reducible apply And.intro); omega))
  case neg => exact ⟨_, .bool _ _, congrArg AV.bool (noF (by unfold zai; omega))⟩
  by_cases q1 : 0 ≤ l.length <;> (repeat first | simp (disch := try exact dis1) only [evD, Nat.reduceBEq, Nat.reduceAdd, Nat.reduceLeDiff, dT, dF, fldP, zab] | with_reducible intro _ | ((with_reducible apply And.intro); omega))
  case neg => exact ⟨_, .bool _ _, congrArg AV.bool (noF (by unfold zai; omega))⟩
  by_cases q2 : l.length ≤ 0 <;> (repeat first | simp (disch := try exact dis1) only [evD, Nat.reduceBEq, Nat.reduceAdd, Nat.reduceLeDiff, dT, dF, fldP, zab] | with_reducible intro _ | ((with_reducible apply And.intro); omega))
  case neg => exact ⟨_, .bool _ _, congrArg AV.bool (noF (by unfold zai; omega))⟩
  by_cases q3 : 0 ≤ lb <;> (repeat first | simp (disch := try exact dis1) only [evD, Nat.reduceBEq, Nat.reduceAdd, Nat.reduceLeDiff, dT, dF, fldP, zab] | with_reducible intro _ | ((with_reducible apply And.intro); omega))
  case neg => exact ⟨_, .bool _ _, congrArg AV.bool (noF (by unfold zai; omega))⟩
  obtain rfl : c = [] := List.eq_nil_of_length_eq_zero q0
  by_cases b1 : lb = 0 <;> by_cases b0 : bl = 0 <;> (repeat first | simp (disch := try exact dis1) only [evD, Nat.reduceBEq, Nat.reduceAdd, Nat.reduceLeDiff, dT, dF, fldP, zab] | with_reducible intro _ | ((with_reducible apply And.intro); omega)) <;> first | exact ⟨_, .bool _ _, congrArg AV.bool (yesF (by unfold zai; omega)).symm⟩ | exact ⟨_, .bool _ _, congrArg AV.bool (noF (by unfold zai; omega))⟩
theorem zyS {kd bl lb : Int} {c : List Ex} {l : List Nd} (h : kd = 9) : zaj Tryz.prog zaM [.agg [.int .i64 kd, .int .i64 bl, .int .i64 lb, encL 5 encX c, encL 5 encN l]] (· = .bool (zaZ kd bl lb c l.length)) := by
  refine fn_x za1 rfl ?_
  unfold zaW
  have hB := hBig
  (repeat first | simp (disch := try exact dis1) only [evD, Nat.reduceBEq, Nat.reduceAdd, Nat.reduceLeDiff, dT, dF, fldP, zab] | with_reducible intro _ | ((with_reducible apply And.intro); omega))
  by_cases q0 : c.length = 0 <;> (repeat first | simp (disch := try exact dis1) only [evD, Nat.reduceBEq, Nat.reduceAdd, Nat.reduceLeDiff, dT, dF, fldP, zab] | with_reducible intro _ | ((with_reducible apply And.intro); omega))
  case neg => exact ⟨_, .bool _ _, congrArg AV.bool (noF (by unfold zai; omega))⟩
  by_cases q1 : 0 ≤ l.length <;> (repeat first | simp (disch := try exact dis1) only [evD, Nat.reduceBEq, Nat.reduceAdd, Nat.reduceLeDiff, dT, dF, fldP, zab] | with_reducible intro _ | ((with_reducible apply And.intro); omega))
  case neg => exact ⟨_, .bool _ _, congrArg AV.bool (noF (by unfold zai; omega))⟩
  by_cases q2 : l.length ≤ 0 <;> (repeat first | simp (disch := try exact dis1) only [evD, Nat.reduceBEq, Nat.reduceAdd, Nat.reduceLeDiff, dT, dF, fldP, zab] | with_reducible intro _ | ((with_reducible apply And.intro); omega))
  case neg => exact ⟨_, .bool _ _, congrArg AV.bool (noF (by unfold zai; omega))⟩
  by_cases q3 : 0 ≤ lb <;> (repeat first | simp (disch := try exact dis1) only [evD, Nat.reduceBEq, Nat.reduceAdd, Nat.reduceLeDiff, dT, dF, fldP, zab] | with_reducible intro _ | ((with_reducible apply And.intro); omega))
  case neg => exact ⟨_, .bool _ _, congrArg AV.bool (noF (by unfold zai; omega))⟩
  obtain rfl : c = [] := List.eq_nil_of_length_eq_zero q0
  by_cases b0 : bl = 0 <;> by_cases b1 : lb = 0 <;> (repeat first | simp (disch := try exact dis1) only [evD, Nat.reduceBEq, Nat.reduceAdd, Nat.reduceLeDiff, dT, dF, fldP, zab] | with_reducible intro _ | ((with_reducible apply And.intro); omega)) <;> first | exact ⟨_, .bool _ _, congrArg AV.bool (yesF (by unfold zai; omega)).symm⟩ | exact ⟨_, .bool _ _, congrArg AV.bool (noF (by unfold zai; omega))⟩
theorem zxr {kd bl lb : Int} {c : List Ex} {l : List Nd} (h : kd = 10) : zaj Tryz.prog zaM [.agg [.int .i64 kd, .int .i64 bl, .int .i64 lb, encL 5 encX c, encL 5 encN l]] (· = .bool (zaZ kd bl lb c l.length)) := by
  refine fn_x za1 rfl ?_
  unfold zaW
  have hB := hBig
  (repeat first | simp (disch := try exact dis1) only [evD, Nat.reduceBEq, Nat.reduceAdd, Nat.reduceLeDiff, dT, dF, fldP, zab] | with_reducible intro _ | ((with_reducible apply And.intro); omega))
  by_cases q0 : c.length = 0 <;> (repeat first | simp (disch := try exact dis1) only [evD, Nat.reduceBEq, Nat.reduceAdd, Nat.reduceLeDiff, dT, dF, fldP, zab] | with_reducible intro _ | ((with_reducible apply And.intro); omega))
  case neg => exact ⟨_, .bool _ _, congrArg AV.bool (noF (by unfold zai; omega))⟩
  by_cases q1 : 0 ≤ l.length <;> (repeat first | simp (disch := try exact dis1) only [evD, Nat.reduceBEq, Nat.reduceAdd, Nat.reduceLeDiff, dT, dF, fldP, zab] | with_reducible intro _ | ((with_reducible apply And.intro); omega))
  case neg => exact ⟨_, .bool _ _, congrArg AV.bool (noF (by unfold zai; omega))⟩
  by_cases q2 : l.length ≤ 0 <;> (repeat first | simp (disch := try exact dis1) only [evD, Nat.reduceBEq, Nat.reduceAdd, Nat.reduceLeDiff, dT, dF, fldP, zab] | with_reducible intro _ | ((with_reducible apply And.intro); omega))
  case neg => exact ⟨_, .bool _ _, congrArg AV.bool (noF (by unfold zai; omega))⟩
  by_cases q3 : 0 ≤ lb <;> (repeat first | simp (disch := try exact dis1) only [evD, Nat.reduceBEq, Nat.reduceAdd, Nat.reduceLeDiff, dT, dF, fldP, zab] | with_reducible intro _ | ((with_reducible apply And.intro); omega))
  case neg => exact ⟨_, .bool _ _, congrArg AV.bool (noF (by unfold zai; omega))⟩
  obtain rfl : c = [] := List.eq_nil_of_length_eq_zero q0
  by_cases b0 : bl = 0 <;> by_cases b1 : lb = 0 <;> (repeat first | simp (disch := try exact dis1) only [evD, Nat.reduceBEq, Nat.reduceAdd, Nat.reduceLeDiff, dT, dF, fldP, zab] | with_reducible intro _ | ((with_reducible apply And.intro); omega)) <;> first | exact ⟨_, .bool _ _, congrArg AV.bool (yesF (by unfold zai; omega)).symm⟩ | exact ⟨_, .bool _ _, congrArg AV.bool (noF (by unfold zai; omega))⟩
theorem zze {kd bl lb : Int} {c : List Ex} {l : List Nd} (h : kd = 1) : zaj Tryz.prog zaM [.agg [.int .i64 kd, .int .i64 bl, .int .i64 lb, encL 5 encX c, encL 5 encN l]] (· = .bool (zaZ kd bl lb c l.length)) := by
  refine fn_x za1 rfl ?_
  unfold zaW
  have hB := hBig
  (repeat first | simp (disch := try exact dis1) only [evD, Nat.reduceBEq, Nat.reduceAdd, Nat.reduceLeDiff, dT, dF, fldP, zab] | with_reducible intro _ | ((with_reducible apply And.intro); omega))
  by_cases q0 : c.length = 0 <;> (repeat first | simp (disch := try exact dis1) only [evD, Nat.reduceBEq, Nat.reduceAdd, Nat.reduceLeDiff, dT, dF, fldP, zab] | with_reducible intro _ | ((with_reducible apply And.intro); omega))
  case neg => exact ⟨_, .bool _ _, congrArg AV.bool (noF (by unfold zai; omega))⟩
  by_cases q1 : 0 ≤ lb <;> (repeat first | simp (disch := try exact dis1) only [evD, Nat.reduceBEq, Nat.reduceAdd, Nat.reduceLeDiff, dT, dF, fldP, zab] | with_reducible intro _ | ((with_reducible apply And.intro); omega))
  case neg => exact ⟨_, .bool _ _, congrArg AV.bool (noF (by unfold zai; omega))⟩
  obtain rfl : c = [] := List.eq_nil_of_length_eq_zero q0
  by_cases b0 : bl = 0 <;> (repeat first | simp (disch := try exact dis1) only [evD, Nat.reduceBEq, Nat.reduceAdd, Nat.reduceLeDiff, dT, dF, fldP, zab] | with_reducible intro _ | ((with_reducible apply And.intro); omega))
  case neg => exact ⟨_, .bool _ _, congrArg AV.bool (noF (by unfold zai; omega))⟩
  by_cases b1 : lb = 0 <;> (repeat first | simp (disch := try exact dis1) only [evD, Nat.reduceBEq, Nat.reduceAdd, Nat.reduceLeDiff, dT, dF, fldP, zab] | with_reducible intro _ | ((with_reducible apply And.intro); omega))
  case neg => exact ⟨_, .bool _ _, congrArg AV.bool (noF (by unfold zai; omega))⟩
  exact ⟨_, .bool _ _, congrArg AV.bool (yesF (by unfold zai; omega)).symm⟩
theorem zz2 {kd bl lb : Int} {c : List Ex} {l : List Nd} (h : kd = 4) : zaj Tryz.prog zaM [.agg [.int .i64 kd, .int .i64 bl, .int .i64 lb, encL 5 encX c, encL 5 encN l]] (· = .bool (zaZ kd bl lb c l.length)) := by
  refine fn_x za1 rfl ?_
  unfold zaW
  have hB := hBig
  (repeat first | simp (disch := try exact dis1) only [evD, Nat.reduceBEq, Nat.reduceAdd, Nat.reduceLeDiff, dT, dF, fldP, zab] | with_reducible intro _ | ((with_reducible apply And.intro); omega))
  by_cases q0 : c.length = 0 <;> (repeat first | simp (disch := try exact dis1) only [evD, Nat.reduceBEq, Nat.reduceAdd, Nat.reduceLeDiff, dT, dF, fldP, zab] | with_reducible intro _ | ((with_reducible apply And.intro); omega))
  case neg => exact ⟨_, .bool _ _, congrArg AV.bool (noF (by unfold zai; omega))⟩
  by_cases q1 : 1 ≤ l.length <;> (repeat first | simp (disch := try exact dis1) only [evD, Nat.reduceBEq, Nat.reduceAdd, Nat.reduceLeDiff, dT, dF, fldP, zab] | with_reducible intro _ | ((with_reducible apply And.intro); omega))
  case neg => exact ⟨_, .bool _ _, congrArg AV.bool (noF (by unfold zai; omega))⟩
  by_cases q2 : l.length ≤ 1 <;> (repeat first | simp (disch := try exact dis1) only [evD, Nat.reduceBEq, Nat.reduceAdd, Nat.reduceLeDiff, dT, dF, fldP, zab] | with_reducible intro _ | ((with_reducible apply And.intro); omega))
  case neg => exact ⟨_, .bool _ _, congrArg AV.bool (noF (by unfold zai; omega))⟩
  by_cases q3 : 0 ≤ lb <;> (repeat first | simp (disch := try exact dis1) only [evD, Nat.reduceBEq, Nat.reduceAdd, Nat.reduceLeDiff, dT, dF, fldP, zab] | with_reducible intro _ | ((with_reducible apply And.intro); omega))
  case neg => exact ⟨_, .bool _ _, congrArg AV.bool (noF (by unfold zai; omega))⟩
  obtain rfl : c = [] := List.eq_nil_of_length_eq_zero q0
  by_cases b0 : bl = 0 <;> (repeat first | simp (disch := try exact dis1) only [evD, Nat.reduceBEq, Nat.reduceAdd, Nat.reduceLeDiff, dT, dF, fldP, zab] | with_reducible intro _ | ((with_reducible apply And.intro); omega))
  case neg => exact ⟨_, .bool _ _, congrArg AV.bool (noF (by unfold zai; omega))⟩
  by_cases b1 : lb = 0 <;> (repeat first | simp (disch := try exact dis1) only [evD, Nat.reduceBEq, Nat.reduceAdd, Nat.reduceLeDiff, dT, dF, fldP, zab] | with_reducible intro _ | ((with_reducible apply And.intro); omega))
  case neg => exact ⟨_, .bool _ _, congrArg AV.bool (noF (by unfold zai; omega))⟩
  exact ⟨_, .bool _ _, congrArg AV.bool (yesF (by unfold zai; omega)).symm⟩
theorem zx8 {kd bl lb : Int} {c : List Ex} {l : List Nd} (h : kd = 3) : zaj Tryz.prog zaM [.agg [.int .i64 kd, .int .i64 bl, .int .i64 lb, encL 5 encX c, encL 5 encN l]] (· = .bool (zaZ kd bl lb c l.length)) := by
  refine fn_x za1 rfl ?_
  unfold zaW
  have hB := hBig
  (repeat first | simp (disch := try exact dis1) only [evD, Nat.reduceBEq, Nat.reduceAdd, Nat.reduceLeDiff, dT, dF, fldP, zab] | with_reducible intro _ | ((with_reducible apply And.intro); omega))
  by_cases q0 : c.length = 1
  case neg =>
    (repeat first | simp (disch := try exact dis1) only [evD, Nat.reduceBEq, Nat.reduceAdd, Nat.reduceLeDiff, dT, dF, fldP, zab] | with_reducible intro _ | ((with_reducible apply And.intro); omega))
    exact ⟨_, .bool _ _, congrArg AV.bool (noF (by unfold zai; omega))⟩
  obtain ⟨e, rfl⟩ : ∃ e, c = [e] := List.length_eq_one_iff.1 q0
  (repeat first | simp (disch := try exact dis1) only [evD, Nat.reduceBEq, Nat.reduceAdd, Nat.reduceLeDiff, dT, dF, fldP, zab] | with_reducible intro _ | ((with_reducible apply And.intro); omega))
  by_cases q1 : 2 ≤ l.length <;> (repeat first | simp (disch := try exact dis1) only [evD, Nat.reduceBEq, Nat.reduceAdd, Nat.reduceLeDiff, dT, dF, fldP, zab] | with_reducible intro _ | ((with_reducible apply And.intro); omega))
  case neg => exact ⟨_, .bool _ _, congrArg AV.bool (noF (by unfold zai; omega))⟩
  by_cases q2 : l.length ≤ 2 <;> (repeat first | simp (disch := try exact dis1) only [evD, Nat.reduceBEq, Nat.reduceAdd, Nat.reduceLeDiff, dT, dF, fldP, zab] | with_reducible intro _ | ((with_reducible apply And.intro); omega))
  case neg => exact ⟨_, .bool _ _, congrArg AV.bool (noF (by unfold zai; omega))⟩
  by_cases q3 : 0 ≤ lb <;> (repeat first | simp (disch := try exact dis1) only [evD, Nat.reduceBEq, Nat.reduceAdd, Nat.reduceLeDiff, dT, dF, fldP, zab] | with_reducible intro _ | ((with_reducible apply And.intro); omega))
  case neg => exact ⟨_, .bool _ _, congrArg AV.bool (noF (by unfold zai; omega))⟩
  (repeat first | simp (disch := try exact dis1) only [evD, Nat.reduceBEq, Nat.reduceAdd, Nat.reduceLeDiff, hgX, zbS, zbh, zab] | with_reducible intro _ | ((with_reducible apply And.intro); omega))
  refine zae (zah (zdV e) (flX rfl)) ?_
  by_cases hx : zfQ e = 0 <;> (repeat first | simp (disch := try exact dis1) only [evD, Nat.reduceBEq, Nat.reduceAdd, Nat.reduceLeDiff, dT, dF, fldP, zab] | with_reducible intro _ | ((with_reducible apply And.intro); omega))
  case neg => exact ⟨_, .bool _ _, congrArg AV.bool (noX hx).symm⟩
  by_cases b0 : bl = 0 <;> (repeat first | simp (disch := try exact dis1) only [evD, Nat.reduceBEq, Nat.reduceAdd, Nat.reduceLeDiff, dT, dF, fldP, zab] | with_reducible intro _ | ((with_reducible apply And.intro); omega))
  case neg => exact ⟨_, .bool _ _, congrArg AV.bool (noF (by unfold zai; omega))⟩
  by_cases b1 : lb = 0 <;> (repeat first | simp (disch := try exact dis1) only [evD, Nat.reduceBEq, Nat.reduceAdd, Nat.reduceLeDiff, dT, dF, fldP, zab] | with_reducible intro _ | ((with_reducible apply And.intro); omega))
  case neg => exact ⟨_, .bool _ _, congrArg AV.bool (noF (by unfold zai; omega))⟩
  exact ⟨_, .bool _ _, congrArg AV.bool ((yesX (by unfold zai; omega)).trans (dT hx)).symm⟩
theorem zy9 {kd bl lb : Int} {c : List Ex} {l : List Nd} (h : kd = 5) : zaj Tryz.prog zaM [.agg [.int .i64 kd, .int .i64 bl, .int .i64 lb, encL 5 encX c, encL 5 encN l]] (· = .bool (zaZ kd bl lb c l.length)) := by
  refine fn_x za1 rfl ?_
  unfold zaW
  have hB := hBig
  (repeat first | simp (disch := try exact dis1) only [evD, Nat.reduceBEq, Nat.reduceAdd, Nat.reduceLeDiff, dT, dF, fldP, zab] | with_reducible intro _ | ((with_reducible apply And.intro); omega))
  by_cases q0 : c.length = 1
  case neg =>
    (repeat first | simp (disch := try exact dis1) only [evD, Nat.reduceBEq, Nat.reduceAdd, Nat.reduceLeDiff, dT, dF, fldP, zab] | with_reducible intro _ | ((with_reducible apply And.intro); omega))
    exact ⟨_, .bool _ _, congrArg AV.bool (noF (by unfold zai; omega))⟩
  obtain ⟨e, rfl⟩ : ∃ e, c = [e] := List.length_eq_one_iff.1 q0
  (repeat first | simp (disch := try exact dis1) only [evD, Nat.reduceBEq, Nat.reduceAdd, Nat.reduceLeDiff, dT, dF, fldP, zab] | with_reducible intro _ | ((with_reducible apply And.intro); omega))
  by_cases q1 : 1 ≤ l.length <;> (repeat first | simp (disch := try exact dis1) only [evD, Nat.reduceBEq, Nat.reduceAdd, Nat.reduceLeDiff, dT, dF, fldP, zab] | with_reducible intro _ | ((with_reducible apply And.intro); omega))
  case neg => exact ⟨_, .bool _ _, congrArg AV.bool (noF (by unfold zai; omega))⟩
  by_cases q2 : l.length ≤ 1 <;> (repeat first | simp (disch := try exact dis1) only [evD, Nat.reduceBEq, Nat.reduceAdd, Nat.reduceLeDiff, dT, dF, fldP, zab] | with_reducible intro _ | ((with_reducible apply And.intro); omega))
  case neg => exact ⟨_, .bool _ _, congrArg AV.bool (noF (by unfold zai; omega))⟩
  by_cases q3 : 0 ≤ lb <;> (repeat first | simp (disch := try exact dis1) only [evD, Nat.reduceBEq, Nat.reduceAdd, Nat.reduceLeDiff, dT, dF, fldP, zab] | with_reducible intro _ | ((with_reducible apply And.intro); omega))
  case neg => exact ⟨_, .bool _ _, congrArg AV.bool (noF (by unfold zai; omega))⟩
  (repeat first | simp (disch := try exact dis1) only [evD, Nat.reduceBEq, Nat.reduceAdd, Nat.reduceLeDiff, hgX, zbS, zbh, zab] | with_reducible intro _ | ((with_reducible apply And.intro); omega))
  refine zae (zah (zdV e) (flX rfl)) ?_
  by_cases hx : zfQ e = 0 <;> (repeat first | simp (disch := try exact dis1) only [evD, Nat.reduceBEq, Nat.reduceAdd, Nat.reduceLeDiff, dT, dF, fldP, zab] | with_reducible intro _ | ((with_reducible apply And.intro); omega))
  case neg => exact ⟨_, .bool _ _, congrArg AV.bool (noX hx).symm⟩
  by_cases b1 : lb = 0 <;> by_cases b0 : bl = 0 <;> (repeat first | simp (disch := try exact dis1) only [evD, Nat.reduceBEq, Nat.reduceAdd, Nat.reduceLeDiff, dT, dF, fldP, zab] | with_reducible intro _ | ((with_reducible apply And.intro); omega)) <;> first | exact ⟨_, .bool _ _, congrArg AV.bool ((yesX (by unfold zai; omega)).trans (dT hx)).symm⟩ | exact ⟨_, .bool _ _, congrArg AV.bool (noF (by unfold zai; omega))⟩
theorem zzH {kd bl lb : Int} {c : List Ex} {l : List Nd} (h : kd = 6) : zaj Tryz.prog zaM [.agg [.int .i64 kd, .int .i64 bl, .int .i64 lb, encL 5 encX c, encL 5 encN l]] (· = .bool (zaZ kd bl lb c l.length)) := by
  refine fn_x za1 rfl ?_
  unfold zaW
  have hB := hBig
  (repeat first | simp (disch := try exact dis1) only [evD, Nat.reduceBEq, Nat.reduceAdd, Nat.reduceLeDiff, dT, dF, fldP, zab] | with_reducible intro _ | ((with_reducible apply And.intro); omega))
  by_cases q0 : c.length = 1
  case neg =>
    (repeat first | simp (disch := try exact dis1) only [evD, Nat.reduceBEq, Nat.reduceAdd, Nat.reduceLeDiff, dT, dF, fldP, zab] | with_reducible intro _ | ((with_reducible apply And.intro); omega))
    exact ⟨_, .bool _ _, congrArg AV.bool (noF (by unfold zai; omega))⟩
  obtain ⟨e, rfl⟩ : ∃ e, c = [e] := List.length_eq_one_iff.1 q0
  (repeat first | simp (disch := try exact dis1) only [evD, Nat.reduceBEq, Nat.reduceAdd, Nat.reduceLeDiff, dT, dF, fldP, zab] | with_reducible intro _ | ((with_reducible apply And.intro); omega))
  by_cases q1 : 1 ≤ l.length <;> (repeat first | simp (disch := try exact dis1) only [evD, Nat.reduceBEq, Nat.reduceAdd, Nat.reduceLeDiff, dT, dF, fldP, zab] | with_reducible intro _ | ((with_reducible apply And.intro); omega))
  case neg => exact ⟨_, .bool _ _, congrArg AV.bool (noF (by unfold zai; omega))⟩
  by_cases q2 : l.length ≤ 64 <;> (repeat first | simp (disch := try exact dis1) only [evD, Nat.reduceBEq, Nat.reduceAdd, Nat.reduceLeDiff, dT, dF, fldP, zab] | with_reducible intro _ | ((with_reducible apply And.intro); omega))
  case neg => exact ⟨_, .bool _ _, congrArg AV.bool (noF (by unfold zai; omega))⟩
  by_cases q3 : 0 ≤ lb <;> (repeat first | simp (disch := try exact dis1) only [evD, Nat.reduceBEq, Nat.reduceAdd, Nat.reduceLeDiff, dT, dF, fldP, zab] | with_reducible intro _ | ((with_reducible apply And.intro); omega))
  case neg => exact ⟨_, .bool _ _, congrArg AV.bool (noF (by unfold zai; omega))⟩
  (repeat first | simp (disch := try exact dis1) only [evD, Nat.reduceBEq, Nat.reduceAdd, Nat.reduceLeDiff, hgX, zbS, zbh, zab] | with_reducible intro _ | ((with_reducible apply And.intro); omega))
  refine zae (zah (zdV e) (flX rfl)) ?_
  by_cases hx : zfQ e = 0 <;> (repeat first | simp (disch := try exact dis1) only [evD, Nat.reduceBEq, Nat.reduceAdd, Nat.reduceLeDiff, dT, dF, fldP, zab] | with_reducible intro _ | ((with_reducible apply And.intro); omega))
  case neg => exact ⟨_, .bool _ _, congrArg AV.bool (noX hx).symm⟩
  by_cases b0 : bl = 0 <;> (repeat first | simp (disch := try exact dis1) only [evD, Nat.reduceBEq, Nat.reduceAdd, Nat.reduceLeDiff, dT, dF, fldP, zab] | with_reducible intro _ | ((with_reducible apply And.intro); omega))
  case neg => exact ⟨_, .bool _ _, congrArg AV.bool (noF (by unfold zai; omega))⟩
  by_cases b1 : lb = 0 <;> (repeat first | simp (disch := try exact dis1) only [evD, Nat.reduceBEq, Nat.reduceAdd, Nat.reduceLeDiff, dT, dF, fldP, zab] | with_reducible intro _ | ((with_reducible apply And.intro); omega))
  case neg => exact ⟨_, .bool _ _, congrArg AV.bool (noF (by unfold zai; omega))⟩
  exact ⟨_, .bool _ _, congrArg AV.bool ((yesX (by unfold zai; omega)).trans (dT hx)).symm⟩
theorem zvA {kd bl lb : Int} {c : List Ex} {l : List Nd} (h : kd < 1) : zaj Tryz.prog zaM [.agg [.int .i64 kd, .int .i64 bl, .int .i64 lb, encL 5 encX c, encL 5 encN l]] (· = .bool (zaZ kd bl lb c l.length)) := by
  refine fn_x za1 rfl ?_
  unfold zaW
  have hB := hBig
  (repeat first | simp (disch := try exact dis1) only [evD, Nat.reduceBEq, Nat.reduceAdd, Nat.reduceLeDiff, dT, dF, fldP, zab] | with_reducible intro _ | ((with_reducible apply And.intro); omega))
  exact ⟨_, .bool _ _, congrArg AV.bool (noF (by unfold zai; omega))⟩
theorem zx2 {kd bl lb : Int} {c : List Ex} {l : List Nd} (h : 12 < kd) : zaj Tryz.prog zaM [.agg [.int .i64 kd, .int .i64 bl, .int .i64 lb, encL 5 encX c, encL 5 encN l]] (· = .bool (zaZ kd bl lb c l.length)) := by
  refine fn_x za1 rfl ?_
  unfold zaW
  have hB := hBig
  (repeat first | simp (disch := try exact dis1) only [evD, Nat.reduceBEq, Nat.reduceAdd, Nat.reduceLeDiff, dT, dF, fldP, zab] | with_reducible intro _ | ((with_reducible apply And.intro); omega))
  exact ⟨_, .bool _ _, congrArg AV.bool (noF (by unfold zai; omega))⟩
theorem zkG (kd bl lb : Int) (c : List Ex) (l : List Nd) : zaj Tryz.prog zaA [.agg [.int .i64 kd, .int .i64 bl, .int .i64 lb, encL 5 encX c, encL 5 encN l]] (· = .bool (zaZ kd bl lb c l.length)) := by
  rcases Int.lt_or_le kd 1 with h | h
  · exact zwl h
  rcases Int.lt_or_le 12 kd with h2 | h2
  · exact zwT h2
  by_cases ha : kd = 7 ∨ kd = 8 ∨ kd = 11 ∨ kd = 12
  · exact zy4 ha
  by_cases hb : kd = 2
  · exact zyN hb
  by_cases hc : kd = 9
  · exact zyj hc
  by_cases hc2 : kd = 10
  · exact zxm hc2
  by_cases hd : kd = 1
  · exact zyA hd
  by_cases he : kd = 4
  · exact zzl he
  by_cases hf : kd = 3
  · exact zyM hf
  by_cases hg : kd = 5
  · exact zzc hg
  exact zyc (by omega)
theorem zpX (kd bl lb : Int) (c : List Ex) (l : List Nd) : zaj Tryz.prog zaM [.agg [.int .i64 kd, .int .i64 bl, .int .i64 lb, encL 5 encX c, encL 5 encN l]] (· = .bool (zaZ kd bl lb c l.length)) := by
  rcases Int.lt_or_le kd 1 with h | h
  · exact zvA h
  rcases Int.lt_or_le 12 kd with h2 | h2
  · exact zx2 h2
  by_cases ha7 : kd = 7
  · exact zv3 ha7
  by_cases ha8 : kd = 8
  · exact zv8 ha8
  by_cases ha11 : kd = 11
  · exact zuO ha11
  by_cases ha12 : kd = 12
  · exact zui ha12
  by_cases hb : kd = 2
  · exact zzB hb
  by_cases hc : kd = 9
  · exact zyS hc
  by_cases hc2 : kd = 10
  · exact zxr hc2
  by_cases hd : kd = 1
  · exact zze hd
  by_cases he : kd = 4
  · exact zz2 he
  by_cases hf : kd = 3
  · exact zx8 hf
  by_cases hg : kd = 5
  · exact zy9 hg
  exact zzH (by omega)
def zjp : ACode := .seq (.seq (.region [ (oN 18 (.mov (.t 5))), (oN 19 (.bin .geq (.t 18) (.c (.int .i64 0))))] [18]) (.cond (.t 19) (.skip) (.exit 0))) (.seq (.block 1 (.region [ (oN 22 (.mov (.t 3))), (oN 23 (.mov (.t 4))), (oN 24 (.mov (.t 5))), (oN 25 (.idx 1 (.t 23) (.t 24))), (oN 26 (.load false 1 (.t 25))), (oN 27 (.buildSl 1 1 [.int .i64 0] [(0, (.t 26))])), (oN 28 (.append 1 8 (.t 22) (.t 27))), (oN 3 (.mov (.t 28)))] [19, 22, 23, 24, 25, 26, 27, 28])) (.region [ (oN 20 (.mov (.t 5))), (oN 21 (.bin .sub (.t 20) (.c (.int .i64 1)))), (oN 5 (.mov (.t 21)))] [20, 21]))
def zjk : ACode := .seq (.region [ (oN 29 (.mov (.t 3))), (oN 2 (.mov (.t 29)))] [3, 4, 5, 29]) (.ret)
def zmk : ACode := .seq (.region [ (oN 1 (.rbox (.t 0))), (oN 2 (.mknil 1))] [0, 2]) (.seq (.region [ (oN 3 (.mknil 1))] []) (.seq (.seq (.region [ (oN 6 (.fldaddr 1 1 (.t 1))), (oN 7 (.load false 1 (.t 6))), (oN 8 (.len (.t 7))), (oN 9 (.bin .eql (.t 8) (.c (.int .i64 0))))] [6, 7, 8]) (.cond (.t 9) (.seq (.region [ (oN 10 (.mov (.t 3))), (oN 2 (.mov (.t 10)))] [1, 3, 9, 10]) (.ret)) (.skip))) (.seq (.region [ (oN 11 (.load true 2 (.t 1))), (oN 12 (.build [.nilsl, .nilsl] [])), (oN 13 (.call zgA [(.t 11), (.c (.int .i64 0)), (.t 12)])), (oN 14 (.fld 1 1 false (.t 13))), (oN 4 (.mov (.t 14)))] [1, 2, 9, 11, 12, 13, 14]) (.seq (.seq (.region [ (oN 15 (.mov (.t 4))), (oN 16 (.len (.t 15))), (oN 17 (.bin .sub (.t 16) (.c (.int .i64 1)))), (oN 5 (.mov (.t 17)))] [15, 16, 17]) (.block 0 (.loop zjp))) (zjk)))))
def zjv : List ARet := [.tmp 2]
theorem zqD : zaP Tryz.prog zim (qRo [1]) = some (zmk.strip, zjv, 30) := by kernel_rfl
def zjs : ACode := .seq (.seq (.region [ (oN 14 (.mov (.t 7))), (oN 15 (.mov (.t 6))), (oN 16 (.len (.t 15))), (oN 17 (.bin .lss (.t 14) (.t 16)))] [14, 15, 16]) (.cond (.t 17) (.skip) (.exit 0))) (.seq (.block 1 (.seq (.draw ( .step (oN 20 (.mov (.t 6))) ( .step (oN 21 (.mov (.t 7))) ( .step (oN 22 (.idx 1 (.t 20) (.t 21))) ( .step (oN 23 (.load false 1 (.t 22))) ( .step (oN 24 (.bin .geq (.t 23) (.c (.int .i64 0)))) ( .step (oN 25 (.mov (.t 24))) ( .step (oG 26 25 true (.mov (.t 6))) ( .step (oG 27 25 true (.mov (.t 7))) ( .step (oG 28 25 true (.idx 1 (.t 26) (.t 27))) ( .step (oG 29 25 true (.load false 1 (.t 28))) ( .step (oG 30 25 true (.fldaddr 1 1 (.t 2))) ( .step (oG 31 25 true (.load false 1 (.t 30))) ( .step (oG 32 25 true (.len (.t 31))) ( .step (oG 33 25 true (.bin .lss (.t 29) (.t 32))) ( .step (oN 34 (.pick (.t 25) (.t 33) (.c (.bool false)))) ( .done)))))))))))))))) [17, 20, 21, 22, 23, 24, 25, 26, 27, 28, 29, 30, 31, 32, 33]) (.cond (.t 34) (.region [ (oN 35 (.mov (.t 5))), (oN 36 (.mov (.t 6))), (oN 37 (.mov (.t 7))), (oN 38 (.idx 1 (.t 36) (.t 37))), (oN 39 (.load false 1 (.t 38))), (oN 40 (.buildSl 1 1 [.int .i64 0] [(0, (.t 39))])), (oN 41 (.append 1 8 (.t 35) (.t 40))), (oN 5 (.mov (.t 41)))] [34, 35, 36, 37, 38, 39, 40, 41]) (.skip)))) (.region [ (oN 18 (.mov (.t 7))), (oN 19 (.bin .add (.t 18) (.c (.int .i64 1)))), (oN 7 (.mov (.t 19)))] [18, 19, 34]))
def zja : ACode := .seq (.region [ (oN 42 (.mov (.t 5))), (oN 4 (.mov (.t 42)))] [2, 5, 6, 7, 42]) (.ret)
def zmH : ACode := .seq (.region [ (oN 2 (.rbox (.t 0))), (oN 4 (.mknil 1))] [0, 4]) (.seq (.region [ (oN 5 (.mknil 1))] []) (.seq (.region [ (oN 8 (.fldaddr 1 1 (.t 2))), (oN 9 (.load false 1 (.t 8))), (oN 10 (.mov (.t 1))), (oN 11 (.idx 2 (.t 9) (.t 10))), (oN 12 (.load true 2 (.t 11))), (oN 13 (.call zf3 [(.t 12)])), (oN 6 (.mov (.t 13)))] [1, 8, 9, 10, 11, 12, 13]) (.seq (.seq (.region [ (oN 7 (.mov (.c (.int .i64 0))))] []) (.block 0 (.loop zjs))) (zja))))
def zmy : List ARet := [.tmp 4]
theorem zqp : zaP Tryz.prog zhL (qRo [2]) = some (zmH.strip, zmy, 43) := by kernel_rfl
def zjo : ACode := .seq (.seq (.region [ (oN 18 (.mov (.t 8))), (oN 19 (.mov (.t 7))), (oN 20 (.len (.t 19))), (oN 21 (.bin .lss (.t 18) (.t 20)))] [18, 19, 20]) (.cond (.t 21) (.skip) (.exit 0))) (.seq (.block 1 (.seq (.draw ( .step (oN 24 (.fldaddr 0 1 (.t 5))) ( .step (oN 25 (.load false 1 (.t 24))) ( .step (oN 26 (.mov (.t 7))) ( .step (oN 27 (.mov (.t 8))) ( .step (oN 28 (.idx 1 (.t 26) (.t 27))) ( .step (oN 29 (.load false 1 (.t 28))) ( .step (oN 30 (.callq zdb [(.t 25), (.t 29)])) ( .step (oN 31 (.un .not (.t 30))) ( .done))))))))) [21, 24, 25, 26, 27, 28, 29, 30]) (.cond (.t 31) (.draw ( .step (oN 32 (.load true 2 (.t 3))) ( .step (oN 33 (.mov (.t 7))) ( .step (oN 34 (.mov (.t 8))) ( .step (oN 37 (.load true 2 (.t 5))) ( .alt (oN 35 (.idx 1 (.t 33) (.t 34))) ( .step (oN 36 (.load false 1 (.t 35))) ( .alt (oN 38 (.call zgA [(.t 32), (.t 36), (.t 37)])) ( .alt ⟨none, .store 2 (.t 5) (.t 38), none⟩ ( .done) ( .stop)) ( .stop))) ( .stop)))))) [31, 32, 33, 34, 35, 36, 37, 38]) (.skip)))) (.region [ (oN 22 (.mov (.t 8))), (oN 23 (.bin .add (.t 22) (.c (.int .i64 1)))), (oN 8 (.mov (.t 23)))] [22, 23, 31]))
def zjq : ACode := .seq (.region [ (oN 39 (.fldaddr 1 1 (.t 5))), (oN 40 (.load false 1 (.t 39))), (oN 41 (.mov (.t 1))), (oN 42 (.buildSl 1 1 [.int .i64 0] [(0, (.t 41))])), (oN 43 (.append 1 8 (.t 40) (.t 42))), (oN 44 (.fldaddr 1 1 (.t 5))), ⟨none, .store 1 (.t 44) (.t 43), none⟩] [1, 3, 7, 8, 39, 40, 41, 42, 43, 44]) (.seq (.region [ (oN 45 (.load true 2 (.t 5))), ⟨none, .store 2 (.t 6) (.t 45), none⟩] [5, 45]) (.ret))
def zmh : ACode := .seq (.region [ (oN 3 (.rbox (.t 0))), (oN 5 (.box (.t 2))), (oN 6 (.alloc [.nilsl, .nilsl]))] [0, 2]) (.seq (.region [ (oN 9 (.fldaddr 0 1 (.t 5))), (oN 10 (.load false 1 (.t 9))), (oN 11 (.mov (.t 1))), (oN 12 (.buildSl 1 1 [.int .i64 0] [(0, (.t 11))])), (oN 13 (.append 1 8 (.t 10) (.t 12))), (oN 14 (.fldaddr 0 1 (.t 5))), ⟨none, .store 1 (.t 14) (.t 13), none⟩] [9, 10, 11, 12, 13, 14]) (.seq (.region [ (oN 15 (.load true 2 (.t 3))), (oN 16 (.mov (.t 1))), (oN 17 (.call zhL [(.t 15), (.t 16)])), (oN 7 (.mov (.t 17)))] [15, 16, 17]) (.seq (.seq (.region [ (oN 8 (.mov (.c (.int .i64 0))))] []) (.block 0 (.loop zjo))) (zjq))))
def zmN : List ARet := [.cell 6 true 2]
theorem zrU : zaP Tryz.prog zgA (qRoL [3] [(7, [0, 1, 2, 3, 4, 5, 7, 8, 9, 10, 11, 12, 13, 14, 15, 16, 17, 18, 19, 20, 21, 22, 23, 24, 25, 26, 27, 28, 29, 30, 31, 32, 33, 34, 35, 36, 37, 38, 39, 40, 41, 42, 43, 44, 45, 46, 47, 48, 49, 50, 51, 52, 53, 54, 55, 56, 57, 58, 59, 60, 61, 62, 63, 64, 65, 66, 67, 68, 69, 70, 71, 72, 73, 74, 75, 76, 77, 78, 79, 80, 81, 82, 83, 84, 85, 86, 87, 88, 89, 90, 91, 92, 93, 94, 95, 96, 97, 98, 99, 100, 101, 102, 103, 104, 105, 106, 107, 108, 109, 110, 111, 112, 113, 114, 115, 116, 117, 118, 119, 120, 121, 122, 123, 124, 125, 126, 127, 128, 129, 130, 131, 132, 133, 134, 135, 136, 137, 138, 139, 140, 141, 142, 143, 144, 145, 146, 147, 148, 149])]) = some (zmh.strip, zmN, 46) := by kernel_rfl
def zkj : ACode := .seq (.region [ (oN 1 (.rbox (.t 0))), (oN 2 (.mknil 1))] [0, 2]) (.seq (.seq (.region [ (oN 4 (.fldaddr 1 1 (.t 1))), (oN 5 (.load false 1 (.t 4))), (oN 6 (.len (.t 5))), (oN 7 (.bin .eql (.t 6) (.c (.int .i64 0))))] [4, 5, 6]) (.cond (.t 7) (.seq (.region [ (oN 2 (.mknil 1))] [1, 7]) (.ret)) (.skip))) (.seq (.region [ (oN 8 (.fldaddr 1 1 (.t 1))), (oN 9 (.load false 1 (.t 8))), (oN 10 (.fldaddr 1 1 (.t 1))), (oN 11 (.load false 1 (.t 10))), (oN 12 (.len (.t 11))), (oN 13 (.bin .sub (.t 12) (.c (.int .i64 1)))), (oN 14 (.idx 8 (.t 9) (.t 13))), (oN 15 (.load true 8 (.t 14))), (oN 3 (.alloc [.int .i64 0, .int .i64 0, .int .i64 0, .int .i64 0, .int .i64 0, .int .u32 0, .nilsl, .nilsl])), ⟨none, .store 8 (.t 3) (.t 15), none⟩] [1, 2, 7, 8, 9, 10, 11, 12, 13, 14, 15]) (.seq (.seq (.region [ (oN 16 (.fldaddr 0 1 (.t 3))), (oN 17 (.load false 1 (.t 16)))] [16]) (.block 0 (.seq (.region [ (oN 19 (.bin .eql (.t 17) (.c (.int .i64 6)))), (oN 18 (.mov (.t 19)))] [19]) (.cond (.t 18) (.seq (.region [ (oN 20 (.fldaddr 3 1 (.t 3))), (oN 21 (.load false 1 (.t 20))), (oN 22 (.buildSl 1 1 [.int .i64 0] [(0, (.t 21))])), (oN 2 (.mov (.t 22)))] [3, 17, 18, 20, 21, 22]) (.ret)) (.seq (.region [ (oN 24 (.bin .eql (.t 17) (.c (.int .i64 7)))), (oN 23 (.mov (.t 24)))] [18, 24]) (.cond (.t 23) (.seq (.region [ (oN 25 (.fldaddr 3 1 (.t 3))), (oN 26 (.load false 1 (.t 25))), (oN 27 (.fldaddr 4 1 (.t 3))), (oN 28 (.load false 1 (.t 27))), (oN 29 (.buildSl 1 2 [.int .i64 0] [(0, (.t 26)), (1, (.t 28))])), (oN 2 (.mov (.t 29)))] [3, 17, 23, 25, 26, 27, 28, 29]) (.ret)) (.seq (.region [ (oN 31 (.bin .eql (.t 17) (.c (.int .i64 8)))), (oN 30 (.mov (.t 31)))] [17, 23, 31]) (.cond (.t 30) (.seq (.region [ (oN 32 (.fldaddr 7 1 (.t 3))), (oN 33 (.load false 1 (.t 32))), (oN 2 (.mov (.t 33)))] [3, 30, 32, 33]) (.ret)) (.skip))))))))) (.seq (.region [ (oN 2 (.mknil 1))] [3, 30]) (.ret)))))
def zcQ : List ARet := [.tmp 2]
theorem zoH : zaP Tryz.prog zf3 (qRo [1]) = some (zkj.strip, zcQ, 34) := by kernel_rfl
def zg9 : ACode := .seq (.region [ (oN 1 (.rbox (.t 0))), (oN 2 (.mknil 1))] [0, 2]) (.seq (.region [ (oN 3 (.load true 2 (.t 1))), (oN 4 (.call zep [(.t 3)])), (oN 5 (.call zct [(.t 4), (.c (.int .i64 0))])), (oN 2 (.mov (.t 5)))] [1, 3, 4, 5]) (.ret))
def zex : List ARet := [.tmp 2]
theorem zlv : zaP Tryz.prog zbu (qRo [1]) = some (zg9.strip, zex, 6) := by kernel_rfl
def zdJ : ACode := .seq (.region [ (oN 14 (.bin .lss (.t 13) (.t 12)))] []) (.seq (.cond (.t 14) (.skip) (.exit 0)) (.seq (.block 1 (.seq (.region [ (oN 15 (.idx 1 (.t 11) (.t 13))), (oN 16 (.load false 1 (.t 15))), (oN 5 (.mov (.t 16)))] [14, 15, 16]) (.region [ (oN 17 (.mov (.t 3))), (oN 18 (.mov (.t 5))), (oN 19 (.idx 1 (.t 17) (.t 18))), ⟨none, .store 1 (.t 19) (.c (.bool true)), none⟩] [5, 17, 18, 19]))) (.region [ (oN 20 (.bin .add (.t 13) (.c (.int .i64 1)))), (oN 13 (.mov (.t 20)))] [20])))
def zdN : ACode := .seq (.region [ (oN 21 (.mov (.t 3))), (oN 2 (.mov (.t 21)))] [3, 11, 12, 13, 21]) (.ret)
def zeN : ACode := .seq (.region [ (oN 1 (.rbox (.t 0))), (oN 2 (.mknil 1))] [0, 2]) (.seq (.region [ (oN 6 (.fldaddr 1 1 (.t 1))), (oN 7 (.load false 1 (.t 6))), (oN 8 (.len (.t 7))), (oN 9 (.mksl 1 1 [.bool false] (.t 8) (.t 8))), (oN 3 (.mov (.t 9)))] [6, 7, 8, 9]) (.seq (.seq (.region [ (oN 10 (.load true 2 (.t 1))), (oN 11 (.call zbu [(.t 10)])), (oN 12 (.len (.t 11))), (oN 13 (.mov (.c (.int .i64 0))))] [1, 10]) (.block 0 (.loop zdJ))) (zdN)))
def zeG : List ARet := [.tmp 2]
theorem ziT : zaP Tryz.prog zcn (qRo [1]) = some (zeN.strip, zeG, 22) := by kernel_rfl
def zgs : ACode := .seq (.region [ (oN 13 (.bin .lss (.t 12) (.t 11)))] []) (.seq (.cond (.t 13) (.skip) (.exit 0)) (.seq (.block 1 (.seq (.region [ (oN 14 (.mov (.t 12))), (oN 4 (.mov (.t 14)))] [13, 14]) (.region [ (oN 15 (.mov (.t 3))), (oN 16 (.mov (.t 4))), (oN 17 (.load true 2 (.t 1))), (oN 18 (.mov (.t 4))), (oN 19 (.call zdk [(.t 17), (.t 18)])), (oN 20 (.idx 1 (.t 15) (.t 16))), ⟨none, .store 1 (.t 20) (.t 19), none⟩] [4, 15, 16, 17, 18, 19, 20]))) (.region [ (oN 21 (.bin .add (.t 12) (.c (.int .i64 1)))), (oN 12 (.mov (.t 21)))] [21])))
def zgF : ACode := .seq (.region [ (oN 22 (.mov (.t 3))), (oN 2 (.mov (.t 22)))] [1, 3, 11, 12, 22]) (.ret)
def ziL : ACode := .seq (.region [ (oN 1 (.rbox (.t 0))), (oN 2 (.mknil 1))] [0, 2]) (.seq (.region [ (oN 5 (.fldaddr 1 1 (.t 1))), (oN 6 (.load false 1 (.t 5))), (oN 7 (.len (.t 6))), (oN 8 (.mksl 1 24 [.nilsl] (.t 7) (.t 7))), (oN 3 (.mov (.t 8)))] [5, 6, 7, 8]) (.seq (.seq (.region [ (oN 9 (.fldaddr 1 1 (.t 1))), (oN 10 (.load false 1 (.t 9))), (oN 11 (.len (.t 10))), (oN 12 (.mov (.c (.int .i64 0))))] [9, 10]) (.block 0 (.loop zgs))) (zgF)))
def ziF : List ARet := [.tmp 2]
theorem zm5 : zaP Tryz.prog zep (qRo [1]) = some (ziL.strip, ziF, 23) := by kernel_rfl
def zeq : ACode := .seq (.region [ (oN 2 (.rbox (.t 0))), (oN 4 (.mknil 1))] [0, 4]) (.seq (.seq (.region [ (oN 8 (.mov (.t 1))), (oN 9 (.load false 1 (.t 2))), (oN 10 (.len (.t 9))), (oN 11 (.bin .geq (.t 8) (.t 10)))] [8, 9, 10]) (.cond (.t 11) (.seq (.region [ (oN 4 (.mknil 1))] [1, 2, 11]) (.ret)) (.skip))) (.seq (.region [ (oN 12 (.load false 1 (.t 2))), (oN 13 (.len (.t 12))), (oN 14 (.mksl 1 1 [.bool false] (.t 13) (.t 13))), (oN 5 (.alloc [.nilsl])), ⟨none, .store 1 (.t 5) (.t 14), none⟩] [4, 11, 12, 13, 14]) (.seq (.region [ (oN 6 (.alloc [.nilsl]))] []) (.seq (.region [ (oN 7 (.alloc [.nilfn]))] []) (.seq (.region [ (oN 15 (.mkfn (.func zb6) [(.t 5), (.t 2), (.t 7), (.t 6)])), ⟨none, .store 1 (.t 7) (.t 15), none⟩] [2, 5, 15]) (.seq (.region [ (oN 16 (.load false 1 (.t 7))), (oN 17 (.mov (.t 1))), (oN 18 (.callv (.t 16) [(.t 17)]))] [1, 7, 16, 17, 18]) (.seq (.region [ (oN 19 (.load false 1 (.t 6))), (oN 20 (.call zbR [(.t 19)]))] [19, 20]) (.seq (.region [ (oN 21 (.load false 1 (.t 6))), (oN 4 (.mov (.t 21)))] [6, 21]) (.ret)))))))))
def zef : List ARet := [.tmp 4]
theorem zgZ : zaP Tryz.prog zct (qRo [2]) = some (zeq.strip, zef, 22) := by kernel_rfl
def zfb : ACode := .seq (.region [ (oN 42 (.mov (.t 7))), (oN 43 (.mkfn (.func zb8) [(.t 2)])), (oN 44 (.call zbo [(.t 42), (.t 43)])), (oN 4 (.mov (.t 44)))] [2, 6, 7, 37, 42, 43, 44]) (.ret)
def zg7 : ACode := .seq (.region [ (oN 2 (.rbox (.t 0))), (oN 4 (.mknil 1))] [0, 4]) (.seq (.region [ (oN 8 (.fldaddr 1 1 (.t 2))), (oN 9 (.load false 1 (.t 8))), (oN 10 (.mov (.t 1))), (oN 11 (.idx 2 (.t 9) (.t 10))), (oN 12 (.fldaddr 1 1 (.t 11))), (oN 13 (.load false 1 (.t 12))), (oN 5 (.mov (.t 13)))] [1, 8, 9, 10, 11, 12, 13]) (.seq (.seq (.region [ (oN 14 (.mov (.t 5))), (oN 15 (.len (.t 14))), (oN 16 (.bin .eql (.t 15) (.c (.int .i64 0))))] [14, 15]) (.cond (.t 16) (.seq (.region [ (oN 4 (.mknil 1))] [2, 5, 16]) (.ret)) (.skip))) (.seq (.region [ (oN 17 (.mov (.t 5))), (oN 18 (.mov (.t 5))), (oN 19 (.len (.t 18))), (oN 20 (.bin .sub (.t 19) (.c (.int .i64 1)))), (oN 21 (.idx 8 (.t 17) (.t 20))), (oN 22 (.load true 8 (.t 21))), (oN 6 (.alloc [.int .i64 0, .int .i64 0, .int .i64 0, .int .i64 0, .int .i64 0, .int .u32 0, .nilsl, .nilsl])), ⟨none, .store 8 (.t 6) (.t 22), none⟩] [4, 5, 16, 17, 18, 19, 20, 21, 22]) (.seq (.region [ (oN 7 (.mknil 1))] []) (.join (.seq (.region [ (oN 23 (.fldaddr 0 1 (.t 6))), (oN 24 (.load false 1 (.t 23)))] [23]) (.block 0 (.seq (.region [ (oN 26 (.bin .eql (.t 24) (.c (.int .i64 6)))), (oN 25 (.mov (.t 26)))] [26]) (.cond (.t 25) (.region [ (oN 27 (.fldaddr 3 1 (.t 6))), (oN 28 (.load false 1 (.t 27))), (oN 29 (.buildSl 1 1 [.int .i64 0] [(0, (.t 28))])), (oN 7 (.mov (.t 29)))] [6, 24, 25, 27, 28, 29]) (.seq (.region [ (oN 31 (.bin .eql (.t 24) (.c (.int .i64 7)))), (oN 30 (.mov (.t 31)))] [25, 31]) (.cond (.t 30) (.region [ (oN 32 (.fldaddr 3 1 (.t 6))), (oN 33 (.load false 1 (.t 32))), (oN 34 (.fldaddr 4 1 (.t 6))), (oN 35 (.load false 1 (.t 34))), (oN 36 (.buildSl 1 2 [.int .i64 0] [(0, (.t 33)), (1, (.t 35))])), (oN 7 (.mov (.t 36)))] [6, 24, 30, 32, 33, 34, 35, 36]) (.seq (.region [ (oN 38 (.bin .eql (.t 24) (.c (.int .i64 8)))), (oN 37 (.mov (.t 38)))] [24, 30, 38]) (.cond (.t 37) (.region [ (oN 39 (.fldaddr 7 1 (.t 6))), (oN 40 (.load false 1 (.t 39))), (oN 41 (.call zaz [(.t 40)])), (oN 7 (.mov (.t 41)))] [6, 37, 39, 40, 41]) (.skip))))))))) (zfb))))))
def zez : List ARet := [.tmp 4]
theorem zkY : zaP Tryz.prog zdk (qRo [2]) = some (zg7.strip, zez, 45) := by kernel_rfl
def zes : ACode := .seq (.region [ (oN 17 (.bin .lss (.t 16) (.t 15)))] []) (.seq (.cond (.t 17) (.skip) (.exit 0)) (.seq (.block 1 (.seq (.region [ (oN 18 (.idx 1 (.t 14) (.t 16))), (oN 19 (.load false 1 (.t 18))), (oN 7 (.mov (.t 19)))] [17, 18, 19]) (.seq (.region [ (oN 20 (.load false 1 (.t 1))), (oN 21 (.mov (.t 7))), (oN 22 (.idx 1 (.t 20) (.t 21))), (oN 23 (.load false 1 (.t 22))), (oN 24 (.un .not (.t 23)))] [20, 21, 22, 23]) (.cond (.t 24) (.region [ (oN 25 (.load false 1 (.t 3))), (oN 26 (.mov (.t 7))), (oN 27 (.callv (.t 25) [(.t 26)]))] [7, 24, 25, 26, 27]) (.skip))))) (.region [ (oN 28 (.bin .add (.t 16) (.c (.int .i64 1)))), (oN 16 (.mov (.t 28)))] [7, 24, 28])))
def zeB : ACode := .region [ (oN 29 (.load false 1 (.t 4))), (oN 30 (.mov (.t 0))), (oN 31 (.buildSl 1 1 [.int .i64 0] [(0, (.t 30))])), (oN 32 (.append 1 8 (.t 29) (.t 31))), ⟨none, .store 1 (.t 4) (.t 32), none⟩] [0, 1, 3, 4, 14, 15, 16, 29, 30, 31, 32]
def zfG : ACode := .seq (.region [ (oN 8 (.load false 1 (.t 1))), (oN 9 (.mov (.t 0))), (oN 10 (.idx 1 (.t 8) (.t 9))), ⟨none, .store 1 (.t 10) (.c (.bool true)), none⟩] [8, 9, 10]) (.seq (.seq (.region [ (oN 11 (.load false 1 (.t 2))), (oN 12 (.mov (.t 0))), (oN 13 (.idx 1 (.t 11) (.t 12))), (oN 14 (.load false 1 (.t 13))), (oN 15 (.len (.t 14))), (oN 16 (.mov (.c (.int .i64 0))))] [2, 11, 12, 13]) (.block 0 (.loop zes))) (zeB))
def zfP : List ARet := []
theorem zj8 : zaP Tryz.prog zb6 (qRo []) = some (zfG.strip, zfP, 33) := by kernel_rfl
def zcV : ACode := .seq (.seq (.region [ (oN 7 (.mov (.t 2))), (oN 8 (.mov (.t 3))), (oN 9 (.bin .lss (.t 7) (.t 8)))] [7, 8]) (.cond (.t 9) (.skip) (.exit 0))) (.seq (.block 1 (.draw ( .step (oN 14 (.mov (.t 0))) ( .step (oN 15 (.mov (.t 2))) ( .step (oN 16 (.mov (.t 0))) ( .step (oN 17 (.mov (.t 3))) ( .step (oN 18 (.mov (.t 0))) ( .step (oN 19 (.mov (.t 3))) ( .step (oN 20 (.idx 1 (.t 18) (.t 19))) ( .step (oN 21 (.load false 1 (.t 20))) ( .step (oN 22 (.mov (.t 0))) ( .step (oN 23 (.mov (.t 2))) ( .alt (oN 24 (.idx 1 (.t 22) (.t 23))) ( .step (oN 25 (.load false 1 (.t 24))) ( .step (oN 26 (.idx 1 (.t 14) (.t 15))) ( .alt ⟨none, .store 1 (.t 26) (.t 21), none⟩ ( .step (oN 27 (.idx 1 (.t 16) (.t 17))) ( .alt ⟨none, .store 1 (.t 27) (.t 25), none⟩ ( .done) ( .stop))) ( .stop)))) ( .stop)))))))))))) [9, 14, 15, 16, 17, 18, 19, 20, 21, 22, 23, 24, 25, 26, 27])) (.region [ (oN 10 (.mov (.t 2))), (oN 11 (.bin .add (.t 10) (.c (.int .i64 1)))), (oN 12 (.mov (.t 3))), (oN 13 (.bin .sub (.t 12) (.c (.int .i64 1)))), (oN 2 (.mov (.t 11))), (oN 3 (.mov (.t 13)))] [10, 11, 12, 13]))
def zdI : ACode := .seq (.region [ (oN 4 (.mov (.t 0))), (oN 5 (.len (.t 4))), (oN 6 (.bin .sub (.t 5) (.c (.int .i64 1)))), (oN 2 (.mov (.c (.int .i64 0)))), (oN 3 (.mov (.t 6)))] [4, 5, 6]) (.block 0 (.loop zcV))
def zdH : List ARet := []
theorem zhi : zaP Tryz.prog zbR (qRo []) = some (zdI.strip, zdH, 28) := by kernel_rfl
def zcs : ACode := .seq (.seq (.region [ (oN 16 (.mov (.t 6))), (oN 17 (.mov (.t 0))), (oN 18 (.len (.t 17))), (oN 19 (.bin .lss (.t 16) (.t 18)))] [16, 17, 18]) (.cond (.t 19) (.skip) (.exit 0))) (.seq (.block 1 (.seq (.region [ (oN 22 (.mov (.t 0))), (oN 23 (.mov (.t 6))), (oN 24 (.idx 1 (.t 22) (.t 23))), (oN 25 (.load false 1 (.t 24))), (oN 7 (.mov (.t 25)))] [19, 22, 23, 24, 25]) (.seq (.region [ (oN 26 (.mov (.t 1))), (oN 27 (.mov (.t 7))), (oN 28 (.callv (.t 26) [(.t 27)])), (oN 29 (.un .not (.t 28)))] [26, 27, 28]) (.cond (.t 29) (.seq (.region [ (oN 30 (.mov (.t 0))), (oN 31 (.mov (.t 5))), (oN 32 (.mov (.t 7))), (oN 33 (.idx 1 (.t 30) (.t 31))), ⟨none, .store 1 (.t 33) (.t 32), none⟩] [7, 29, 30, 31, 32, 33]) (.region [ (oN 34 (.mov (.t 5))), (oN 35 (.bin .add (.t 34) (.c (.int .i64 1)))), (oN 5 (.mov (.t 35)))] [34, 35])) (.skip))))) (.region [ (oN 20 (.mov (.t 6))), (oN 21 (.bin .add (.t 20) (.c (.int .i64 1)))), (oN 6 (.mov (.t 21)))] [7, 20, 21, 29]))
def zcw : ACode := .seq (.region [ (oN 36 (.mov (.t 0))), (oN 37 (.mov (.t 5))), (oN 38 (.slice 1 (.t 36) (some (.t 37)) none)), ⟨none, .clear 1 [.int .i64 0] (.t 38), none⟩] [1, 6, 36, 37, 38]) (.seq (.region [ (oN 39 (.mov (.t 0))), (oN 40 (.mov (.t 5))), (oN 41 (.slice 1 (.t 39) none (some (.t 40)))), (oN 4 (.mov (.t 41)))] [0, 5, 39, 40, 41]) (.ret))
def zc0 : ACode := .seq (.region [ (oN 4 (.mknil 1))] [4]) (.seq (.region [ (oN 8 (.mov (.t 0))), (oN 9 (.mov (.t 1))), (oN 10 (.call zaV [(.t 8), (.t 9)])), (oN 5 (.mov (.t 10)))] [8, 9, 10]) (.seq (.seq (.region [ (oN 11 (.mov (.t 5))), (oN 12 (.bin .eql (.t 11) (.c (.int .i64 (-1)))))] [11]) (.cond (.t 12) (.seq (.region [ (oN 13 (.mov (.t 0))), (oN 4 (.mov (.t 13)))] [0, 1, 5, 12, 13]) (.ret)) (.skip))) (.seq (.seq (.region [ (oN 14 (.mov (.t 5))), (oN 15 (.bin .add (.t 14) (.c (.int .i64 1)))), (oN 6 (.mov (.t 15)))] [4, 12, 14, 15]) (.block 0 (.loop zcs))) (zcw))))
def zb0 : List ARet := [.tmp 4]
theorem zfY : zaP Tryz.prog zbo (qRo []) = some (zc0.strip, zb0, 42) := by kernel_rfl
def zfM : ACode := .seq (.region [ (oN 3 (.mov (.c (.bool false))))] [3]) (.seq (.region [ (oN 4 (.mov (.t 0))), (oN 5 (.bin .lss (.t 4) (.c (.int .i64 0)))), (oN 6 (.mov (.t 5))), (oG 7 6 false (.mov (.t 0))), (oG 8 6 false (.fldaddr 1 1 (.t 1))), (oG 9 6 false (.load false 1 (.t 8))), (oG 10 6 false (.len (.t 9))), (oG 11 6 false (.bin .geq (.t 7) (.t 10))), (oN 12 (.pick (.t 6) (.c (.bool true)) (.t 11))), (oN 3 (.mov (.t 12)))] [0, 1, 4, 5, 6, 7, 8, 9, 10, 11, 12]) (.ret))
def zdz : List ARet := [.tmp 3]
theorem zjV : zaP Tryz.prog zb8 (qRo []) = some (zfM.strip, zdz, 13) := by kernel_rfl
end Go.Ab
namespace Go.Ab.Dm
open Go.RowKit Go.Proofs
theorem zao {α β : Type} {f : α → β} {l : List α} {i : Nat} {d : β} (h : i < l.length) : (l.map f).getD i d = f l[i] := zeb (List.getElem?_eq_getElem h)
theorem zf7 (l : List Int) (x : Int) : zaj Tryz.prog zdb [zaa l, .int .i64 x] (· = .bool (decide (x ∈ l))) := by
  refine fn_x zpe rfl ?_
  unfold zl7
  simp only [evD, Nat.reduceBEq, Nat.reduceAdd, Nat.reduceLeDiff]
  refine zam (fun i : Nat => ([(0, zaa l), (1, .int .i64 x), (5, .int .i64 i)], [])) 0 (fun i => i ≤ l.length ∧ x ∉ l.take i) (fun i => l.length - i) 0 ⟨Nat.zero_le _, by simp⟩ (Ent.keep rfl fin5) ?_
  intro i ⟨h1, h2⟩ wf
  unfold zhR
  simp only [evD, Nat.reduceBEq, Nat.reduceAdd, Nat.reduceLeDiff, zaa]
  refine fun hbig => zap (fun h => ?_) (fun h => ?_)
  · have hi : i < l.length := by simpa using h
    simp only [evD, Nat.reduceBEq, Nat.reduceAdd, Nat.reduceLeDiff, zao hi]
    refine ⟨by omega, fun hr => zap (fun h => ?_) (fun h => ?_)⟩
    · have hx : l[i] = x := by simpa using h
      simp only [evD, Nat.reduceBEq, Nat.reduceAdd, Nat.reduceLeDiff, zhD]
      refine ⟨_, .bool _ _, ?_⟩
      have : x ∈ l := by rw [← hx]; exact List.getElem_mem hi
      simp [this]
    · have hx : l[i] ≠ x := by simpa using h
      simp only [evD, Nat.reduceBEq, Nat.reduceAdd, Nat.reduceLeDiff]
      refine ⟨i + 1, ⟨hi, ?_⟩, by omega, ?_⟩
      · rw [List.take_add_one, List.getElem?_eq_getElem hi]
        simp only [List.mem_append, not_or, Option.toList, List.mem_singleton]
        exact ⟨h2, fun e => hx e.symm⟩
      · unfold big at hbig
        rw [zmR (by omega) (by omega)]
        exact Ent.keep rfl fin5
  · have hi : ¬ i < l.length := by simpa using h
    unfold zif
    simp only [evD, Nat.reduceBEq, Nat.reduceAdd, Nat.reduceLeDiff, zhD]
    refine ⟨_, .bool _ _, ?_⟩
    have : l.take i = l := List.take_of_length_le (by omega)
    rw [this] at h2
    simp [h2]
theorem zoR (b : Blk) : zaj Tryz.prog zf3 [.agg b.cells] (· = zaa b.targets) := by
  refine fn_x zoH rfl ?_
  unfold zkj
  have hB := hBig
  (repeat first | simp (disch := try exact dis1) only [evD, Nat.reduceBEq, Nat.reduceAdd, Nat.reduceLeDiff, Blk.cells] | with_reducible intro _ | ((with_reducible apply And.intro); omega))
  (refine zap (fun h => ?_) (fun h => ?_)) <;> (try simp only [dcd] at h)
  · have h0 : b.stmts = [] := List.eq_nil_of_length_eq_zero (by omega)
    (repeat first | simp (disch := try exact dis1) only [evD, Nat.reduceBEq, Nat.reduceAdd, Nat.reduceLeDiff, zcQ] | with_reducible intro _ | ((with_reducible apply And.intro); omega))
    refine ⟨_, ?_, rfl⟩
    have e : b.targets = [] := by simp [Blk.targets, h0]
    rw [e]
    exact zcd (l := []) trivial rfl (Nat.zero_le _)
  · have h0 : 0 < b.stmts.length := by omega
    obtain ⟨s, hs⟩ : ∃ s, b.stmts[b.stmts.length - 1]? = some s := ⟨_, List.getElem?_eq_getElem (by omega)⟩
    have ht : b.targets = if s.op = 6 then [s.next] else if s.op = 7 then [s.next, s.els] else if s.op = 8 then s.cases else [] := by
      have : b.stmts.getLast? = some s := by rw [List.getLast?_eq_getElem?, hs]
      simp [Blk.targets, this]
    have e : (b.stmts.map Stm.cells).getD ((b.stmts.length : Int) - 1).toNat [] = s.cells := by
      rw [show ((b.stmts.length : Int) - 1).toNat = b.stmts.length - 1 by omega]
      exact zeb hs
    (repeat first | simp (disch := try exact dis1) only [evD, Nat.reduceBEq, Nat.reduceAdd, Nat.reduceLeDiff, e, Stm.cells] | with_reducible intro _ | ((with_reducible apply And.intro); omega))
    (refine zap (fun h => ?_) (fun h => ?_)) <;> (try simp only [dcd] at h)
    · rw [if_pos h] at ht
      (repeat first | simp (disch := try exact dis1) only [evD, Nat.reduceBEq, Nat.reduceAdd, Nat.reduceLeDiff, zaa, zcQ] | with_reducible intro _ | ((with_reducible apply And.intro); omega))
      refine ⟨_, ?_, rfl⟩
      rw [ht]
      exact zcd (l := [s.next]) trivial rfl (by simp [big])
    · rw [if_neg h] at ht
      (repeat first | simp (disch := try exact dis1) only [evD, Nat.reduceBEq, Nat.reduceAdd, Nat.reduceLeDiff] | with_reducible intro _ | ((with_reducible apply And.intro); omega))
      (refine zap (fun h => ?_) (fun h => ?_)) <;> (try simp only [dcd] at h)
      · rw [if_pos h] at ht
        (repeat first | simp (disch := try exact dis1) only [evD, Nat.reduceBEq, Nat.reduceAdd, Nat.reduceLeDiff, zaa, zcQ] | with_reducible intro _ | ((with_reducible apply And.intro); omega))
        refine ⟨_, ?_, rfl⟩
        rw [ht]
        exact zcd (l := [s.next, s.els]) trivial rfl (by simp [big])
      · rw [if_neg h] at ht
        (repeat first | simp (disch := try exact dis1) only [evD, Nat.reduceBEq, Nat.reduceAdd, Nat.reduceLeDiff] | with_reducible intro _ | ((with_reducible apply And.intro); omega))
        (refine zap (fun h => ?_) (fun h => ?_)) <;> (try simp only [dcd] at h)
        · rw [if_pos h] at ht
          (repeat first | simp (disch := try exact dis1) only [evD, Nat.reduceBEq, Nat.reduceAdd, Nat.reduceLeDiff, zaa, zcQ] | with_reducible intro _ | ((with_reducible apply And.intro); omega))
          refine ⟨_, ?_, rfl⟩
          rw [ht]
          exact .sl _ _ _ _
        · rw [if_neg h] at ht
          (repeat first | simp (disch := try exact dis1) only [evD, Nat.reduceBEq, Nat.reduceAdd, Nat.reduceLeDiff, zcQ] | with_reducible intro _ | ((with_reducible apply And.intro); omega))
          refine ⟨_, ?_, rfl⟩
          rw [ht]
          exact zcd (l := []) trivial rfl (Nat.zero_le _)
def zcN (n : Nat) (x : Int) : Bool := decide (0 ≤ x) && decide (x < n)
def _root_.Go.Ab.Gr.E (g : Gr) : Adj := g.blocks.map fun b => (b.targets.filter (zcN g.blocks.length)).map Int.toNat
def _root_.Go.Ab.Gr.small (g : Gr) : Prop := g.blocks.length ≤ 1000 ∧ ∀ b ∈ g.blocks, b.targets.length ≤ 1000
theorem _root_.Go.Ab.Gr.E_len (g : Gr) : g.E.length = g.blocks.length := by simp [Gr.E]
theorem _root_.Go.Ab.Gr.E_ok (g : Gr) : g.E.ok := by
  intro k n hn
  unfold suc Gr.E at hn
  rw [List.getD_eq_getElem?_getD, List.getElem?_map] at hn
  cases hb : g.blocks[k]? with
  | none => rw [hb] at hn; simp at hn
  | some b =>
    rw [hb] at hn
    simp only [Option.map_some, Option.getD_some, List.mem_map, List.mem_filter, zcN, Bool.and_eq_true, decide_eq_true_eq] at hn
    obtain ⟨x, ⟨_, h1, h2⟩, rfl⟩ := hn
    rw [g.E_len]
    omega
theorem encInts_nats (l : List Nat) : zaa (l.map fun (n : Nat) => (n : Int)) = zbk l := by
  simp [zaa, zbk, encL]
  rfl
theorem zcP {α : Type} {p : α → Bool} {l : List α} {i : Nat} (h : i < l.length) : (l.take (i + 1)).filter p = (l.take i).filter p ++ if p l[i] then [l[i]] else [] := by
  rw [List.take_add_one, List.getElem?_eq_getElem h, List.filter_append]
  cases hp : p l[i] <;> simp [List.filter, hp]
theorem zoD {α : Type} (p : α → Bool) (l : List α) (i : Nat) : ((l.take i).filter p).length ≤ i := Nat.le_trans (List.length_filter_le _ _) (List.length_take_le _ _)
theorem zrb (g : Gr) (hg : g.small) (k : Nat) (hk : k < g.blocks.length) : zaj Tryz.prog zhL [.agg g.cells, .int .i64 k] (· = zbk (suc g.E k)) := by
  have he : zbk (suc g.E k) = zaa (g.blocks[k].targets.filter (zcN g.blocks.length)) := by
    rw [← encInts_nats]
    congr 1
    simp only [suc, Gr.E, zao hk, List.map_map]
    conv => rhs; rw [← List.map_id (List.filter _ _)]
    refine List.map_congr_left fun x hx => ?_
    simp only [List.mem_filter, zcN, Bool.and_eq_true, decide_eq_true_eq] at hx
    simp only [Function.comp, id]
    omega
  rw [he]
  refine fn_x zqp rfl ?_
  unfold zmH
  have hB := hBig
  have e : (g.blocks.map Blk.cells).getD k [] = g.blocks[k].cells := zeb (List.getElem?_eq_getElem hk)
  (repeat first | simp (disch := try exact dis1) only [evD, Nat.reduceBEq, Nat.reduceAdd, Nat.reduceLeDiff, Gr.cells, e, Blk.two] | with_reducible intro _ | ((with_reducible apply And.intro); omega))
  refine zae (zah (zoR _) rfl) ?_
  have hsm := hg.2 _ (List.getElem_mem hk)
  generalize g.blocks[k].targets = l at hsm ⊢
  (repeat first | simp (disch := try exact dis1) only [evD, Nat.reduceBEq, Nat.reduceAdd, Nat.reduceLeDiff] | with_reducible intro _ | ((with_reducible apply And.intro); omega))
  refine zam (fun i : Nat => ([(2, encP 2 g.cells), (5, .own 0 0 0 0 ((l.take i).filter (zcN g.blocks.length)).length), (6, zaa l), (7, .int .i64 i)], [(0, .row 1 (((l.take i).filter (zcN g.blocks.length)).map cI) 0)])) 1 (fun i => i ≤ l.length) (fun i => l.length - i) 0 (Nat.zero_le _) (Ent.tab [(0, 1, 0)] [] rfl (by (try simp only [evWB, Nat.reduceBEq, Nat.reduceAdd, Nat.reduceSub, Nat.reduceLeDiff, Nat.reduceLT, Gr.cells]) <;> exact fin4) (by (try simp only [evWB, Nat.reduceBEq, Nat.reduceAdd, Nat.reduceSub, Nat.reduceLeDiff, Nat.reduceLT, Gr.cells]) <;> exact fin4)) ?_
  intro i hi wf
  unfold zjs
  (repeat first | simp (disch := try exact dis1) only [evD, Nat.reduceBEq, Nat.reduceAdd, Nat.reduceLeDiff, zaa, encP, Gr.cells] | with_reducible intro _ | ((with_reducible apply And.intro); omega))
  (refine zap (fun h => ?_) (fun h => ?_)) <;> (try simp only [dcd] at h)
  · have hi' : i < l.length := by omega
    have hs : (l.take (i + 1)).filter (zcN g.blocks.length) = (l.take i).filter (zcN g.blocks.length) ++ if zcN g.blocks.length l[i] then [l[i]] else [] := zcP hi'
    (repeat first | simp (disch := try exact dis1) only [evD, Nat.reduceBEq, Nat.reduceAdd, Nat.reduceLeDiff, zao hi'] | with_reducible intro _ | ((with_reducible apply And.intro); omega))
    generalize hc : decide (0 ≤ l[i]) = hcb; cases hcb <;> simp only [decide_eq_true_eq, decide_eq_false_iff_not, ne_eq, Classical.not_not] at hc
    · rw [if_neg (by simp [zcN, hc])] at hs
      (repeat first | simp (disch := try exact dis1) only [evD, Nat.reduceBEq, Nat.reduceAdd, Nat.reduceLeDiff] | with_reducible intro _ | ((with_reducible apply And.intro); omega))
      exact ⟨i + 1, by omega, by omega, (Ent.tab [(0, 0, 0)] [] rfl (by (try simp only [evWB, Nat.reduceBEq, Nat.reduceAdd, Nat.reduceSub, Nat.reduceLeDiff, Nat.reduceLT, Gr.cells, hs, List.append_nil]) <;> exact fin4) (by (try simp only [evWB, Nat.reduceBEq, Nat.reduceAdd, Nat.reduceSub, Nat.reduceLeDiff, Nat.reduceLT, Gr.cells, hs, List.append_nil]) <;> exact fin4))⟩
    · (repeat first | simp (disch := try exact dis1) only [evD, Nat.reduceBEq, Nat.reduceAdd, Nat.reduceLeDiff, zao hi'] | with_reducible intro _ | ((with_reducible apply And.intro); omega))
      (refine zap (fun hd => ?_) (fun hd => ?_)) <;> (try simp only [dcd] at hd)
      · rw [if_pos (by simp [zcN, hc, hd])] at hs
        have hf := zoD (zcN g.blocks.length) l i
        (repeat first | simp (disch := try exact dis1) only [evD, Nat.reduceBEq, Nat.reduceAdd, Nat.reduceLeDiff, zao hi'] | with_reducible intro _ | ((with_reducible apply And.intro); omega))
        exact ⟨i + 1, by omega, by omega, (Ent.tab [(0, 0, 1)] [] rfl (by (try simp only [evWB, Nat.reduceBEq, Nat.reduceAdd, Nat.reduceSub, Nat.reduceLeDiff, Nat.reduceLT, Gr.cells, hs, List.append_nil]) <;> exact fin4) (by (try simp only [evWB, Nat.reduceBEq, Nat.reduceAdd, Nat.reduceSub, Nat.reduceLeDiff, Nat.reduceLT, Gr.cells, hs, List.append_nil]) <;> exact fin4))⟩
      · rw [if_neg (by simp [zcN, hc, hd])] at hs
        (repeat first | simp (disch := try exact dis1) only [evD, Nat.reduceBEq, Nat.reduceAdd, Nat.reduceLeDiff] | with_reducible intro _ | ((with_reducible apply And.intro); omega))
        exact ⟨i + 1, by omega, by omega, (Ent.tab [(0, 0, 0)] [] rfl (by (try simp only [evWB, Nat.reduceBEq, Nat.reduceAdd, Nat.reduceSub, Nat.reduceLeDiff, Nat.reduceLT, Gr.cells, hs, List.append_nil]) <;> exact fin4) (by (try simp only [evWB, Nat.reduceBEq, Nat.reduceAdd, Nat.reduceSub, Nat.reduceLeDiff, Nat.reduceLT, Gr.cells, hs, List.append_nil]) <;> exact fin4))⟩
  · unfold zja
    (repeat first | simp (disch := try exact dis1) only [evD, Nat.reduceBEq, Nat.reduceAdd, Nat.reduceLeDiff, zmy] | with_reducible intro _ | ((with_reducible apply And.intro); omega))
    refine ⟨_, ?_, rfl⟩
    rw [List.take_of_length_le (show l.length ≤ i by omega)]
    have := List.length_filter_le (zcN g.blocks.length) l
    exact zcd (l := l.filter (zcN g.blocks.length)) trivial rfl (by omega)
theorem zyO (l : List Nat) (x : Int) : (x ∈ l.map fun (n : Nat) => (n : Int)) ↔ ∃ n ∈ l, (n : Int) = x := by simp
theorem zxd (l : List Nat) (x : Nat) : ((x : Int) ∈ l.map fun (n : Nat) => (n : Int)) ↔ x ∈ l := by
  rw [zyO]
  exact ⟨fun ⟨n, h, e⟩ => by rw [show x = n by omega]; exact h, fun h => ⟨x, h, rfl⟩⟩
theorem zsw (l : List Nat) (x : Nat) : zaj Tryz.prog zdb [zbk l, .int .i64 x] (· = .bool (decide (x ∈ l))) := by
  have := zf7 (l.map fun (n : Nat) => (n : Int)) x
  rw [encInts_nats] at this
  simpa only [zxd] using this
theorem zzh {H : AH} {nx r q g : Nat} {l : List Nat} {x : Nat} (hg : H.get r q = some (.row 1 (l.map cN) g)) (hb : l.length ≤ big) :
    zdi Tryz.prog zdb [.own r q g 0 l.length, .int .i64 x] H nx (.bool (decide (x ∈ l))) :=
  zaY (D := fun a b => a = r ∧ b = q) (zsw l x) (.cons (zjc ⟨rfl, rfl⟩ hg hb) (.cons (.int _ _ _) .nil)) (.inl rfl)
structure NdL (n : Nat) (l : List Nat) : Prop where
  nd : l.Nodup
  lt : ∀ b ∈ l, b < n
theorem NdL.len {n : Nat} {l : List Nat} (h : NdL n l) : l.length ≤ n := by
  obtain ⟨h1, h2⟩ := h
  induction n generalizing l with
  | zero =>
    cases l with
    | nil => exact Nat.le_refl _
    | cons b l => exact absurd (h2 b (by simp)) (by omega)
  | succ n ih =>
    by_cases hn : n ∈ l
    · have := ih (h1.erase n) (fun b hb => by
        have h3 := h2 b (List.mem_of_mem_erase hb)
        have h4 := (h1.mem_erase_iff.1 hb).1
        omega)
      rw [List.length_erase_of_mem hn] at this
      omega
    · have := ih h1 (fun b hb => by
        have h3 := h2 b hb
        have h4 : b ≠ n := fun e => hn (e ▸ hb)
        omega)
      omega
theorem NdL.add {n : Nat} {l : List Nat} (h : NdL n l) {x : Int} {c : Nat} (hc : c < n) : NdL n (ze2 x l c) := by
  unfold ze2
  split
  · rename_i hx
    refine ⟨?_, fun b hb => ?_⟩
    · rw [List.nodup_append]
      exact ⟨h.nd, by simp, fun a ha b hb => by simp at hb; subst hb; exact fun e => hx.2 (e ▸ ha)⟩
    · rcases List.mem_append.1 hb with hb | hb
      · exact h.lt b hb
      · simp at hb; subst hb; exact hc
  · exact h
theorem NdL.fold {n : Nat} {x : Int} : ∀ {cs l : List Nat}, NdL n l → (∀ c ∈ cs, c < n) → NdL n (cs.foldl (ze2 x) l)
  | [], l, h, _ => h
  | c :: cs, l, h, hc => show NdL n (cs.foldl (ze2 x) (ze2 x l c)) from NdL.fold (x := x) (h.add (x := x) (hc c (by simp))) (fun d hd => hc d (by simp [hd]))
theorem zgi {α β : Type} {f : β → α → β} {b : β} {l : List α} {i : Nat} (h : i < l.length) : (l.take (i + 1)).foldl f b = f ((l.take i).foldl f b) l[i] := by
  rw [List.take_add_one, List.getElem?_eq_getElem h, List.foldl_append]
  rfl
theorem zhH (p : Nat → Bool) (n : Nat) : (List.range (n + 1)).filter p = (List.range n).filter p ++ if p n then [n] else [] := by
  rw [List.range_succ, List.filter_append]
  cases h : p n <;> simp [List.filter, h]
theorem zmY (p : Nat → Bool) (n : Nat) : ((List.range n).filter p).length ≤ n := by
  have := List.length_filter_le p (List.range n)
  simpa using this
def mapR {α : Type} (f : Nat → α) (n : Nat) : List α := (List.range n).map f
def filR (p : Nat → Bool) (n : Nat) : List Nat := (List.range n).filter p
theorem zyL {α : Type} {f : Nat → α} {n : Nat} : (mapR f n).length = n := by simp [mapR]
theorem ztO {p : Nat → Bool} {n : Nat} (h : p n = true) : filR p (n + 1) = filR p n ++ [n] := by unfold filR; rw [zhH, h]; rfl
theorem zpW {p : Nat → Bool} {n : Nat} (h : p n = false) : filR p (n + 1) = filR p n := by unfold filR; rw [zhH, h]; simp
theorem zw6 {p : Nat → Bool} {n : Nat} : (filR p n).length ≤ n := zmY p n
def zmV (A : List (List Nat)) : AV := encL 1 (fun r => [zbk r]) A
abbrev cNs (l : List Nat) : List AV := [zbk l]
theorem vw_NN {H H2 : AH} {σ : Nat → Nat → Option (Nat × Nat × Nat)} {D : Nat → Nat → Prop} {t : Bool} {r q g : Nat} {l : List (List Nat)} (hD : D r q) (hg : H.get r q = some (.row 1 (l.map cNs) g)) (hb : l.length ≤ big) :
    Vw H H2 σ D t (.own r q g 0 l.length) (zmV l) := by
  refine zon hD hg hb (fun a _ j hj => ?_)
  obtain rfl : j = 0 := by omega
  exact .sl _ _ _ _
end Go.Ab.Dm
