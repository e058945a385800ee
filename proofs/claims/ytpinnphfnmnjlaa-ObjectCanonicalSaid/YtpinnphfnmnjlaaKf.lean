/-
  Part 6 of the proof: how the calls of this program run, over values instead of memory, and what each function computes.
-/
import Derived.Test.YtpinnphfnmnjlaaKe
set_option linter.unusedVariables false
set_option linter.unusedSimpArgs false
set_option linter.unnecessarySimpa false
set_option linter.unusedSectionVars false

namespace Go.Ab
open Go.RowKit Go.Proofs

theorem Sec.five (s : Sec) : [s.cells.getD 0 .undef, s.cells.getD 1 .undef, s.cells.getD 2 .undef, s.cells.getD 3 .undef, s.cells.getD 4 .undef] = s.cells := rfl
theorem Sec.len (s : Sec) : s.cells.length = 5 := rfl
theorem Sec.flat (s : Sec) : allFlat s.cells = true := rfl
/-- A function value that answers with a bool for each section of a list. -/
structure PredS (fv : AV) (l : List Sec) (p : Sec → Bool) : Prop where
  ex : ∃ f caps, fv = .fn (.func f) caps ∧ fnGood Try.prog f = true ∧ allFlat caps = true ∧ ∀ s ∈ l, PureFn Try.prog f ([.agg s.cells] ++ caps) (· = .bool (p s))

theorem allFlat_all : ∀ {l : List AV}, allFlat l = true → l.all AV.flat = true
  | [], _ => rfl
  | a :: l, h => by
    simp only [allFlat, Bool.and_eq_true] at h
    simp only [List.all_cons, Bool.and_eq_true]
    refine ⟨?_, allFlat_all h.2⟩
    cases a <;> first | rfl | exact absurd h.1 (by simp [AV.flat0])

theorem callv_predS {fv : AV} {l : List Sec} {p : Sec → Bool} (hp : PredS fv l p) {s : Sec} (hs : s ∈ l) {H : AH} {nx : Nat} {k : AV → AH → Nat → Prop} (hk : k (.bool (p s)) H nx) : callvX Try.prog fv [.agg s.cells] H nx k := by
  obtain ⟨f, caps, rfl, hg, hf, hx⟩ := hp.ex
  rw [callvX_fn]
  refine ⟨hg, callX_fix (call_flat (hx s hs) ?_) hk⟩
  simp only [List.cons_append, List.nil_append, List.all_cons, Bool.and_eq_true]
  exact ⟨rfl, allFlat_all hf⟩

theorem vw_predS {fv : AV} {l : List Sec} {p : Sec → Bool} (hp : PredS fv l p) {H H2 : AH} {σ : Nat → Nat → Option (Nat × Nat × Nat)} {D : Nat → Nat → Prop} {t : Bool} : Vw H H2 σ D t fv fv := by
  obtain ⟨f, caps, rfl, hg, hf, hx⟩ := hp.ex
  refine .fn _ _ _ _ rfl fun i a b h1 h2 => ?_
  rw [h1] at h2
  cases h2
  exact vw_flat0 (allFlat_get hf h1)

def idxI (o : Option Nat) : Int := match o with | some i => (i : Int) | none => -1

theorem slices_IndexFunc_ok (l : List Sec) (fv : AV) (p : Sec → Bool) (hp : PredS fv l p) : PureFn Try.prog f_slices_IndexFunc_api_Section_api_Section [encL 5 Sec.cells l, fv] (· = .int .i64 (idxI (l.findIdx? p))) := by
  refine fn_x cf_slices_IndexFunc_api_Section_api_Section rfl ?_
  unfold ac_slices_IndexFunc_api_Section_api_Section
  have hB : big = 9223372036854775807 := rfl
  (repeat (first | (simp (disch := first | exact dis1 | fail) only [evA, Nat.reduceBEq, Nat.reduceAdd, Nat.reduceLeDiff, boxR, rboxR, allocR, fldR, binI, unR, pickR, mknilR, mkslR, buildSlR, buildR, extR, convI, eqB, evU, wrap64]) | (with_reducible intro _) | ((with_reducible apply And.intro); omega)))
  refine loopX_intro (fun i : Nat => ([(0, encL 5 Sec.cells l), (1, fv), (7, .int .i64 l.length), (8, .int .i64 i)], [])) 0 (fun i => i ≤ l.length ∧ ∀ j (h : j < l.length), j < i → p l[j] = false) (fun i => l.length - i) 0 ⟨Nat.zero_le _, fun j _ h => by omega⟩ (Ent.keep rfl (by (try simp [subK, Kn.get, beq_eq]) <;> (repeat' with_reducible apply And.intro) <;> first | rfl | omega | (simp; done))) ?_
  intro i ⟨hi, hno⟩ wf
  unfold ac_slices_IndexFunc_api_Section_api_Section_l0
  (repeat (first | (simp (disch := first | exact dis1 | fail) only [evA, Nat.reduceBEq, Nat.reduceAdd, Nat.reduceLeDiff, boxR, rboxR, allocR, fldR, binI, unR, pickR, mknilR, mkslR, buildSlR, buildR, extR, convI, eqB, evU, wrap64]) | (with_reducible intro _) | ((with_reducible apply And.intro); omega)))
  (refine condX_intro (fun h => ?_) (fun h => ?_)) <;> (try simp only [decide_eq_true_eq, decide_eq_false_iff_not, Bool.not_eq_true', Bool.not_eq_false', Bool.and_eq_true, Bool.or_eq_true, not_true_eq_false, not_false_eq_true] at h)
  · have hi' : i < l.length := by omega
    (repeat (first | (simp (disch := first | exact dis1 | fail) only [evA, Nat.reduceBEq, Nat.reduceAdd, Nat.reduceLeDiff, boxR, rboxR, allocR, fldR, binI, unR, pickR, mknilR, mkslR, buildSlR, buildR, extR, convI, eqB, evU, wrap64, getD_map hi', Sec.five]) | (with_reducible intro _) | ((with_reducible apply And.intro); omega)))
    refine callv_predS hp (List.getElem_mem hi') ?_
    (repeat (first | (simp (disch := first | exact dis1 | fail) only [evA, Nat.reduceBEq, Nat.reduceAdd, Nat.reduceLeDiff, boxR, rboxR, allocR, fldR, binI, unR, pickR, mknilR, mkslR, buildSlR, buildR, extR, convI, eqB, evU, wrap64]) | (with_reducible intro _) | ((with_reducible apply And.intro); omega)))
    (refine condX_intro (fun h2 => ?_) (fun h2 => ?_)) <;> (try simp only [decide_eq_true_eq, decide_eq_false_iff_not, Bool.not_eq_true', Bool.not_eq_false', Bool.and_eq_true, Bool.or_eq_true, not_true_eq_false, not_false_eq_true] at h2)
    · (repeat (first | (simp (disch := first | exact dis1 | fail) only [evA, Nat.reduceBEq, Nat.reduceAdd, Nat.reduceLeDiff, boxR, rboxR, allocR, fldR, binI, unR, pickR, mknilR, mkslR, buildSlR, buildR, extR, convI, eqB, evU, wrap64, rs_slices_IndexFunc_api_Section_api_Section]) | (with_reducible intro _) | ((with_reducible apply And.intro); omega)))
      have e : l.findIdx? p = some i := by
        rw [List.findIdx?_eq_some_iff_getElem]
        exact ⟨hi', h2, fun j hj => by rw [hno j (by omega) hj]; simp⟩
      rw [e]
      exact ⟨_, .int _ _ _, rfl⟩
    · (repeat (first | (simp (disch := first | exact dis1 | fail) only [evA, Nat.reduceBEq, Nat.reduceAdd, Nat.reduceLeDiff, boxR, rboxR, allocR, fldR, binI, unR, pickR, mknilR, mkslR, buildSlR, buildR, extR, convI, eqB, evU, wrap64]) | (with_reducible intro _) | ((with_reducible apply And.intro); omega)))
      refine ⟨i + 1, ⟨by omega, fun j hj hji => ?_⟩, by omega, Ent.keep rfl (by (try simp [subK, Kn.get, beq_eq]) <;> (repeat' with_reducible apply And.intro) <;> first | rfl | omega | (simp; done))⟩
      by_cases hje : j = i
      · subst hje; simpa using h2
      · exact hno j hj (by omega)
  · unfold ac_slices_IndexFunc_api_Section_api_Section_k1
    (repeat (first | (simp (disch := first | exact dis1 | fail) only [evA, Nat.reduceBEq, Nat.reduceAdd, Nat.reduceLeDiff, boxR, rboxR, allocR, fldR, binI, unR, pickR, mknilR, mkslR, buildSlR, buildR, extR, convI, eqB, evU, wrap64, rs_slices_IndexFunc_api_Section_api_Section]) | (with_reducible intro _) | ((with_reducible apply And.intro); omega)))
    have e : l.findIdx? p = none := by
      rw [List.findIdx?_eq_none_iff]
      intro x hx
      obtain ⟨j, hj, rfl⟩ := List.mem_iff_getElem.1 hx
      exact hno j hj (by omega)
    rw [e]
    exact ⟨_, .int _ _ _, rfl⟩

theorem idxI_any {l : List Sec} {p : Sec → Bool} : decide (idxI (l.findIdx? p) ≥ 0) = l.any p := by
  cases h : l.findIdx? p with
  | none =>
    have := List.findIdx?_eq_none_iff.1 h
    rw [decide_eq_false (by simp [idxI])]
    symm
    rw [List.any_eq_false]
    intro x hx
    rw [this x hx]; simp
  | some i =>
    obtain ⟨h1, h2, _⟩ := List.findIdx?_eq_some_iff_getElem.1 h
    rw [decide_eq_true (by simp [idxI])]
    exact (any_hit h1 h2).symm

theorem slices_ContainsFunc_ok (l : List Sec) (fv : AV) (p : Sec → Bool) (hp : PredS fv l p) : PureFn Try.prog f_slices_ContainsFunc_api_Section_api_Section [encL 5 Sec.cells l, fv] (· = .bool (l.any p)) := by
  refine fn_x cf_slices_ContainsFunc_api_Section_api_Section rfl ?_
  unfold ac_slices_ContainsFunc_api_Section_api_Section
  (repeat (first | (simp (disch := first | exact dis1 | fail) only [evA, Nat.reduceBEq, Nat.reduceAdd, Nat.reduceLeDiff, boxR, rboxR, allocR, fldR, binI, unR, pickR, mknilR, mkslR, buildSlR, buildR, extR, convI, eqB, evU, wrap64]) | (with_reducible intro _) | ((with_reducible apply And.intro); omega)))
  refine callX_fix (call_fix (D := noR) (slices_IndexFunc_ok l fv p hp) (.cons (.sl _ _ _ _) (.cons (vw_predS hp) .nil)) (.inl rfl)) ?_
  (repeat (first | (simp (disch := first | exact dis1 | fail) only [evA, Nat.reduceBEq, Nat.reduceAdd, Nat.reduceLeDiff, boxR, rboxR, allocR, fldR, binI, unR, pickR, mknilR, mkslR, buildSlR, buildR, extR, convI, eqB, evU, wrap64, rs_slices_ContainsFunc_api_Section_api_Section]) | (with_reducible intro _) | ((with_reducible apply And.intro); omega)))
  refine ⟨_, .bool _ _, ?_⟩
  rw [← idxI_any]

/-- A closure over a row of one element, which is only read. -/
theorem lend_clo {H : AH} {f r g n : Nat} {c : List AV} (hg : H.get r 0 = some (.row n [c] g)) (hc : c.all AV.flat0 = true) (hn : c.length = n) : Vw H [] nos allR false (.fn (.func f) [.ptr r 0 g 0 0]) (.fn (.func f) [encP n c]) := by
  refine .fn _ _ _ _ rfl fun i a b h1 h2 => ?_
  match i with
  | 0 => cases h1; cases h2; exact tab_frzp trivial hg hc hn
  | i + 1 => cases h1

/-- The first elements of a list. -/
theorem vw_takeL {α : Type} {f : α → List AV} {H H2 : AH} {σ : Nat → Nat → Option (Nat × Nat × Nat)} {D : Nat → Nat → Prop} {t : Bool} {l : List α} {sz i n z : Nat} (hi : i ≤ l.length) (hn : n = i) (hz : z = 0) (hf : ∀ a, allFlat (f a) = true) :
    Vw H H2 σ D t (.sl sz n (fun a j => ((l.map f).getD (z + a) []).getD j .undef)) (encL sz f (l.take i)) := by
  subst hn hz
  have e : (l.take n).length = n := by rw [List.length_take]; omega
  unfold encL
  rw [e]
  refine .slf _ _ _ _ _ (fun a j ha hj => ?_)
  have e2 : (List.map f (List.take n l)).getD a [] = (l.map f).getD (0 + a) [] := by
    rw [Nat.zero_add, List.map_take, List.getD_eq_getElem?_getD, List.getElem?_take_of_lt ha, List.getD_eq_getElem?_getD]
  rw [e2, getD_map (show 0 + a < l.length by omega), List.getD_eq_getElem?_getD]
  cases hx : (f l[0 + a])[j]? with
  | none => exact .undef _ _
  | some x => exact vw_flat0 (allFlat_get (hf _) hx)

theorem section_Find_1_ok (s : Sec) (hs : s.ok) (a : UInt32) : PureFn Try.prog f_section_Find_1 [.agg s.cells, encP 1 [.int .u32 (a.toNat : Int)]] (· = .bool (decide (s.addr.toNat ≤ a.toNat) && decide (a.toNat < s.to))) := by
  refine fn_x cf_section_Find_1 rfl ?_
  unfold ac_section_Find_1
  have hB : big = 9223372036854775807 := rfl
  (repeat (first | (simp (disch := first | exact dis1 | fail) only [evA, Nat.reduceBEq, Nat.reduceAdd, Nat.reduceLeDiff, boxR, rboxR, allocR, fldR, binI, unR, pickR, mknilR, mkslR, buildSlR, buildR, extR, convI, eqB, evU, wrap64, Sec.five, Sec.flat, Sec.len, encP]) | (with_reducible intro _) | ((with_reducible apply And.intro); omega)))
  refine callX_fix (call_flat (section_space_ok s hs) rfl) ?_
  (repeat (first | (simp (disch := first | exact dis1 | fail) only [evA, Nat.reduceBEq, Nat.reduceAdd, Nat.reduceLeDiff, boxR, rboxR, allocR, fldR, binI, unR, pickR, mknilR, mkslR, buildSlR, buildR, extR, convI, eqB, evU, wrap64, encP]) | (with_reducible intro _) | ((with_reducible apply And.intro); omega)))
  by_cases h : s.addr.toNat ≤ a.toNat
  · have h' : decide ((s.addr.toNat : Int) ≤ (a.toNat : Int)) = true := decide_eq_true (by omega)
    (repeat (first | (simp (disch := first | exact dis1 | fail) only [evA, Nat.reduceBEq, Nat.reduceAdd, Nat.reduceLeDiff, boxR, rboxR, allocR, fldR, binI, unR, pickR, mknilR, mkslR, buildSlR, buildR, extR, convI, eqB, evU, wrap64, h', encP, rs_section_Find_1]) | (with_reducible intro _) | ((with_reducible apply And.intro); omega)))
    refine ⟨_, .bool _ _, ?_⟩
    rw [decide_eq_true h, Bool.true_and]
    congr 1
    exact decide_eq_decide.2 (by omega)
  · have h' : decide ((s.addr.toNat : Int) ≤ (a.toNat : Int)) = false := decide_eq_false (by omega)
    (repeat (first | (simp (disch := first | exact dis1 | fail) only [evA, Nat.reduceBEq, Nat.reduceAdd, Nat.reduceLeDiff, boxR, rboxR, allocR, fldR, binI, unR, pickR, mknilR, mkslR, buildSlR, buildR, extR, convI, eqB, evU, wrap64, h', encP, rs_section_Find_1]) | (with_reducible intro _) | ((with_reducible apply And.intro); omega)))
    refine ⟨_, .bool _ _, ?_⟩
    rw [decide_eq_false h, Bool.false_and]

theorem section_Find_ok (l : List Sec) (hl : ∀ s ∈ l, s.ok) (a : UInt32) : PureFn Try.prog f_section_Find [encL 5 Sec.cells l, .int .u32 (a.toNat : Int)] (· = .int .i64 (idxI (findS l a))) := by
  refine fn_x cf_section_Find rfl ?_
  unfold ac_section_Find
  (repeat (first | (simp (disch := first | exact dis1 | fail) only [evA, Nat.reduceBEq, Nat.reduceAdd, Nat.reduceLeDiff, boxR, rboxR, allocR, fldR, binI, unR, pickR, mknilR, mkslR, buildSlR, buildR, extR, convI, eqB, evU, wrap64]) | (with_reducible intro _) | ((with_reducible apply And.intro); omega)))
  have hp : PredS (.fn (.func f_section_Find_1) [encP 1 [.int .u32 (a.toNat : Int)]]) l (fun s => decide (s.addr.toNat ≤ a.toNat) && decide (a.toNat < s.to)) :=
    ⟨_, _, rfl, by kernel_rfl, rfl, fun s hs => section_Find_1_ok s (hl s hs) a⟩
  refine callX_fix (call_fix (D := noR) (slices_IndexFunc_ok l _ _ hp) (.cons (.sl _ _ _ _) (.cons (vw_predS hp) .nil)) (.inl rfl)) ?_
  (repeat (first | (simp (disch := first | exact dis1 | fail) only [evA, Nat.reduceBEq, Nat.reduceAdd, Nat.reduceLeDiff, boxR, rboxR, allocR, fldR, binI, unR, pickR, mknilR, mkslR, buildSlR, buildR, extR, convI, eqB, evU, wrap64, rs_section_Find]) | (with_reducible intro _) | ((with_reducible apply And.intro); omega)))
  exact ⟨_, .int _ _ _, rfl⟩

theorem section_Check_1_ok (x s : Sec) : PureFn Try.prog f_section_Check_1 [.agg x.cells, encP 5 s.cells] (· = .bool (decide (x.name = s.name))) := by
  refine fn_x cf_section_Check_1 rfl ?_
  unfold ac_section_Check_1
  (repeat (first | (simp (disch := first | exact dis1 | fail) only [evA, Nat.reduceBEq, Nat.reduceAdd, Nat.reduceLeDiff, boxR, rboxR, allocR, fldR, binI, unR, pickR, mknilR, mkslR, buildSlR, buildR, extR, convI, eqB, evU, wrap64, Sec.five, encP, Sec.cells, encB, rs_section_Check_1]) | (with_reducible intro _) | ((with_reducible apply And.intro); omega)))
  exact ⟨_, .bool _ _, rfl⟩

theorem section_Check_2_ok (x s : Sec) (hx : x.ok) (hs : s.ok) : PureFn Try.prog f_section_Check_2 [.agg x.cells, encP 5 s.cells] (· = .bool (meetS x s)) := by
  refine fn_x cf_section_Check_2 rfl ?_
  unfold ac_section_Check_2
  (repeat (first | (simp (disch := first | exact dis1 | fail) only [evA, Nat.reduceBEq, Nat.reduceAdd, Nat.reduceLeDiff, boxR, rboxR, allocR, fldR, binI, unR, pickR, mknilR, mkslR, buildSlR, buildR, extR, convI, eqB, evU, wrap64, Sec.five, Sec.flat, Sec.len, encP]) | (with_reducible intro _) | ((with_reducible apply And.intro); omega)))
  refine callqX_fix (call_flat (section_space_ok x hx) rfl) ?_
  (repeat (first | (simp (disch := first | exact dis1 | fail) only [evA, Nat.reduceBEq, Nat.reduceAdd, Nat.reduceLeDiff, boxR, rboxR, allocR, fldR, binI, unR, pickR, mknilR, mkslR, buildSlR, buildR, extR, convI, eqB, evU, wrap64, Sec.five, Sec.flat, Sec.len, encP]) | (with_reducible intro _) | ((with_reducible apply And.intro); omega)))
  refine callqX_fix (call_flat (section_space_ok s hs) rfl) ?_
  (repeat (first | (simp (disch := first | exact dis1 | fail) only [evA, Nat.reduceBEq, Nat.reduceAdd, Nat.reduceLeDiff, boxR, rboxR, allocR, fldR, binI, unR, pickR, mknilR, mkslR, buildSlR, buildR, extR, convI, eqB, evU, wrap64]) | (with_reducible intro _) | ((with_reducible apply And.intro); omega)))
  refine callqX_fix (call_flat (section_meet_ok _ _ _ _) rfl) ?_
  (repeat (first | (simp (disch := first | exact dis1 | fail) only [evA, Nat.reduceBEq, Nat.reduceAdd, Nat.reduceLeDiff, boxR, rboxR, allocR, fldR, binI, unR, pickR, mknilR, mkslR, buildSlR, buildR, extR, convI, eqB, evU, wrap64, rs_section_Check_2]) | (with_reducible intro _) | ((with_reducible apply And.intro); omega)))
  exact ⟨_, .bool _ _, rfl⟩

end Go.Ab

namespace Go.Ab
open Go.RowKit Go.Proofs

theorem firstE_zero {α : Type} {f : List α → α → Int} {l : List α} : ∀ {n i : Nat}, l.length ≤ n + i → firstE f l n i = 0 → ∀ j (hj : j < l.length), i ≤ j → f (l.take j) l[j] = 0
  | 0, i, h, _, j, hj, hij => absurd hj (by omega)
  | n + 1, i, h, h0, j, hj, hij => by
    rw [firstE_step (by omega)] at h0
    by_cases hf : f (l.take i) (l[i]'(by omega)) ≠ 0
    · rw [if_pos hf] at h0; exact absurd h0 hf
    · rw [if_neg hf] at h0
      by_cases hij2 : i = j
      · subst hij2
        exact Decidable.not_not.1 hf
      · exact firstE_zero (by omega) h0 j hj (by omega)

theorem oneS_data {pre : List Sec} {s : Sec} (h : oneS pre s = 0) : s.data.length ≤ 65536 := by
  unfold oneS at h
  by_cases h1 : 65536 < s.data.length
  · rw [if_pos h1] at h; cases h
  · omega

theorem secs_ok {l : List Sec} (hl : ∀ s ∈ l, s.okN) (h : firstE oneS l l.length 0 = 0) : ∀ s ∈ l, s.ok := fun s hs => by
  obtain ⟨i, hi, rfl⟩ := List.mem_iff_getElem.1 hs
  have := oneS_data (firstE_zero (by omega) h i hi (Nat.zero_le _))
  exact Sec.okOf (hl _ hs) (by omega)

theorem checkS_one {l : List Sec} (h : checkS l = 0) : firstE oneS l l.length 0 = 0 := by
  unfold checkS at h
  by_cases h1 : 16 < l.length
  · rw [if_pos h1] at h; cases h
  rw [if_neg h1] at h
  by_cases h4 : firstE oneS l l.length 0 ≠ 0
  · rw [if_pos h4] at h; exact absurd h h4
  · exact Decidable.not_not.1 h4

end Go.Ab

namespace Go.Ab
open Go.RowKit Go.Proofs

theorem meetS_comm_stack {s : Sec} : decide (max s.addr.toNat 978944 < min s.to 983040) = stackS s := rfl

theorem take_ok {l : List Sec} (hl : ∀ s ∈ l, s.ok) (i : Nat) : ∀ s ∈ l.take i, s.ok := fun s hs => hl s (List.mem_of_mem_take hs)

theorem section_Check_ok (l : List Sec) (hl0 : ∀ s ∈ l, s.okN) : PureFn Try.prog f_section_Check [encL 5 Sec.cells l] (· = .int .i64 (checkS l)) := by
  refine fn_x cf_section_Check rfl ?_
  unfold ac_section_Check
  have hB : big = 9223372036854775807 := rfl
  (repeat (first | (simp (disch := first | exact dis1 | fail) only [evA, Nat.reduceBEq, Nat.reduceAdd, Nat.reduceLeDiff, boxR, rboxR, allocR, fldR, binI, unR, pickR, mknilR, mkslR, buildSlR, buildR, extR, convI, eqB, evU, wrap64]) | (with_reducible intro _) | ((with_reducible apply And.intro); omega)))
  (refine condX_intro (fun h0 => ?_) (fun h0 => ?_)) <;> (try simp only [decide_eq_true_eq, decide_eq_false_iff_not, Bool.not_eq_true', Bool.not_eq_false', Bool.and_eq_true, Bool.or_eq_true, not_true_eq_false, not_false_eq_true] at h0)
  · (repeat (first | (simp (disch := first | exact dis1 | fail) only [evA, Nat.reduceBEq, Nat.reduceAdd, Nat.reduceLeDiff, boxR, rboxR, allocR, fldR, binI, unR, pickR, mknilR, mkslR, buildSlR, buildR, extR, convI, eqB, evU, wrap64, rs_section_Check]) | (with_reducible intro _) | ((with_reducible apply And.intro); omega)))
    refine ⟨_, .int _ _ _, ?_⟩
    unfold checkS
    rw [if_pos (by omega)]
  have hll : l.length ≤ 16 := by omega
  have hval : checkS l = if firstE oneS l l.length 0 ≠ 0 then firstE oneS l l.length 0 else firstE lapS l l.length 0 := by unfold checkS; rw [if_neg (by omega)]
  rw [hval]
  generalize hR : firstE oneS l l.length 0 = R at hval
  generalize hR2 : firstE lapS l l.length 0 = R2 at hval
  clear hval
  (repeat (first | (simp (disch := first | exact dis1 | fail) only [evA, Nat.reduceBEq, Nat.reduceAdd, Nat.reduceLeDiff, boxR, rboxR, allocR, fldR, binI, unR, pickR, mknilR, mkslR, buildSlR, buildR, extR, convI, eqB, evU, wrap64]) | (with_reducible intro _) | ((with_reducible apply And.intro); omega)))
  refine loopX_intro (fun i : Nat => ([(0, encL 5 Sec.cells l), (11, encL 5 Sec.cells l), (12, .int .i64 l.length), (13, .int .i64 i)], [])) 0 (fun i => i ≤ l.length ∧ firstE oneS l (l.length - i) i = R) (fun i => l.length - i) 0 ⟨Nat.zero_le _, hR⟩ (Ent.keep rfl (by (try simp [subK, Kn.get, beq_eq]) <;> (repeat' with_reducible apply And.intro) <;> first | rfl | omega | (simp; done))) ?_
  rintro i ⟨hi, hgo⟩ wf
  unfold ac_section_Check_l0
  (repeat (first | (simp (disch := first | exact dis1 | fail) only [evA, Nat.reduceBEq, Nat.reduceAdd, Nat.reduceLeDiff, boxR, rboxR, allocR, fldR, binI, unR, pickR, mknilR, mkslR, buildSlR, buildR, extR, convI, eqB, evU, wrap64]) | (with_reducible intro _) | ((with_reducible apply And.intro); omega)))
  (refine condX_intro (fun h1 => ?_) (fun h1 => ?_)) <;> (try simp only [decide_eq_true_eq, decide_eq_false_iff_not, Bool.not_eq_true', Bool.not_eq_false', Bool.and_eq_true, Bool.or_eq_true, not_true_eq_false, not_false_eq_true] at h1)
  · have hi' : i < l.length := by omega
    have hsN := hl0 _ (List.getElem_mem hi')
    have ha := u32_lt l[i].addr
    rw [show l.length - i = (l.length - (i + 1)) + 1 by omega, firstE_step hi'] at hgo
    have c5 := Sec.five l[i]
    (repeat (first | (simp (disch := first | exact dis1 | fail) only [evA, Nat.reduceBEq, Nat.reduceAdd, Nat.reduceLeDiff, boxR, rboxR, allocR, fldR, binI, unR, pickR, mknilR, mkslR, buildSlR, buildR, extR, convI, eqB, evU, wrap64, getD_map hi', Sec.five, Sec.len, Sec.flat]) | (with_reducible intro _) | ((with_reducible apply And.intro); omega)))
    have hp : PredS (.fn (.func f_section_Check_1) [encP 5 l[i].cells]) (l.take i) (fun x => decide (x.name = l[i].name)) :=
      ⟨_, _, rfl, by kernel_rfl, rfl, fun x _ => section_Check_1_ok x l[i]⟩
    (repeat (first | (simp (disch := first | exact dis1 | fail) only [evA, Nat.reduceBEq, Nat.reduceAdd, Nat.reduceLeDiff, boxR, rboxR, allocR, fldR, binI, unR, pickR, mknilR, mkslR, buildSlR, buildR, extR, convI, eqB, evU, wrap64, sliceR_to]) | (with_reducible intro _) | ((with_reducible apply And.intro); omega)))
    refine callX_fix (call_fix (D := allR) (slices_ContainsFunc_ok (l.take i) _ _ hp) (.cons (vw_takeL (i := i) hi (by omega) rfl Sec.flat) (.cons (lend_clo rfl rfl rfl) .nil)) (.inl rfl)) ?_
    have hany : oneS (l.take i) l[i] = oneS (l.take i) l[i] := rfl
    generalize htw : ((l.take i).any fun x => decide (x.name = l[i].name)) = tw
    have c0 : ∀ s : Sec, (Sec.cells s).getD 0 .undef = .str s.name := fun _ => rfl
    have c1 : ∀ s : Sec, (Sec.cells s).getD 1 .undef = .int .u32 (s.addr.toNat : Int) := fun _ => rfl
    have c2 : ∀ s : Sec, (Sec.cells s).getD 2 .undef = encL 1 cByte s.data := fun _ => rfl
    have hone : oneS (l.take i) l[i] = if 65536 < l[i].data.length then 6 else if nameOk l[i].name = false then 3 else if tw = true then 8 else if 4294967295 < l[i].addr.toNat + l[i].data.length ∨ stackS l[i] = true then 7 else 0 := by
      rw [← htw]
      rfl
    generalize oneS (l.take i) l[i] = e at hone hgo
    have done : e ≠ 0 → R = e := fun h => by rw [if_pos h] at hgo; exact hgo.symm
    have next : e = 0 → firstE oneS l (l.length - (i + 1)) (i + 1) = R := fun h => by rw [if_neg (by rw [h]; decide)] at hgo; exact hgo
    (repeat (first | (simp (disch := first | exact dis1 | fail) only [evA, Nat.reduceBEq, Nat.reduceAdd, Nat.reduceLeDiff, boxR, rboxR, allocR, fldR, binI, unR, pickR, mknilR, mkslR, buildSlR, buildR, extR, convI, eqB, evU, wrap64, c2, Sec.len]) | (with_reducible intro _) | ((with_reducible apply And.intro); omega)))
    (refine condX_intro (fun h2 => ?_) (fun h2 => ?_)) <;> (try simp only [decide_eq_true_eq, decide_eq_false_iff_not, Bool.not_eq_true', Bool.not_eq_false', Bool.and_eq_true, Bool.or_eq_true, not_true_eq_false, not_false_eq_true] at h2)
    · rw [if_pos (by omega)] at hone
      (repeat (first | (simp (disch := first | exact dis1 | fail) only [evA, Nat.reduceBEq, Nat.reduceAdd, Nat.reduceLeDiff, boxR, rboxR, allocR, fldR, binI, unR, pickR, mknilR, mkslR, buildSlR, buildR, extR, convI, eqB, evU, wrap64, rs_section_Check]) | (with_reducible intro _) | ((with_reducible apply And.intro); omega)))
      refine ⟨_, .int _ _ _, ?_⟩
      rw [done (by rw [hone]; decide), if_pos (by rw [hone]; decide), hone]
    rw [if_neg (by omega)] at hone
    have hs : l[i].ok := Sec.okOf hsN (by omega)
    have hlen := hs.1
    (repeat (first | (simp (disch := first | exact dis1 | fail) only [evA, Nat.reduceBEq, Nat.reduceAdd, Nat.reduceLeDiff, boxR, rboxR, allocR, fldR, binI, unR, pickR, mknilR, mkslR, buildSlR, buildR, extR, convI, eqB, evU, wrap64, c0, Sec.len]) | (with_reducible intro _) | ((with_reducible apply And.intro); omega)))
    refine callX_fix (call_flat (section_name_ok _ hs.2) rfl) ?_
    cases hn : nameOk l[i].name with
    | false =>
      rw [if_pos hn] at hone
      (repeat (first | (simp (disch := first | exact dis1 | fail) only [evA, Nat.reduceBEq, Nat.reduceAdd, Nat.reduceLeDiff, boxR, rboxR, allocR, fldR, binI, unR, pickR, mknilR, mkslR, buildSlR, buildR, extR, convI, eqB, evU, wrap64, rs_section_Check]) | (with_reducible intro _) | ((with_reducible apply And.intro); omega)))
      refine ⟨_, .int _ _ _, ?_⟩
      rw [done (by rw [hone]; decide), if_pos (by rw [hone]; decide), hone]
    | true =>
      rw [if_neg (by rw [hn]; decide)] at hone
      cases tw with
      | true =>
        rw [if_pos rfl] at hone
        (repeat (first | (simp (disch := first | exact dis1 | fail) only [evA, Nat.reduceBEq, Nat.reduceAdd, Nat.reduceLeDiff, boxR, rboxR, allocR, fldR, binI, unR, pickR, mknilR, mkslR, buildSlR, buildR, extR, convI, eqB, evU, wrap64, rs_section_Check]) | (with_reducible intro _) | ((with_reducible apply And.intro); omega)))
        refine ⟨_, .int _ _ _, ?_⟩
        rw [done (by rw [hone]; decide), if_pos (by rw [hone]; decide), hone]
      | false =>
        rw [if_neg (by decide)] at hone
        (repeat (first | (simp (disch := first | exact dis1 | fail) only [evA, Nat.reduceBEq, Nat.reduceAdd, Nat.reduceLeDiff, boxR, rboxR, allocR, fldR, binI, unR, pickR, mknilR, mkslR, buildSlR, buildR, extR, convI, eqB, evU, wrap64, c1, c2, Sec.len, wrapU64]) | (with_reducible intro _) | ((with_reducible apply And.intro); omega)))
        by_cases h3 : 4294967295 < l[i].addr.toNat + l[i].data.length
        · rw [if_pos (.inl h3)] at hone
          have h3' : decide ((l[i].addr.toNat : Int) + (l[i].data.length : Int) > 4294967295) = true := decide_eq_true (by omega)
          have h3'' : decide ((4294967295 : Int) < (l[i].addr.toNat : Int) + (l[i].data.length : Int)) = true := decide_eq_true (by omega)
          (repeat (first | (simp (disch := first | exact dis1 | fail) only [evA, Nat.reduceBEq, Nat.reduceAdd, Nat.reduceLeDiff, boxR, rboxR, allocR, fldR, binI, unR, pickR, mknilR, mkslR, buildSlR, buildR, extR, convI, eqB, evU, wrap64, h3', h3'', rs_section_Check]) | (with_reducible intro _) | ((with_reducible apply And.intro); omega)))
          refine ⟨_, .int _ _ _, ?_⟩
          rw [done (by rw [hone]; decide), if_pos (by rw [hone]; decide), hone]
        · have h3' : decide ((l[i].addr.toNat : Int) + (l[i].data.length : Int) > 4294967295) = false := decide_eq_false (by omega)
          have h3'' : decide ((4294967295 : Int) < (l[i].addr.toNat : Int) + (l[i].data.length : Int)) = false := decide_eq_false (by omega)
          (repeat (first | (simp (disch := first | exact dis1 | fail) only [evA, Nat.reduceBEq, Nat.reduceAdd, Nat.reduceLeDiff, boxR, rboxR, allocR, fldR, binI, unR, pickR, mknilR, mkslR, buildSlR, buildR, extR, convI, eqB, evU, wrap64, h3', h3'', Sec.len]) | (with_reducible intro _) | ((with_reducible apply And.intro); omega)))
          refine callX_fix (call_flat (section_space_ok _ hs) rfl) ?_
          (repeat (first | (simp (disch := first | exact dis1 | fail) only [evA, Nat.reduceBEq, Nat.reduceAdd, Nat.reduceLeDiff, boxR, rboxR, allocR, fldR, binI, unR, pickR, mknilR, mkslR, buildSlR, buildR, extR, convI, eqB, evU, wrap64]) | (with_reducible intro _) | ((with_reducible apply And.intro); omega)))
          refine callX_fix (call_flat section_stack_ok rfl) ?_
          (repeat (first | (simp (disch := first | exact dis1 | fail) only [evA, Nat.reduceBEq, Nat.reduceAdd, Nat.reduceLeDiff, boxR, rboxR, allocR, fldR, binI, unR, pickR, mknilR, mkslR, buildSlR, buildR, extR, convI, eqB, evU, wrap64]) | (with_reducible intro _) | ((with_reducible apply And.intro); omega)))
          refine callX_fix (call_flat (section_meet_ok _ _ 978944 983040) rfl) ?_
          rw [meetS_comm_stack]
          cases hst : stackS l[i] with
          | true =>
            rw [if_pos (.inr hst)] at hone
            (repeat (first | (simp (disch := first | exact dis1 | fail) only [evA, Nat.reduceBEq, Nat.reduceAdd, Nat.reduceLeDiff, boxR, rboxR, allocR, fldR, binI, unR, pickR, mknilR, mkslR, buildSlR, buildR, extR, convI, eqB, evU, wrap64, rs_section_Check]) | (with_reducible intro _) | ((with_reducible apply And.intro); omega)))
            refine ⟨_, .int _ _ _, ?_⟩
            rw [done (by rw [hone]; decide), if_pos (by rw [hone]; decide), hone]
          | false =>
            rw [if_neg (by rw [hst]; rintro (h | h); exact h3 h; cases h)] at hone
            (repeat (first | (simp (disch := first | exact dis1 | fail) only [evA, Nat.reduceBEq, Nat.reduceAdd, Nat.reduceLeDiff, boxR, rboxR, allocR, fldR, binI, unR, pickR, mknilR, mkslR, buildSlR, buildR, extR, convI, eqB, evU, wrap64]) | (with_reducible intro _) | ((with_reducible apply And.intro); omega)))
            exact ⟨i + 1, ⟨by omega, next hone⟩, by omega, (Ent.tab [] [] rfl (by (try simp only [evWA, Nat.reduceBEq, Nat.reduceAdd, Nat.reduceSub, Nat.reduceLeDiff, Nat.reduceLT, implies_true, and_self, Int.natCast_zero, Int.natCast_one, Int.cast_ofNat_Int, evV, encInts, encNats, encBools, encP]) <;> exact fin1) (by (try simp only [evWA, Nat.reduceBEq, Nat.reduceAdd, Nat.reduceSub, Nat.reduceLeDiff, Nat.reduceLT, implies_true, and_self, Int.natCast_zero, Int.natCast_one, Int.cast_ofNat_Int, evV, encInts, encNats, encBools, encP]) <;> exact fin1))⟩
  · rw [firstE_end (by omega)] at hgo
    subst hgo
    rw [if_neg (by decide)]
    have hl := secs_ok hl0 hR
    unfold ac_section_Check_k3
    (repeat (first | (simp (disch := first | exact dis1 | fail) only [evA, Nat.reduceBEq, Nat.reduceAdd, Nat.reduceLeDiff, boxR, rboxR, allocR, fldR, binI, unR, pickR, mknilR, mkslR, buildSlR, buildR, extR, convI, eqB, evU, wrap64]) | (with_reducible intro _) | ((with_reducible apply And.intro); omega)))
    refine loopX_intro (fun i : Nat => ([(0, encL 5 Sec.cells l), (52, encL 5 Sec.cells l), (53, .int .i64 l.length), (54, .int .i64 i)], [])) 0 (fun i => i ≤ l.length ∧ firstE lapS l (l.length - i) i = R2) (fun i => l.length - i) 0 ⟨Nat.zero_le _, hR2⟩ (Ent.keep rfl (by (try simp [subK, Kn.get, beq_eq]) <;> (repeat' with_reducible apply And.intro) <;> first | rfl | omega | (simp; done))) ?_
    rintro i ⟨hi, hgo⟩ wf
    unfold ac_section_Check_l1
    (repeat (first | (simp (disch := first | exact dis1 | fail) only [evA, Nat.reduceBEq, Nat.reduceAdd, Nat.reduceLeDiff, boxR, rboxR, allocR, fldR, binI, unR, pickR, mknilR, mkslR, buildSlR, buildR, extR, convI, eqB, evU, wrap64]) | (with_reducible intro _) | ((with_reducible apply And.intro); omega)))
    (refine condX_intro (fun h2 => ?_) (fun h2 => ?_)) <;> (try simp only [decide_eq_true_eq, decide_eq_false_iff_not, Bool.not_eq_true', Bool.not_eq_false', Bool.and_eq_true, Bool.or_eq_true, not_true_eq_false, not_false_eq_true] at h2)
    · have hi' : i < l.length := by omega
      have hs := hl _ (List.getElem_mem hi')
      rw [show l.length - i = (l.length - (i + 1)) + 1 by omega, firstE_step hi'] at hgo
      (repeat (first | (simp (disch := first | exact dis1 | fail) only [evA, Nat.reduceBEq, Nat.reduceAdd, Nat.reduceLeDiff, boxR, rboxR, allocR, fldR, binI, unR, pickR, mknilR, mkslR, buildSlR, buildR, extR, convI, eqB, evU, wrap64, getD_map hi', Sec.five, Sec.len, Sec.flat]) | (with_reducible intro _) | ((with_reducible apply And.intro); omega)))
      have hp : PredS (.fn (.func f_section_Check_2) [encP 5 l[i].cells]) (l.take i) (fun x => meetS x l[i]) :=
        ⟨_, _, rfl, by kernel_rfl, rfl, fun x hx => section_Check_2_ok x l[i] (take_ok hl i x hx) hs⟩
      (repeat (first | (simp (disch := first | exact dis1 | fail) only [evA, Nat.reduceBEq, Nat.reduceAdd, Nat.reduceLeDiff, boxR, rboxR, allocR, fldR, binI, unR, pickR, mknilR, mkslR, buildSlR, buildR, extR, convI, eqB, evU, wrap64, sliceR_to]) | (with_reducible intro _) | ((with_reducible apply And.intro); omega)))
      refine callX_fix (call_fix (D := allR) (slices_ContainsFunc_ok (l.take i) _ _ hp) (.cons (vw_takeL (i := i) hi (by omega) rfl Sec.flat) (.cons (lend_clo rfl rfl rfl) .nil)) (.inl rfl)) ?_
      have hlap : lapS (l.take i) l[i] = if ((l.take i).any fun x => meetS x l[i]) = true then 10 else 0 := rfl
      generalize ((l.take i).any fun x => meetS x l[i]) = tw at hlap ⊢
      cases tw with
      | true =>
        rw [if_pos rfl] at hlap
        rw [hlap, if_pos (by decide)] at hgo
        (repeat (first | (simp (disch := first | exact dis1 | fail) only [evA, Nat.reduceBEq, Nat.reduceAdd, Nat.reduceLeDiff, boxR, rboxR, allocR, fldR, binI, unR, pickR, mknilR, mkslR, buildSlR, buildR, extR, convI, eqB, evU, wrap64, rs_section_Check]) | (with_reducible intro _) | ((with_reducible apply And.intro); omega)))
        refine ⟨_, .int _ _ _, ?_⟩
        rw [← hgo]
      | false =>
        rw [if_neg (by decide)] at hlap
        rw [hlap, if_neg (by decide)] at hgo
        (repeat (first | (simp (disch := first | exact dis1 | fail) only [evA, Nat.reduceBEq, Nat.reduceAdd, Nat.reduceLeDiff, boxR, rboxR, allocR, fldR, binI, unR, pickR, mknilR, mkslR, buildSlR, buildR, extR, convI, eqB, evU, wrap64]) | (with_reducible intro _) | ((with_reducible apply And.intro); omega)))
        exact ⟨i + 1, ⟨by omega, hgo⟩, by omega, (Ent.tab [] [] rfl (by (try simp only [evWA, Nat.reduceBEq, Nat.reduceAdd, Nat.reduceSub, Nat.reduceLeDiff, Nat.reduceLT, implies_true, and_self, Int.natCast_zero, Int.natCast_one, Int.cast_ofNat_Int, evV, encInts, encNats, encBools, encP]) <;> exact fin1) (by (try simp only [evWA, Nat.reduceBEq, Nat.reduceAdd, Nat.reduceSub, Nat.reduceLeDiff, Nat.reduceLT, implies_true, and_self, Int.natCast_zero, Int.natCast_one, Int.cast_ofNat_Int, evV, encInts, encNats, encBools, encP]) <;> exact fin1))⟩
    · rw [firstE_end (by omega)] at hgo
      unfold ac_section_Check_k2
      (repeat (first | (simp (disch := first | exact dis1 | fail) only [evA, Nat.reduceBEq, Nat.reduceAdd, Nat.reduceLeDiff, boxR, rboxR, allocR, fldR, binI, unR, pickR, mknilR, mkslR, buildSlR, buildR, extR, convI, eqB, evU, wrap64, rs_section_Check]) | (with_reducible intro _) | ((with_reducible apply And.intro); omega)))
      refine ⟨_, .int _ _ _, ?_⟩
      rw [← hgo]

end Go.Ab

namespace Go.Ab
open Go.RowKit Go.Proofs

def Sym.ok (s : Sym) : Prop := s.name.size ≤ big
theorem Sym.three (s : Sym) : [s.cells.getD 0 .undef, s.cells.getD 1 .undef, s.cells.getD 2 .undef] = s.cells := rfl
theorem Sym.len (s : Sym) : s.cells.length = 3 := rfl
theorem Sym.flat (s : Sym) : allFlat s.cells = true := rfl
theorem Sym.c0 (s : Sym) : s.cells.getD 0 .undef = .str s.name := rfl
theorem Sym.c2 (s : Sym) : s.cells.getD 2 .undef = .int .i64 s.kind := rfl

end Go.Ab

namespace Go.Ab
open Go.RowKit Go.Proofs

def noY : Sym := ⟨⟨#[]⟩, 0, 0⟩
def hitY (l : List Sym) (n : ByteArray) : Sym := (l.find? fun s => decide (s.name = n)).getD noY
def hasY (l : List Sym) (n : ByteArray) : Bool := l.any fun s => decide (s.name = n)
def foundY (l : List Sym) (n : ByteArray) : AV := .tup [.agg (hitY l n).cells, .bool (hasY l n)]

theorem noY_cells : noY.cells = [.str ⟨#[]⟩, .int .u32 0, .int .i64 0] := rfl

theorem hitY_at {l : List Sym} {n : ByteArray} {i : Nat} (hi : i < l.length) (h : l[i].name = n) (hno : (l.take i).any (fun s => decide (s.name = n)) = false) : hitY l n = l[i] ∧ hasY l n = true := by
  have h2 : l.any (fun s => decide (s.name = n)) = true := List.any_eq_true.2 ⟨l[i], List.getElem_mem hi, decide_eq_true h⟩
  refine ⟨?_, h2⟩
  unfold hitY
  have : l = l.take i ++ (l[i] :: l.drop (i + 1)) := by rw [List.getElem_cons_drop, List.take_append_drop]
  rw [show (l.find? fun s => decide (s.name = n)) = some l[i] from ?_]
  · rfl
  · conv => lhs; rw [this]
    rw [List.find?_append, List.find?_eq_none.2 (fun x hx => by
      have := List.any_eq_false.1 hno x hx
      exact this), Option.none_or, List.find?_cons, decide_eq_true h]

theorem hitY_none {l : List Sym} {n : ByteArray} (hno : l.any (fun s => decide (s.name = n)) = false) : hitY l n = noY ∧ hasY l n = false := by
  refine ⟨?_, hno⟩
  unfold hitY
  rw [List.find?_eq_none.2 (fun x hx => List.any_eq_false.1 hno x hx)]
  rfl

theorem frzY {H : AH} {s : Sym} {b : Bool} : Frz H (.tup [.agg s.cells, .bool b]) (.tup [.agg s.cells, .bool b]) := by
  refine .tup _ _ _ rfl (fun i a c h1 h2 => ?_)
  rcases i with _ | _ | i
  · cases h1; cases h2
    exact vw_flat (by rfl)
  · cases h1; cases h2; exact .bool _ _
  · cases h1

theorem symbol_Find_ok (l : List Sym) (n : ByteArray) (hll : l.length ≤ 1000000) : PureFn Try.prog f_symbol_Find [encL 3 Sym.cells l, .str n] (· = foundY l n) := by
  refine fn_x cf_symbol_Find rfl ?_
  unfold ac_symbol_Find
  have hB : big = 9223372036854775807 := rfl
  (repeat (first | (simp (disch := first | exact dis1 | fail) only [evA, Nat.reduceBEq, Nat.reduceAdd, Nat.reduceLeDiff, boxR, rboxR, allocR, fldR, binI, unR, pickR, mknilR, mkslR, buildSlR, buildR, extR, convI, eqB, evU, wrap64]) | (with_reducible intro _) | ((with_reducible apply And.intro); omega)))
  refine loopX_intro (fun i : Nat => ([(1, .str n), (4, .ptr 0 0 0 0 0), (8, encL 3 Sym.cells l), (9, .int .i64 l.length), (10, .int .i64 i)], [(0, .row 3 [noY.cells] 0)])) 1 (fun i => i ≤ l.length ∧ (l.take i).any (fun x => decide (x.name = n)) = false) (fun i => l.length - i) 0 ⟨Nat.zero_le _, rfl⟩ (Ent.keep rfl (by (try simp [subK, Kn.get, beq_eq]) <;> (repeat' with_reducible apply And.intro) <;> first | rfl | omega | (simp; done))) ?_
  rintro i ⟨hi, hno⟩ wf
  unfold ac_symbol_Find_l0
  (repeat (first | (simp (disch := first | exact dis1 | fail) only [evA, Nat.reduceBEq, Nat.reduceAdd, Nat.reduceLeDiff, boxR, rboxR, allocR, fldR, binI, unR, pickR, mknilR, mkslR, buildSlR, buildR, extR, convI, eqB, evU, wrap64]) | (with_reducible intro _) | ((with_reducible apply And.intro); omega)))
  (refine condX_intro (fun h1 => ?_) (fun h1 => ?_)) <;> (try simp only [decide_eq_true_eq, decide_eq_false_iff_not, Bool.not_eq_true', Bool.not_eq_false', Bool.and_eq_true, Bool.or_eq_true, not_true_eq_false, not_false_eq_true] at h1)
  · have hi' : i < l.length := by omega
    have hst := any_take_succ (p := fun x : Sym => decide (x.name = n)) hi'
    (repeat (first | (simp (disch := first | exact dis1 | fail) only [evA, Nat.reduceBEq, Nat.reduceAdd, Nat.reduceLeDiff, boxR, rboxR, allocR, fldR, binI, unR, pickR, mknilR, mkslR, buildSlR, buildR, extR, convI, eqB, evU, wrap64, getD_map hi', Sym.three, Sym.flat, Sym.c0, Sym.len]) | (with_reducible intro _) | ((with_reducible apply And.intro); omega)))
    (refine condX_intro (fun h3 => ?_) (fun h3 => ?_)) <;> (try simp only [decide_eq_true_eq, decide_eq_false_iff_not, Bool.not_eq_true', Bool.not_eq_false', Bool.and_eq_true, Bool.or_eq_true, not_true_eq_false, not_false_eq_true] at h3)
    · (repeat (first | (simp (disch := first | exact dis1 | fail) only [evA, Nat.reduceBEq, Nat.reduceAdd, Nat.reduceLeDiff, boxR, rboxR, allocR, fldR, binI, unR, pickR, mknilR, mkslR, buildSlR, buildR, extR, convI, eqB, evU, wrap64, getD_map hi', Sym.three, Sym.len, Sym.flat, noY_cells, rs_symbol_Find]) | (with_reducible intro _) | ((with_reducible apply And.intro); omega)))
      rw [foundY, (hitY_at hi' h3 hno).1, (hitY_at hi' h3 hno).2]
      exact ⟨_, frzY, rfl⟩
    · (repeat (first | (simp (disch := first | exact dis1 | fail) only [evA, Nat.reduceBEq, Nat.reduceAdd, Nat.reduceLeDiff, boxR, rboxR, allocR, fldR, binI, unR, pickR, mknilR, mkslR, buildSlR, buildR, extR, convI, eqB, evU, wrap64]) | (with_reducible intro _) | ((with_reducible apply And.intro); omega)))
      exact ⟨i + 1, ⟨by omega, by rw [hst, hno, decide_eq_false h3]; rfl⟩, by omega, (Ent.tab [(0, 0, 0)] [] rfl (by (try simp only [evWA, Nat.reduceBEq, Nat.reduceAdd, Nat.reduceSub, Nat.reduceLeDiff, Nat.reduceLT, implies_true, and_self, Int.natCast_zero, Int.natCast_one, Int.cast_ofNat_Int, evV, encInts, encNats, encBools, encP, noY_cells]) <;> exact fin1) (by (try simp only [evWA, Nat.reduceBEq, Nat.reduceAdd, Nat.reduceSub, Nat.reduceLeDiff, Nat.reduceLT, implies_true, and_self, Int.natCast_zero, Int.natCast_one, Int.cast_ofNat_Int, evV, encInts, encNats, encBools, encP, noY_cells]) <;> exact fin1))⟩
  · rw [show i = l.length by omega, List.take_length] at hno
    unfold ac_symbol_Find_k1
    (repeat (first | (simp (disch := first | exact dis1 | fail) only [evA, Nat.reduceBEq, Nat.reduceAdd, Nat.reduceLeDiff, boxR, rboxR, allocR, fldR, binI, unR, pickR, mknilR, mkslR, buildSlR, buildR, extR, convI, eqB, evU, wrap64, noY_cells, rs_symbol_Find]) | (with_reducible intro _) | ((with_reducible apply And.intro); omega)))
    rw [foundY, (hitY_none hno).1, (hitY_none hno).2]
    exact ⟨_, frzY (s := noY), rfl⟩

end Go.Ab

namespace Go.Ab
open Go.RowKit Go.Proofs

/-- The entries of the map of names. -/
def seenY : List Sym → Nat → List (List AV)
  | [], _ => []
  | s :: r, b => [.str s.name, .bool true, .int .i64 b] :: seenY r (b + 1)

theorem seenY_snoc {s : Sym} : ∀ {l : List Sym} {b : Nat}, seenY (l ++ [s]) b = seenY l b ++ [[.str s.name, .bool true, .int .i64 ((b + l.length : Nat) : Int)]]
  | [], b => rfl
  | x :: r, b => by
    show _ :: seenY (r ++ [s]) (b + 1) = _
    rw [seenY_snoc]
    simp only [seenY, List.cons_append, List.length_cons]
    rw [show b + 1 + r.length = b + (r.length + 1) by omega]

theorem seenY_flat : ∀ {l : List Sym} {b : Nat}, FlatRows (seenY l b)
  | [], _ => by simp [seenY, FlatRows]
  | x :: r, b => by
    rw [seenY, flatRows_cons]
    exact ⟨rfl, seenY_flat⟩

theorem seenY_find {n : ByteArray} : ∀ {l : List Sym} {b i : Nat}, (l.any (fun s => decide (s.name = n)) = true ∧ ∃ j, mfind (.str n) (seenY l b) i = some (some (j, .bool true))) ∨ (l.any (fun s => decide (s.name = n)) = false ∧ mfind (.str n) (seenY l b) i = some none)
  | [], _, _ => .inr ⟨rfl, rfl⟩
  | x :: r, b, i => by
    by_cases h : n = x.name
    · refine .inl ⟨?_, i, ?_⟩
      · rw [List.any_cons, decide_eq_true h.symm]; rfl
      · simp only [seenY, mfind, keyEq, decide_eq_true h]
    · rw [List.any_cons, decide_eq_false (fun e => h e.symm), Bool.false_or]
      have e : mfind (.str n) (seenY (x :: r) b) i = mfind (.str n) (seenY r (b + 1)) (i + 1) := by
        simp only [seenY, mfind, keyEq, decide_eq_false h]
      rw [e]
      exact seenY_find

theorem vw_mp0 {H H2 : AH} {ds : List Nat} : Vw H H2 (Tab.sig [(0, 0, 0)]) (inD ds) true (.mp 0) (.mp 0) = True := eq_true (.mp _ _ rfl)

theorem symbol_Check_ok (l : List Sym) (hl : ∀ s ∈ l, s.ok) : PureFn Try.prog f_symbol_Check [encL 3 Sym.cells l] (· = .int .i64 (checkY l)) := by
  refine fn_x cf_symbol_Check rfl ?_
  unfold ac_symbol_Check
  have hB : big = 9223372036854775807 := rfl
  (repeat (first | (simp (disch := first | exact dis1 | fail) only [evA, Nat.reduceBEq, Nat.reduceAdd, Nat.reduceLeDiff, boxR, rboxR, allocR, fldR, binI, unR, pickR, mknilR, mkslR, buildSlR, buildR, extR, convI, eqB, evU, wrap64]) | (with_reducible intro _) | ((with_reducible apply And.intro); omega)))
  (refine condX_intro (fun h0 => ?_) (fun h0 => ?_)) <;> (try simp only [decide_eq_true_eq, decide_eq_false_iff_not, Bool.not_eq_true', Bool.not_eq_false', Bool.and_eq_true, Bool.or_eq_true, not_true_eq_false, not_false_eq_true] at h0)
  · (repeat (first | (simp (disch := first | exact dis1 | fail) only [evA, Nat.reduceBEq, Nat.reduceAdd, Nat.reduceLeDiff, boxR, rboxR, allocR, fldR, binI, unR, pickR, mknilR, mkslR, buildSlR, buildR, extR, convI, eqB, evU, wrap64, rs_symbol_Check]) | (with_reducible intro _) | ((with_reducible apply And.intro); omega)))
    refine ⟨_, .int _ _ _, ?_⟩
    unfold checkY
    rw [if_pos (by omega)]
  have hll : l.length ≤ 256 := by omega
  have hval : checkY l = thenE (firstE symName l l.length 0) (thenE (firstE symTwice l l.length 0) (firstE symKind l l.length 0)) := by unfold checkY; rw [if_neg (by omega)]
  rw [hval]
  clear hval
  generalize hR : firstE symName l l.length 0 = R
  generalize hR2 : firstE symTwice l l.length 0 = R2
  generalize hR3 : firstE symKind l l.length 0 = R3
  (repeat (first | (simp (disch := first | exact dis1 | fail) only [evA, Nat.reduceBEq, Nat.reduceAdd, Nat.reduceLeDiff, boxR, rboxR, allocR, fldR, binI, unR, pickR, mknilR, mkslR, buildSlR, buildR, extR, convI, eqB, evU, wrap64]) | (with_reducible intro _) | ((with_reducible apply And.intro); omega)))
  refine loopX_intro (fun i : Nat => ([(0, encL 3 Sym.cells l), (13, encL 3 Sym.cells l), (14, .int .i64 l.length), (15, .int .i64 i)], [])) 0 (fun i => i ≤ l.length ∧ firstE symName l (l.length - i) i = R) (fun i => l.length - i) 0 ⟨Nat.zero_le _, hR⟩ (Ent.keep rfl (by (try simp [subK, Kn.get, beq_eq]) <;> (repeat' with_reducible apply And.intro) <;> first | rfl | omega | (simp; done))) ?_
  rintro i ⟨hi, hgo⟩ wf
  unfold ac_symbol_Check_l0
  (repeat (first | (simp (disch := first | exact dis1 | fail) only [evA, Nat.reduceBEq, Nat.reduceAdd, Nat.reduceLeDiff, boxR, rboxR, allocR, fldR, binI, unR, pickR, mknilR, mkslR, buildSlR, buildR, extR, convI, eqB, evU, wrap64]) | (with_reducible intro _) | ((with_reducible apply And.intro); omega)))
  (refine condX_intro (fun h1 => ?_) (fun h1 => ?_)) <;> (try simp only [decide_eq_true_eq, decide_eq_false_iff_not, Bool.not_eq_true', Bool.not_eq_false', Bool.and_eq_true, Bool.or_eq_true, not_true_eq_false, not_false_eq_true] at h1)
  · have hi' : i < l.length := by omega
    have hs := hl _ (List.getElem_mem hi')
    rw [show l.length - i = (l.length - (i + 1)) + 1 by omega, firstE_step hi'] at hgo
    (repeat (first | (simp (disch := first | exact dis1 | fail) only [evA, Nat.reduceBEq, Nat.reduceAdd, Nat.reduceLeDiff, boxR, rboxR, allocR, fldR, binI, unR, pickR, mknilR, mkslR, buildSlR, buildR, extR, convI, eqB, evU, wrap64, getD_map hi', Sym.three, Sym.flat, Sym.c0, Sym.len]) | (with_reducible intro _) | ((with_reducible apply And.intro); omega)))
    refine callX_fix (call_flat (symbol_name_ok _ hs) rfl) ?_
    cases hn : nameOk l[i].name with
    | false =>
      have h3 : symName (l.take i) l[i] = 3 := by unfold symName; rw [if_pos hn]
      rw [h3, if_pos (by decide)] at hgo
      (repeat (first | (simp (disch := first | exact dis1 | fail) only [evA, Nat.reduceBEq, Nat.reduceAdd, Nat.reduceLeDiff, boxR, rboxR, allocR, fldR, binI, unR, pickR, mknilR, mkslR, buildSlR, buildR, extR, convI, eqB, evU, wrap64, rs_symbol_Check]) | (with_reducible intro _) | ((with_reducible apply And.intro); omega)))
      refine ⟨_, .int _ _ _, ?_⟩
      rw [← hgo]
      rfl
    | true =>
      have h3 : symName (l.take i) l[i] = 0 := by unfold symName; rw [if_neg (by rw [hn]; decide)]
      rw [h3, if_neg (by decide)] at hgo
      (repeat (first | (simp (disch := first | exact dis1 | fail) only [evA, Nat.reduceBEq, Nat.reduceAdd, Nat.reduceLeDiff, boxR, rboxR, allocR, fldR, binI, unR, pickR, mknilR, mkslR, buildSlR, buildR, extR, convI, eqB, evU, wrap64]) | (with_reducible intro _) | ((with_reducible apply And.intro); omega)))
      exact ⟨i + 1, ⟨by omega, hgo⟩, by omega, (Ent.tab [] [] rfl (by (try simp only [evWA, Nat.reduceBEq, Nat.reduceAdd, Nat.reduceSub, Nat.reduceLeDiff, Nat.reduceLT, implies_true, and_self, Int.natCast_zero, Int.natCast_one, Int.cast_ofNat_Int, evV, encInts, encNats, encBools, encP]) <;> exact fin1) (by (try simp only [evWA, Nat.reduceBEq, Nat.reduceAdd, Nat.reduceSub, Nat.reduceLeDiff, Nat.reduceLT, implies_true, and_self, Int.natCast_zero, Int.natCast_one, Int.cast_ofNat_Int, evV, encInts, encNats, encBools, encP]) <;> exact fin1))⟩
  rw [firstE_end (by omega)] at hgo
  subst hgo
  rw [show ∀ b : Int, thenE 0 b = b from fun _ => rfl]
  unfold ac_symbol_Check_k5
  (repeat (first | (simp (disch := first | exact dis1 | fail) only [evA, Nat.reduceBEq, Nat.reduceAdd, Nat.reduceLeDiff, boxR, rboxR, allocR, fldR, binI, unR, pickR, mknilR, mkslR, buildSlR, buildR, extR, convI, eqB, evU, wrap64]) | (with_reducible intro _) | ((with_reducible apply And.intro); omega)))
  refine loopX_intro (fun k : Nat => ([(0, encL 3 Sym.cells l), (5, .mp 0), (25, encL 3 Sym.cells l), (26, .int .i64 l.length), (27, .int .i64 k)], [(0, .row 3 ([.int .i64 k, .undef, .undef] :: seenY (l.take k) 0) 0)])) 1 (fun i => i ≤ l.length ∧ firstE symTwice l (l.length - i) i = R2) (fun i => l.length - i) 0 ⟨Nat.zero_le _, hR2⟩ (Ent.keep rfl (by (try simp [subK, Kn.get, beq_eq]) <;> (repeat' with_reducible apply And.intro) <;> first | rfl | omega | (simp; done))) ?_
  rintro k ⟨hi, hgo⟩ wf
  unfold ac_symbol_Check_l1
  (repeat (first | (simp (disch := first | exact dis1 | fail) only [evA, Nat.reduceBEq, Nat.reduceAdd, Nat.reduceLeDiff, boxR, rboxR, allocR, fldR, binI, unR, pickR, mknilR, mkslR, buildSlR, buildR, extR, convI, eqB, evU, wrap64]) | (with_reducible intro _) | ((with_reducible apply And.intro); omega)))
  (refine condX_intro (fun h2 => ?_) (fun h2 => ?_)) <;> (try simp only [decide_eq_true_eq, decide_eq_false_iff_not, Bool.not_eq_true', Bool.not_eq_false', Bool.and_eq_true, Bool.or_eq_true, not_true_eq_false, not_false_eq_true] at h2)
  · have hi' : k < l.length := by omega
    have hs := hl _ (List.getElem_mem hi')
    rw [show l.length - k = (l.length - (k + 1)) + 1 by omega, firstE_step hi'] at hgo
    have hsn : seenY (l.take (k + 1)) 0 = seenY (l.take k) 0 ++ [[.str l[k].name, .bool true, .int .i64 k]] := by
      rw [List.take_succ_eq_append_getElem hi', seenY_snoc, List.length_take, Nat.min_eq_left hi, Nat.zero_add]
    rcases seenY_find (n := l[k].name) (l := l.take k) (b := 0) (i := 0) with ⟨hany, j, hf⟩ | ⟨hany, hf⟩
    · have h8 : symTwice (l.take k) l[k] = 8 := by unfold symTwice; rw [if_pos hany]
      rw [h8, if_pos (by decide)] at hgo
      (repeat (first | (simp (disch := first | exact dis1 | fail) only [evA, Nat.reduceBEq, Nat.reduceAdd, Nat.reduceLeDiff, boxR, rboxR, allocR, fldR, binI, unR, pickR, mknilR, mkslR, buildSlR, buildR, extR, convI, eqB, evU, wrap64, getD_map hi', Sym.three, Sym.flat, Sym.c0, Sym.len, hf, rs_symbol_Check]) | (with_reducible intro _) | ((with_reducible apply And.intro); omega)))
      refine ⟨_, .int _ _ _, ?_⟩
      rw [← hgo]
      rfl
    · have h8 : symTwice (l.take k) l[k] = 0 := by unfold symTwice; rw [if_neg (by rw [hany]; decide)]
      rw [h8, if_neg (by decide)] at hgo
      (repeat (first | (simp (disch := first | exact dis1 | fail) only [evA, Nat.reduceBEq, Nat.reduceAdd, Nat.reduceLeDiff, boxR, rboxR, allocR, fldR, binI, unR, pickR, mknilR, mkslR, buildSlR, buildR, extR, convI, eqB, evU, wrap64, getD_map hi', Sym.three, Sym.flat, Sym.c0, Sym.len, hf]) | (with_reducible intro _) | ((with_reducible apply And.intro); omega)))
      exact ⟨k + 1, ⟨by omega, hgo⟩, by omega, (Ent.tab [(0, 0, 0)] [] rfl (by (try simp only [evWA, Nat.reduceBEq, Nat.reduceAdd, Nat.reduceSub, Nat.reduceLeDiff, Nat.reduceLT, implies_true, and_self, Int.natCast_zero, Int.natCast_one, Int.cast_ofNat_Int, evV, encInts, encNats, encBools, encP, hsn, Int.natCast_add, Int.natCast_one, seenY_flat, vw_mp0]) <;> exact fin1) (by (try simp only [evWA, Nat.reduceBEq, Nat.reduceAdd, Nat.reduceSub, Nat.reduceLeDiff, Nat.reduceLT, implies_true, and_self, Int.natCast_zero, Int.natCast_one, Int.cast_ofNat_Int, evV, encInts, encNats, encBools, encP, hsn, Int.natCast_add, Int.natCast_one, seenY_flat, vw_mp0]) <;> exact fin1))⟩
  rw [firstE_end (by omega)] at hgo
  subst hgo
  rw [show ∀ b : Int, thenE 0 b = b from fun _ => rfl]
  unfold ac_symbol_Check_k4
  (repeat (first | (simp (disch := first | exact dis1 | fail) only [evA, Nat.reduceBEq, Nat.reduceAdd, Nat.reduceLeDiff, boxR, rboxR, allocR, fldR, binI, unR, pickR, mknilR, mkslR, buildSlR, buildR, extR, convI, eqB, evU, wrap64]) | (with_reducible intro _) | ((with_reducible apply And.intro); omega)))
  refine loopX_intro (fun i : Nat => ([(39, encL 3 Sym.cells l), (40, .int .i64 l.length), (41, .int .i64 i)], [])) 0 (fun i => i ≤ l.length ∧ firstE symKind l (l.length - i) i = R3) (fun i => l.length - i) 0 ⟨Nat.zero_le _, hR3⟩ (Ent.tab [] [] rfl (by (try simp only [evWA, Nat.reduceBEq, Nat.reduceAdd, Nat.reduceSub, Nat.reduceLeDiff, Nat.reduceLT, implies_true, and_self, Int.natCast_zero, Int.natCast_one, Int.cast_ofNat_Int, evV, encInts, encNats, encBools, encP]) <;> exact fin1) (by (try simp only [evWA, Nat.reduceBEq, Nat.reduceAdd, Nat.reduceSub, Nat.reduceLeDiff, Nat.reduceLT, implies_true, and_self, Int.natCast_zero, Int.natCast_one, Int.cast_ofNat_Int, evV, encInts, encNats, encBools, encP]) <;> exact fin1)) ?_
  rintro i ⟨hi, hgo⟩ wf
  unfold ac_symbol_Check_l2
  (repeat (first | (simp (disch := first | exact dis1 | fail) only [evA, Nat.reduceBEq, Nat.reduceAdd, Nat.reduceLeDiff, boxR, rboxR, allocR, fldR, binI, unR, pickR, mknilR, mkslR, buildSlR, buildR, extR, convI, eqB, evU, wrap64]) | (with_reducible intro _) | ((with_reducible apply And.intro); omega)))
  (refine condX_intro (fun h2 => ?_) (fun h2 => ?_)) <;> (try simp only [decide_eq_true_eq, decide_eq_false_iff_not, Bool.not_eq_true', Bool.not_eq_false', Bool.and_eq_true, Bool.or_eq_true, not_true_eq_false, not_false_eq_true] at h2)
  · have hi' : i < l.length := by omega
    rw [show l.length - i = (l.length - (i + 1)) + 1 by omega, firstE_step hi'] at hgo
    (repeat (first | (simp (disch := first | exact dis1 | fail) only [evA, Nat.reduceBEq, Nat.reduceAdd, Nat.reduceLeDiff, boxR, rboxR, allocR, fldR, binI, unR, pickR, mknilR, mkslR, buildSlR, buildR, extR, convI, eqB, evU, wrap64, getD_map hi', Sym.three, Sym.flat, Sym.c2, Sym.len]) | (with_reducible intro _) | ((with_reducible apply And.intro); omega)))
    by_cases d1 : l[i].kind = 1
    · have h2 : symKind (l.take i) l[i] = 0 := by unfold symKind; rw [if_neg (by omega)]
      rw [h2, if_neg (by decide)] at hgo
      (repeat (first | (simp (disch := first | exact dis1 | fail) only [evA, Nat.reduceBEq, Nat.reduceAdd, Nat.reduceLeDiff, boxR, rboxR, allocR, fldR, binI, unR, pickR, mknilR, mkslR, buildSlR, buildR, extR, convI, eqB, evU, wrap64, dT, dF, d1, Sym.c2, Sym.len]) | (with_reducible intro _) | ((with_reducible apply And.intro); omega)))
      exact ⟨i + 1, ⟨by omega, hgo⟩, by omega, (Ent.tab [] [] rfl (by (try simp only [evWA, Nat.reduceBEq, Nat.reduceAdd, Nat.reduceSub, Nat.reduceLeDiff, Nat.reduceLT, implies_true, and_self, Int.natCast_zero, Int.natCast_one, Int.cast_ofNat_Int, evV, encInts, encNats, encBools, encP]) <;> exact fin1) (by (try simp only [evWA, Nat.reduceBEq, Nat.reduceAdd, Nat.reduceSub, Nat.reduceLeDiff, Nat.reduceLT, implies_true, and_self, Int.natCast_zero, Int.natCast_one, Int.cast_ofNat_Int, evV, encInts, encNats, encBools, encP]) <;> exact fin1))⟩
    · by_cases d2 : l[i].kind = 2
      · have h2 : symKind (l.take i) l[i] = 0 := by unfold symKind; rw [if_neg (by omega)]
        rw [h2, if_neg (by decide)] at hgo
        (repeat (first | (simp (disch := first | exact dis1 | fail) only [evA, Nat.reduceBEq, Nat.reduceAdd, Nat.reduceLeDiff, boxR, rboxR, allocR, fldR, binI, unR, pickR, mknilR, mkslR, buildSlR, buildR, extR, convI, eqB, evU, wrap64, dT, dF, getD_map hi', Sym.c2, Sym.len, d2]) | (with_reducible intro _) | ((with_reducible apply And.intro); omega)))
        exact ⟨i + 1, ⟨by omega, hgo⟩, by omega, (Ent.tab [] [] rfl (by (try simp only [evWA, Nat.reduceBEq, Nat.reduceAdd, Nat.reduceSub, Nat.reduceLeDiff, Nat.reduceLT, implies_true, and_self, Int.natCast_zero, Int.natCast_one, Int.cast_ofNat_Int, evV, encInts, encNats, encBools, encP]) <;> exact fin1) (by (try simp only [evWA, Nat.reduceBEq, Nat.reduceAdd, Nat.reduceSub, Nat.reduceLeDiff, Nat.reduceLT, implies_true, and_self, Int.natCast_zero, Int.natCast_one, Int.cast_ofNat_Int, evV, encInts, encNats, encBools, encP]) <;> exact fin1))⟩
      · have h2 : symKind (l.take i) l[i] = 2 := by unfold symKind; rw [if_pos ⟨d1, d2⟩]
        rw [h2, if_pos (by decide)] at hgo
        (repeat (first | (simp (disch := first | exact dis1 | fail) only [evA, Nat.reduceBEq, Nat.reduceAdd, Nat.reduceLeDiff, boxR, rboxR, allocR, fldR, binI, unR, pickR, mknilR, mkslR, buildSlR, buildR, extR, convI, eqB, evU, wrap64, dT, dF, getD_map hi', Sym.c2, Sym.len, rs_symbol_Check]) | (with_reducible intro _) | ((with_reducible apply And.intro); omega)))
        refine ⟨_, .int _ _ _, ?_⟩
        rw [← hgo]
  · rw [firstE_end (by omega)] at hgo
    unfold ac_symbol_Check_k3
    (repeat (first | (simp (disch := first | exact dis1 | fail) only [evA, Nat.reduceBEq, Nat.reduceAdd, Nat.reduceLeDiff, boxR, rboxR, allocR, fldR, binI, unR, pickR, mknilR, mkslR, buildSlR, buildR, extR, convI, eqB, evU, wrap64, rs_symbol_Check]) | (with_reducible intro _) | ((with_reducible apply And.intro); omega)))
    refine ⟨_, .int _ _ _, ?_⟩
    rw [← hgo]

end Go.Ab

namespace Go.Ab
open Go.RowKit Go.Proofs

structure Bin.ok (o : Bin) : Prop where
  secs : ∀ s ∈ o.secs, s.ok
  syms : ∀ s ∈ o.syms, s.ok
  lY : o.syms.length ≤ 1000000
  lR : o.rels.length ≤ 1000000

structure Bin.okN (o : Bin) : Prop where
  secs : ∀ s ∈ o.secs, s.okN
  syms : ∀ s ∈ o.syms, s.ok
  lY : o.syms.length ≤ 1000000
  lR : o.rels.length ≤ 1000000

theorem Bin.okOf {o : Bin} (h : o.okN) (hS : checkS o.secs = 0) : o.ok := ⟨secs_ok h.secs (checkS_one hS), h.syms, h.lY, h.lR⟩

theorem Bin.c0 (o : Bin) : o.cells.getD 0 .undef = .int .u32 (o.entry.toNat : Int) := rfl
theorem Bin.c1 (o : Bin) : o.cells.getD 1 .undef = encL 5 Sec.cells o.secs := rfl
theorem Bin.c2 (o : Bin) : o.cells.getD 2 .undef = encL 3 Sym.cells o.syms := rfl
theorem Bin.c3 (o : Bin) : o.cells.getD 3 .undef = encL 5 Rel.cells o.rels := rfl
theorem Bin.len (o : Bin) : o.cells.length = 4 := rfl
theorem Bin.flat (o : Bin) : allFlat o.cells = true := rfl
theorem Bin.four (o : Bin) : [o.cells.getD 0 .undef, o.cells.getD 1 .undef, o.cells.getD 2 .undef, o.cells.getD 3 .undef] = o.cells := rfl
theorem Rel.c0 (r : Rel) : r.cells.getD 0 .undef = .int .i64 r.sec := rfl
theorem Rel.c1 (r : Rel) : r.cells.getD 1 .undef = .int .i64 r.off := rfl
theorem Rel.c2 (r : Rel) : r.cells.getD 2 .undef = .int .i64 r.kind := rfl
theorem Rel.c3 (r : Rel) : r.cells.getD 3 .undef = .str r.sym := rfl
theorem Rel.len (r : Rel) : r.cells.length = 5 := rfl
theorem Rel.flat (r : Rel) : allFlat r.cells = true := rfl
theorem Rel.five (r : Rel) : [r.cells.getD 0 .undef, r.cells.getD 1 .undef, r.cells.getD 2 .undef, r.cells.getD 3 .undef, r.cells.getD 4 .undef] = r.cells := rfl
theorem Sec.c2 (s : Sec) : s.cells.getD 2 .undef = encL 1 cByte s.data := rfl
theorem Sec.c0 (s : Sec) : s.cells.getD 0 .undef = .str s.name := rfl
theorem Sec.c1 (s : Sec) : s.cells.getD 1 .undef = .int .u32 (s.addr.toNat : Int) := rfl
theorem Sec.c4 (s : Sec) : s.cells.getD 4 .undef = .bool s.ex := rfl

theorem oneR_2 {o : Bin} {pre : List Rel} {r : Rel} (h : (r.kind ≠ 1 ∧ r.kind ≠ 2) ∨ r.sec < 0 ∨ (o.secs.length : Int) ≤ r.sec) : oneR o pre r = 2 := by
  unfold oneR; rw [if_pos h]
theorem oneR_in {o : Bin} {pre : List Rel} {r : Rel} (h : ¬ ((r.kind ≠ 1 ∧ r.kind ≠ 2) ∨ r.sec < 0 ∨ (o.secs.length : Int) ≤ r.sec)) (hs : r.sec.toNat < o.secs.length) :
    oneR o pre r = if r.off < 0 ∨ (o.secs[r.sec.toNat].data.length : Int) - 4 < r.off then 7 else if hasY o.syms r.sym = false then 17 else 0 := by
  unfold oneR
  rw [if_neg h, List.getElem?_eq_getElem hs]
  rfl

end Go.Ab

namespace Go.Ab
open Go.RowKit Go.Proofs

theorem reloc_one_ok (o : Bin) (ho : o.ok) (r : Rel) (pre : List Rel) : PureFn Try.prog f_reloc_one [.agg o.cells, .agg r.cells] (· = .int .i64 (oneR o pre r)) := by
  refine fn_x cf_reloc_one rfl ?_
  unfold ac_reloc_one
  have hB : big = 9223372036854775807 := rfl
  (repeat (first | (simp (disch := first | exact dis1 | fail) only [evA, Nat.reduceBEq, Nat.reduceAdd, Nat.reduceLeDiff, boxR, rboxR, allocR, fldR, binI, unR, pickR, mknilR, mkslR, buildSlR, buildR, extR, convI, eqB, evU, wrap64, Bin.len, Bin.flat, Rel.len, Rel.flat]) | (with_reducible intro _) | ((with_reducible apply And.intro); omega)))
  by_cases h2 : (r.kind ≠ 1 ∧ r.kind ≠ 2) ∨ r.sec < 0 ∨ (o.secs.length : Int) ≤ r.sec
  · rw [oneR_2 h2]
    rcases h2 with h2 | h2 | h2
    · (repeat (first | (simp (disch := first | exact dis1 | fail) only [evA, Nat.reduceBEq, Nat.reduceAdd, Nat.reduceLeDiff, boxR, rboxR, allocR, fldR, binI, unR, pickR, mknilR, mkslR, buildSlR, buildR, extR, convI, eqB, evU, wrap64, dT, dF, Rel.c2, Rel.c0, Bin.c1, rs_reloc_one]) | (with_reducible intro _) | ((with_reducible apply And.intro); omega)))
      exact ⟨_, .int _ _ _, rfl⟩
    · rcases (by omega : r.kind = 1 ∨ r.kind = 2 ∨ (r.kind ≠ 1 ∧ r.kind ≠ 2)) with hk | hk | hk
      all_goals
        (repeat (first | (simp (disch := first | exact dis1 | fail) only [evA, Nat.reduceBEq, Nat.reduceAdd, Nat.reduceLeDiff, boxR, rboxR, allocR, fldR, binI, unR, pickR, mknilR, mkslR, buildSlR, buildR, extR, convI, eqB, evU, wrap64, dT, dF, Rel.c2, Rel.c0, Bin.c1, rs_reloc_one]) | (with_reducible intro _) | ((with_reducible apply And.intro); omega)))
        exact ⟨_, .int _ _ _, rfl⟩
    · rcases (by omega : r.kind = 1 ∨ r.kind = 2 ∨ (r.kind ≠ 1 ∧ r.kind ≠ 2)) with hk | hk | hk
      all_goals
        (repeat (first | (simp (disch := first | exact dis1 | fail) only [evA, Nat.reduceBEq, Nat.reduceAdd, Nat.reduceLeDiff, boxR, rboxR, allocR, fldR, binI, unR, pickR, mknilR, mkslR, buildSlR, buildR, extR, convI, eqB, evU, wrap64, dT, dF, Rel.c2, Rel.c0, Bin.c1, rs_reloc_one]) | (with_reducible intro _) | ((with_reducible apply And.intro); omega)))
        exact ⟨_, .int _ _ _, rfl⟩
  have hs : r.sec.toNat < o.secs.length := by omega
  have hsec := (ho.secs _ (List.getElem_mem hs)).1
  have hf := symbol_Find_ok o.syms r.sym ho.lY
  rw [oneR_in h2 hs]
  rcases (by omega : r.kind = 1 ∨ r.kind = 2) with hk | hk
  all_goals
    (repeat (first | (simp (disch := first | exact dis1 | fail) only [evA, Nat.reduceBEq, Nat.reduceAdd, Nat.reduceLeDiff, boxR, rboxR, allocR, fldR, binI, unR, pickR, mknilR, mkslR, buildSlR, buildR, extR, convI, eqB, evU, wrap64, dT, dF, Rel.c2, Rel.c0, Bin.c1]) | (with_reducible intro _) | ((with_reducible apply And.intro); omega)))
    by_cases h7 : r.off < 0 ∨ (o.secs[r.sec.toNat].data.length : Int) - 4 < r.off
    · rw [if_pos h7]
      rcases h7 with h7 | h7
      · (repeat (first | (simp (disch := first | exact dis1 | fail) only [evA, Nat.reduceBEq, Nat.reduceAdd, Nat.reduceLeDiff, boxR, rboxR, allocR, fldR, binI, unR, pickR, mknilR, mkslR, buildSlR, buildR, extR, convI, eqB, evU, wrap64, dT, dF, Rel.c1, rs_reloc_one]) | (with_reducible intro _) | ((with_reducible apply And.intro); omega)))
        exact ⟨_, .int _ _ _, rfl⟩
      · by_cases h8 : r.off < 0
        · (repeat (first | (simp (disch := first | exact dis1 | fail) only [evA, Nat.reduceBEq, Nat.reduceAdd, Nat.reduceLeDiff, boxR, rboxR, allocR, fldR, binI, unR, pickR, mknilR, mkslR, buildSlR, buildR, extR, convI, eqB, evU, wrap64, dT, dF, Rel.c1, rs_reloc_one]) | (with_reducible intro _) | ((with_reducible apply And.intro); omega)))
          exact ⟨_, .int _ _ _, rfl⟩
        · (repeat (first | (simp (disch := first | exact dis1 | fail) only [evA, Nat.reduceBEq, Nat.reduceAdd, Nat.reduceLeDiff, boxR, rboxR, allocR, fldR, binI, unR, pickR, mknilR, mkslR, buildSlR, buildR, extR, convI, eqB, evU, wrap64, dT, dF, Rel.c1, Rel.c0, Bin.c1, getD_map hs, Sec.c2, Sec.len, rs_reloc_one]) | (with_reducible intro _) | ((with_reducible apply And.intro); omega)))
          exact ⟨_, .int _ _ _, rfl⟩
    · rw [if_neg h7]
      (repeat (first | (simp (disch := first | exact dis1 | fail) only [evA, Nat.reduceBEq, Nat.reduceAdd, Nat.reduceLeDiff, boxR, rboxR, allocR, fldR, binI, unR, pickR, mknilR, mkslR, buildSlR, buildR, extR, convI, eqB, evU, wrap64, dT, dF, Rel.c1, Rel.c0, Bin.c1, getD_map hs, Sec.c2, Sec.len, Bin.c2, Rel.c3]) | (with_reducible intro _) | ((with_reducible apply And.intro); omega)))
      refine callX_fix (call_flat hf rfl) ?_
      cases hh : hasY o.syms r.sym with
      | false =>
        (repeat (first | (simp (disch := first | exact dis1 | fail) only [evA, Nat.reduceBEq, Nat.reduceAdd, Nat.reduceLeDiff, boxR, rboxR, allocR, fldR, binI, unR, pickR, mknilR, mkslR, buildSlR, buildR, extR, convI, eqB, evU, wrap64, foundY, Sym.len, Sym.flat, hh, rs_reloc_one]) | (with_reducible intro _) | ((with_reducible apply And.intro); omega)))
        exact ⟨_, .int _ _ _, rfl⟩
      | true =>
        (repeat (first | (simp (disch := first | exact dis1 | fail) only [evA, Nat.reduceBEq, Nat.reduceAdd, Nat.reduceLeDiff, boxR, rboxR, allocR, fldR, binI, unR, pickR, mknilR, mkslR, buildSlR, buildR, extR, convI, eqB, evU, wrap64, foundY, Sym.len, Sym.flat, hh, rs_reloc_one]) | (with_reducible intro _) | ((with_reducible apply And.intro); omega)))
        exact ⟨_, .int _ _ _, rfl⟩


/-- The place of a relocation is in a section. -/
def Rel.inS (r : Rel) : Prop := 0 ≤ r.off ∧ r.off ≤ 1000000

theorem oneR_zero {o : Bin} (ho : o.ok) {pre : List Rel} {r : Rel} (h : oneR o pre r = 0) : r.inS := by
  by_cases h2 : (r.kind ≠ 1 ∧ r.kind ≠ 2) ∨ r.sec < 0 ∨ (o.secs.length : Int) ≤ r.sec
  · rw [oneR_2 h2] at h; cases h
  have hs : r.sec.toNat < o.secs.length := by omega
  have hsec := (ho.secs _ (List.getElem_mem hs)).1
  rw [oneR_in h2 hs] at h
  by_cases h7 : r.off < 0 ∨ (o.secs[r.sec.toNat].data.length : Int) - 4 < r.off
  · rw [if_pos h7] at h; cases h
  · exact ⟨by omega, by omega⟩

theorem relsIn {o : Bin} (ho : o.ok) (h : firstE (oneR o) o.rels o.rels.length 0 = 0) : ∀ r ∈ o.rels, r.inS := fun r hr => by
  obtain ⟨i, hi, rfl⟩ := List.mem_iff_getElem.1 hr
  exact oneR_zero ho (firstE_zero (by omega) h i hi (Nat.zero_le _))

theorem near_yes {a b : Rel} (h1 : a.sec = b.sec) (h2 : a.off - b.off < 4) (h3 : b.off - a.off < 4) : nearR a b = true := by
  unfold nearR; rw [decide_eq_true h1, decide_eq_true h2, decide_eq_true h3]; rfl
theorem near_no {a b : Rel} (h : ¬ (a.sec = b.sec ∧ a.off - b.off < 4 ∧ b.off - a.off < 4)) : nearR a b = false := by
  cases e : nearR a b with
  | false => rfl
  | true =>
    unfold nearR at e
    simp only [Bool.and_eq_true, decide_eq_true_eq] at e
    exact absurd ⟨e.1.1, e.1.2, e.2⟩ h

theorem lenR_sl {s n : Nat} {f : Nat → Nat → AV} {H : AH} {nx : Nat} : lenR (.sl s n f) H nx = ⟨True, n ≤ big, .int .i64 n, H, nx⟩ := rfl
theorem idxR_sl {s s' n : Nat} {k : IntKind} {i : Int} {f : Nat → Nat → AV} {H : AH} {nx : Nat} : idxR s (.sl s' n f) (.int k i) H nx = ⟨s' = s ∧ 0 ≤ i ∧ i < n, True, .iptr s (f i.toNat), H, nx⟩ := rfl

theorem lapR_08 {l : List Rel} : ∀ {n i : Nat}, firstE lapR l n i = 0 ∨ firstE lapR l n i = 10
  | 0, _ => .inl rfl
  | n + 1, i => by
    unfold firstE
    cases l[i]? with
    | none => exact .inl rfl
    | some x =>
      have : lapR (l.take i) x = 0 ∨ lapR (l.take i) x = 10 := by
        unfold lapR
        split
        · exact .inr rfl
        · exact .inl rfl
      dsimp only
      split
      · rcases this with h | h
        · exact absurd h (by assumption)
        · exact .inr h
      · exact lapR_08

theorem reloc_shared_ok (l : List Rel) (hll : l.length ≤ 1000000) (hin : ∀ r ∈ l, r.inS) : PureFn Try.prog f_reloc_shared [encL 5 Rel.cells l] (· = .bool (decide (firstE lapR l l.length 0 ≠ 0))) := by
  refine fn_x cf_reloc_shared rfl ?_
  unfold ac_reloc_shared
  have hB : big = 9223372036854775807 := rfl
  generalize hR : firstE lapR l l.length 0 = R
  (repeat (first | (simp (disch := first | exact dis1 | fail) only [evA, Nat.reduceBEq, Nat.reduceAdd, Nat.reduceLeDiff, boxR, rboxR, allocR, fldR, binI, unR, pickR, mknilR, mkslR, buildSlR, buildR, extR, convI, eqB, evU, wrap64]) | (with_reducible intro _) | ((with_reducible apply And.intro); omega)))
  refine loopX_intro (fun i : Nat => ([(0, encL 5 Rel.cells l), (3, .bool false), (8, encL 5 Rel.cells l), (9, .int .i64 l.length), (10, .int .i64 i)], [])) 0 (fun i => i ≤ l.length ∧ firstE lapR l (l.length - i) i = R) (fun i => l.length - i) 0 ⟨Nat.zero_le _, hR⟩ (Ent.keep rfl (by (try simp [subK, Kn.get, beq_eq]) <;> (repeat' with_reducible apply And.intro) <;> first | rfl | omega | (simp; done))) ?_
  rintro i ⟨hi, hgo⟩ wf
  unfold ac_reloc_shared_l2
  (repeat (first | (simp (disch := first | exact dis1 | fail) only [evA, Nat.reduceBEq, Nat.reduceAdd, Nat.reduceLeDiff, boxR, rboxR, allocR, fldR, binI, unR, pickR, mknilR, mkslR, buildSlR, buildR, extR, convI, eqB, evU, wrap64]) | (with_reducible intro _) | ((with_reducible apply And.intro); omega)))
  (refine condX_intro (fun h1 => ?_) (fun h1 => ?_)) <;> (try simp only [decide_eq_true_eq, decide_eq_false_iff_not, Bool.not_eq_true', Bool.not_eq_false', Bool.and_eq_true, Bool.or_eq_true, not_true_eq_false, not_false_eq_true] at h1)
  · have hi' : i < l.length := by omega
    have hri := hin _ (List.getElem_mem hi')
    rw [show l.length - i = (l.length - (i + 1)) + 1 by omega, firstE_step hi'] at hgo
    have hi3 : ((i : Int) - 0).toNat = i := by omega
    (repeat (first | (simp (disch := first | exact dis1 | fail) only [evA, Nat.reduceBEq, Nat.reduceAdd, Nat.reduceLeDiff, boxR, rboxR, allocR, fldR, binI, unR, pickR, mknilR, mkslR, buildSlR, buildR, extR, convI, eqB, evU, wrap64, getD_map hi', Rel.five, Rel.len, Rel.flat, sliceR_to, hi3, Int.toNat_zero, lenR_sl]) | (with_reducible intro _) | ((with_reducible apply And.intro); omega)))
    refine loopX_intro (fun k : Nat => ([(0, encL 5 Rel.cells l), (3, .bool false), (5, .ptr 0 0 0 0 0), (8, encL 5 Rel.cells l), (9, .int .i64 l.length), (10, .int .i64 i), (17, .sl 5 i (fun a j => ((l.map Rel.cells).getD (0 + a) []).getD j .undef)), (18, .int .i64 i), (19, .int .i64 k)], [(0, .row 5 [l[i].cells] 0)])) 1 (fun k => k ≤ i ∧ (l.take k).any (fun x => nearR l[i] x) = false) (fun k => i - k) 0 ⟨Nat.zero_le _, rfl⟩ (Ent.keep rfl (by (try simp [subK, Kn.get, beq_eq]) <;> (repeat' with_reducible apply And.intro) <;> first | rfl | omega | (simp; done))) ?_
    rintro k ⟨hk, hno⟩ wf
    unfold ac_reloc_shared_l0
    (repeat (first | (simp (disch := first | exact dis1 | fail) only [evA, Nat.reduceBEq, Nat.reduceAdd, Nat.reduceLeDiff, boxR, rboxR, allocR, fldR, binI, unR, pickR, mknilR, mkslR, buildSlR, buildR, extR, convI, eqB, evU, wrap64]) | (with_reducible intro _) | ((with_reducible apply And.intro); omega)))
    (refine condX_intro (fun h2 => ?_) (fun h2 => ?_)) <;> (try simp only [decide_eq_true_eq, decide_eq_false_iff_not, Bool.not_eq_true', Bool.not_eq_false', Bool.and_eq_true, Bool.or_eq_true, not_true_eq_false, not_false_eq_true] at h2)
    · have hk' : k < l.length := by omega
      have hst := any_take_succ (p := fun x : Rel => nearR l[i] x) hk'
      obtain ⟨ha1, ha2⟩ := hri
      obtain ⟨hb1, hb2⟩ := hin _ (List.getElem_mem hk')
      have hnext : nearR l[i] l[k] = false → (l.take (k + 1)).any (fun x => nearR l[i] x) = false := fun h => by rw [hst, hno, h]; rfl
      (repeat (first | (simp (disch := first | exact dis1 | fail) only [evA, Nat.reduceBEq, Nat.reduceAdd, Nat.reduceLeDiff, boxR, rboxR, allocR, fldR, binI, unR, pickR, mknilR, mkslR, buildSlR, buildR, extR, convI, eqB, evU, wrap64, idxR_sl, Nat.zero_add, getD_map hk', Rel.five, Rel.len, Rel.flat]) | (with_reducible intro _) | ((with_reducible apply And.intro); omega)))
      by_cases h3 : l[k].sec = l[i].sec
      · by_cases h4 : l[k].off - l[i].off < 4
        · by_cases h5 : l[i].off - l[k].off < 4
          · have hany : ((l.take i).any fun x => nearR l[i] x) = true := by
              refine any_hit (i := k) (by rw [List.length_take]; omega) ?_
              rw [List.getElem_take]
              exact near_yes h3.symm h5 h4
            have h10 : lapR (l.take i) l[i] = 10 := by unfold lapR; rw [if_pos hany]
            rw [h10, if_pos (by decide)] at hgo
            (repeat (first | (simp (disch := first | exact dis1 | fail) only [evA, Nat.reduceBEq, Nat.reduceAdd, Nat.reduceLeDiff, boxR, rboxR, allocR, fldR, binI, unR, pickR, mknilR, mkslR, buildSlR, buildR, extR, convI, eqB, evU, wrap64, dT, dF, Rel.c0, Rel.c1, Rel.len, Rel.flat]) | (with_reducible intro _) | ((with_reducible apply And.intro); omega)))
            unfold ac_reloc_shared_k3
            (repeat (first | (simp (disch := first | exact dis1 | fail) only [evA, Nat.reduceBEq, Nat.reduceAdd, Nat.reduceLeDiff, boxR, rboxR, allocR, fldR, binI, unR, pickR, mknilR, mkslR, buildSlR, buildR, extR, convI, eqB, evU, wrap64, rs_reloc_shared]) | (with_reducible intro _) | ((with_reducible apply And.intro); omega)))
            exact ⟨_, .bool _ _, rfl⟩
          · (repeat (first | (simp (disch := first | exact dis1 | fail) only [evA, Nat.reduceBEq, Nat.reduceAdd, Nat.reduceLeDiff, boxR, rboxR, allocR, fldR, binI, unR, pickR, mknilR, mkslR, buildSlR, buildR, extR, convI, eqB, evU, wrap64, dT, dF, Rel.c0, Rel.c1, Rel.len, Rel.flat]) | (with_reducible intro _) | ((with_reducible apply And.intro); omega)))
            exact ⟨k + 1, ⟨by omega, hnext (near_no fun h => h5 h.2.1)⟩, by omega, (Ent.tab [(0, 0, 0)] [] rfl (by (try simp only [evWA, Nat.reduceBEq, Nat.reduceAdd, Nat.reduceSub, Nat.reduceLeDiff, Nat.reduceLT, implies_true, and_self, Int.natCast_zero, Int.natCast_one, Int.cast_ofNat_Int, evV, encInts, encNats, encBools, encP, Rel.flat]) <;> exact fin1) (by (try simp only [evWA, Nat.reduceBEq, Nat.reduceAdd, Nat.reduceSub, Nat.reduceLeDiff, Nat.reduceLT, implies_true, and_self, Int.natCast_zero, Int.natCast_one, Int.cast_ofNat_Int, evV, encInts, encNats, encBools, encP, Rel.flat]) <;> exact fin1))⟩
        · (repeat (first | (simp (disch := first | exact dis1 | fail) only [evA, Nat.reduceBEq, Nat.reduceAdd, Nat.reduceLeDiff, boxR, rboxR, allocR, fldR, binI, unR, pickR, mknilR, mkslR, buildSlR, buildR, extR, convI, eqB, evU, wrap64, dT, dF, Rel.c0, Rel.c1, Rel.len, Rel.flat]) | (with_reducible intro _) | ((with_reducible apply And.intro); omega)))
          exact ⟨k + 1, ⟨by omega, hnext (near_no fun h => h4 h.2.2)⟩, by omega, (Ent.tab [(0, 0, 0)] [] rfl (by (try simp only [evWA, Nat.reduceBEq, Nat.reduceAdd, Nat.reduceSub, Nat.reduceLeDiff, Nat.reduceLT, implies_true, and_self, Int.natCast_zero, Int.natCast_one, Int.cast_ofNat_Int, evV, encInts, encNats, encBools, encP, Rel.flat]) <;> exact fin1) (by (try simp only [evWA, Nat.reduceBEq, Nat.reduceAdd, Nat.reduceSub, Nat.reduceLeDiff, Nat.reduceLT, implies_true, and_self, Int.natCast_zero, Int.natCast_one, Int.cast_ofNat_Int, evV, encInts, encNats, encBools, encP, Rel.flat]) <;> exact fin1))⟩
      · (repeat (first | (simp (disch := first | exact dis1 | fail) only [evA, Nat.reduceBEq, Nat.reduceAdd, Nat.reduceLeDiff, boxR, rboxR, allocR, fldR, binI, unR, pickR, mknilR, mkslR, buildSlR, buildR, extR, convI, eqB, evU, wrap64, dT, dF, Rel.c0, Rel.c1, Rel.len, Rel.flat]) | (with_reducible intro _) | ((with_reducible apply And.intro); omega)))
        exact ⟨k + 1, ⟨by omega, hnext (near_no fun h => h3 h.1.symm)⟩, by omega, (Ent.tab [(0, 0, 0)] [] rfl (by (try simp only [evWA, Nat.reduceBEq, Nat.reduceAdd, Nat.reduceSub, Nat.reduceLeDiff, Nat.reduceLT, implies_true, and_self, Int.natCast_zero, Int.natCast_one, Int.cast_ofNat_Int, evV, encInts, encNats, encBools, encP, Rel.flat]) <;> exact fin1) (by (try simp only [evWA, Nat.reduceBEq, Nat.reduceAdd, Nat.reduceSub, Nat.reduceLeDiff, Nat.reduceLT, implies_true, and_self, Int.natCast_zero, Int.natCast_one, Int.cast_ofNat_Int, evV, encInts, encNats, encBools, encP, Rel.flat]) <;> exact fin1))⟩
    · have hki : k = i := by omega
      subst hki
      have h0 : lapR (l.take k) l[k] = 0 := by unfold lapR; rw [if_neg (by rw [hno]; decide)]
      rw [h0, if_neg (by decide)] at hgo
      unfold ac_reloc_shared_k1
      (repeat (first | (simp (disch := first | exact dis1 | fail) only [evA, Nat.reduceBEq, Nat.reduceAdd, Nat.reduceLeDiff, boxR, rboxR, allocR, fldR, binI, unR, pickR, mknilR, mkslR, buildSlR, buildR, extR, convI, eqB, evU, wrap64]) | (with_reducible intro _) | ((with_reducible apply And.intro); omega)))
      exact ⟨k + 1, ⟨by omega, hgo⟩, by omega, (Ent.tab [] [] rfl (by (try simp only [evWA, Nat.reduceBEq, Nat.reduceAdd, Nat.reduceSub, Nat.reduceLeDiff, Nat.reduceLT, implies_true, and_self, Int.natCast_zero, Int.natCast_one, Int.cast_ofNat_Int, evV, encInts, encNats, encBools, encP]) <;> exact fin1) (by (try simp only [evWA, Nat.reduceBEq, Nat.reduceAdd, Nat.reduceSub, Nat.reduceLeDiff, Nat.reduceLT, implies_true, and_self, Int.natCast_zero, Int.natCast_one, Int.cast_ofNat_Int, evV, encInts, encNats, encBools, encP]) <;> exact fin1))⟩
  · rw [firstE_end (by omega)] at hgo
    unfold ac_reloc_shared_k3
    (repeat (first | (simp (disch := first | exact dis1 | fail) only [evA, Nat.reduceBEq, Nat.reduceAdd, Nat.reduceLeDiff, boxR, rboxR, allocR, fldR, binI, unR, pickR, mknilR, mkslR, buildSlR, buildR, extR, convI, eqB, evU, wrap64, rs_reloc_shared]) | (with_reducible intro _) | ((with_reducible apply And.intro); omega)))
    refine ⟨_, .bool _ _, ?_⟩
    rw [← hgo]
    rfl

end Go.Ab

namespace Go.Ab
open Go.RowKit Go.Proofs

def restR (o : Bin) : Int := if 256 < o.rels.length then 6 else thenE (firstE (oneR o) o.rels o.rels.length 0) (firstE lapR o.rels o.rels.length 0)
theorem checkR_eq (o : Bin) : checkR o = thenE (checkS o.secs) (thenE (checkY o.syms) (restR o)) := rfl
theorem thenE_0 (b : Int) : thenE 0 b = b := rfl
theorem thenE_no {a b : Int} (h : a ≠ 0) : thenE a b = a := if_pos h

theorem thenE_zero {a b : Int} (h : thenE a b = 0) : a = 0 ∧ b = 0 := by
  by_cases ha : a = 0
  · subst ha; exact ⟨rfl, h⟩
  · rw [thenE_no ha] at h; exact absurd h ha

theorem fldP {off n m : Nat} {c : List AV} {H : AH} {nx : Nat} : fldaddrR off n (encP m c) H nx = ⟨off + n ≤ m, True, .iptr n (fun j => c.getD (off + j) .undef), H, nx⟩ := rfl
theorem loadP {n m : Nat} {c : List AV} {H : AH} {nx : Nat} : loadR true n (encP m c) H nx = ⟨n ≤ m, (AV.agg (tab (fun j => c.getD j .undef) n 0)).wf, .agg (tab (fun j => c.getD j .undef) n 0), H, nx⟩ := rfl

theorem reloc_Check_ok (o : Bin) (hoN : o.okN) : PureFn Try.prog f_reloc_Check [.agg o.cells] (· = .int .i64 (checkR o)) := by
  refine fn_x cf_reloc_Check rfl ?_
  unfold ac_reloc_Check
  have hB : big = 9223372036854775807 := rfl
  rw [checkR_eq]
  have hcS := section_Check_ok o.secs hoN.secs
  have hcY := symbol_Check_ok o.syms hoN.syms
  have hokS : checkS o.secs = 0 → o.ok := Bin.okOf hoN
  generalize checkS o.secs = eS at hcS hokS ⊢
  generalize checkY o.syms = eY at hcY ⊢
  have hlR := hoN.lR
  (repeat (first | (simp (disch := first | exact dis1 | fail) only [evA, Nat.reduceBEq, Nat.reduceAdd, Nat.reduceLeDiff, boxR, rboxR, allocR, fldR, binI, unR, pickR, mknilR, mkslR, buildSlR, buildR, extR, convI, eqB, evU, wrap64, Bin.len, Bin.flat, Bin.c1]) | (with_reducible intro _) | ((with_reducible apply And.intro); omega)))
  refine callX_fix (call_flat hcS rfl) ?_
  by_cases h1 : eS = 0
  case neg =>
    rw [thenE_no h1]
    (repeat (first | (simp (disch := first | exact dis1 | fail) only [evA, Nat.reduceBEq, Nat.reduceAdd, Nat.reduceLeDiff, boxR, rboxR, allocR, fldR, binI, unR, pickR, mknilR, mkslR, buildSlR, buildR, extR, convI, eqB, evU, wrap64, dT, dF, rs_reloc_Check]) | (with_reducible intro _) | ((with_reducible apply And.intro); omega)))
    exact ⟨_, .int _ _ _, rfl⟩
  have ho := hokS h1
  subst h1
  rw [thenE_0]
  (repeat (first | (simp (disch := first | exact dis1 | fail) only [evA, Nat.reduceBEq, Nat.reduceAdd, Nat.reduceLeDiff, boxR, rboxR, allocR, fldR, binI, unR, pickR, mknilR, mkslR, buildSlR, buildR, extR, convI, eqB, evU, wrap64, dT, dF, Bin.c2, Bin.len]) | (with_reducible intro _) | ((with_reducible apply And.intro); omega)))
  refine callX_fix (call_flat hcY rfl) ?_
  by_cases h1 : eY = 0
  case neg =>
    rw [thenE_no h1]
    (repeat (first | (simp (disch := first | exact dis1 | fail) only [evA, Nat.reduceBEq, Nat.reduceAdd, Nat.reduceLeDiff, boxR, rboxR, allocR, fldR, binI, unR, pickR, mknilR, mkslR, buildSlR, buildR, extR, convI, eqB, evU, wrap64, dT, dF, rs_reloc_Check]) | (with_reducible intro _) | ((with_reducible apply And.intro); omega)))
    exact ⟨_, .int _ _ _, rfl⟩
  subst h1
  rw [thenE_0]
  by_cases h6 : 256 < o.rels.length
  · rw [restR, if_pos h6]
    (repeat (first | (simp (disch := first | exact dis1 | fail) only [evA, Nat.reduceBEq, Nat.reduceAdd, Nat.reduceLeDiff, boxR, rboxR, allocR, fldR, binI, unR, pickR, mknilR, mkslR, buildSlR, buildR, extR, convI, eqB, evU, wrap64, dT, dF, Bin.c3, Bin.len, rs_reloc_Check]) | (with_reducible intro _) | ((with_reducible apply And.intro); omega)))
    exact ⟨_, .int _ _ _, rfl⟩
  rw [restR, if_neg h6]
  generalize hR : firstE (oneR o) o.rels o.rels.length 0 = R
  (repeat (first | (simp (disch := first | exact dis1 | fail) only [evA, Nat.reduceBEq, Nat.reduceAdd, Nat.reduceLeDiff, boxR, rboxR, allocR, fldR, binI, unR, pickR, mknilR, mkslR, buildSlR, buildR, extR, convI, eqB, evU, wrap64, dT, dF, Bin.c3, Bin.len]) | (with_reducible intro _) | ((with_reducible apply And.intro); omega)))
  refine loopX_intro (fun i : Nat => ([(1, encP 4 o.cells), (25, encL 5 Rel.cells o.rels), (26, .int .i64 o.rels.length), (27, .int .i64 i)], [])) 0 (fun i => i ≤ o.rels.length ∧ firstE (oneR o) o.rels (o.rels.length - i) i = R) (fun i => o.rels.length - i) 0 ⟨Nat.zero_le _, hR⟩ (Ent.keep rfl (by (try simp [subK, Kn.get, beq_eq]) <;> (repeat' with_reducible apply And.intro) <;> first | rfl | omega | (simp; done))) ?_
  rintro i ⟨hi, hgo⟩ wf
  unfold ac_reloc_Check_l0
  (repeat (first | (simp (disch := first | exact dis1 | fail) only [evA, Nat.reduceBEq, Nat.reduceAdd, Nat.reduceLeDiff, boxR, rboxR, allocR, fldR, binI, unR, pickR, mknilR, mkslR, buildSlR, buildR, extR, convI, eqB, evU, wrap64]) | (with_reducible intro _) | ((with_reducible apply And.intro); omega)))
  (refine condX_intro (fun h2 => ?_) (fun h2 => ?_)) <;> (try simp only [decide_eq_true_eq, decide_eq_false_iff_not, Bool.not_eq_true', Bool.not_eq_false', Bool.and_eq_true, Bool.or_eq_true, not_true_eq_false, not_false_eq_true] at h2)
  · have hi' : i < o.rels.length := by omega
    rw [show o.rels.length - i = (o.rels.length - (i + 1)) + 1 by omega, firstE_step hi'] at hgo
    (repeat (first | (simp (disch := first | exact dis1 | fail) only [evA, Nat.reduceBEq, Nat.reduceAdd, Nat.reduceLeDiff, boxR, rboxR, allocR, fldR, binI, unR, pickR, mknilR, mkslR, buildSlR, buildR, extR, convI, eqB, evU, wrap64, getD_map hi', Rel.five, Rel.len, Rel.flat, Bin.four, Bin.len, Bin.flat, loadP]) | (with_reducible intro _) | ((with_reducible apply And.intro); omega)))
    refine callX_fix (call_flat (reloc_one_ok o ho o.rels[i] (o.rels.take i)) rfl) ?_
    generalize oneR o (o.rels.take i) o.rels[i] = e at hgo ⊢
    by_cases h3 : e = 0
    · subst h3
      rw [if_neg (by decide)] at hgo
      (repeat (first | (simp (disch := first | exact dis1 | fail) only [evA, Nat.reduceBEq, Nat.reduceAdd, Nat.reduceLeDiff, boxR, rboxR, allocR, fldR, binI, unR, pickR, mknilR, mkslR, buildSlR, buildR, extR, convI, eqB, evU, wrap64, dT, dF]) | (with_reducible intro _) | ((with_reducible apply And.intro); omega)))
      exact ⟨i + 1, ⟨by omega, hgo⟩, by omega, (Ent.tab [] [] rfl (by (try simp only [evWA, Nat.reduceBEq, Nat.reduceAdd, Nat.reduceSub, Nat.reduceLeDiff, Nat.reduceLT, implies_true, and_self, Int.natCast_zero, Int.natCast_one, Int.cast_ofNat_Int, evV, encInts, encNats, encBools, encP]) <;> exact fin1) (by (try simp only [evWA, Nat.reduceBEq, Nat.reduceAdd, Nat.reduceSub, Nat.reduceLeDiff, Nat.reduceLT, implies_true, and_self, Int.natCast_zero, Int.natCast_one, Int.cast_ofNat_Int, evV, encInts, encNats, encBools, encP]) <;> exact fin1))⟩
    · rw [if_pos h3] at hgo
      rw [← hgo, thenE_no h3]
      (repeat (first | (simp (disch := first | exact dis1 | fail) only [evA, Nat.reduceBEq, Nat.reduceAdd, Nat.reduceLeDiff, boxR, rboxR, allocR, fldR, binI, unR, pickR, mknilR, mkslR, buildSlR, buildR, extR, convI, eqB, evU, wrap64, dT, dF, rs_reloc_Check]) | (with_reducible intro _) | ((with_reducible apply And.intro); omega)))
      exact ⟨_, .int _ _ _, rfl⟩
  · rw [firstE_end (by omega)] at hgo
    rw [← hgo, thenE_0]
    unfold ac_reloc_Check_k1
    (repeat (first | (simp (disch := first | exact dis1 | fail) only [evA, Nat.reduceBEq, Nat.reduceAdd, Nat.reduceLeDiff, boxR, rboxR, allocR, fldR, binI, unR, pickR, mknilR, mkslR, buildSlR, buildR, extR, convI, eqB, evU, wrap64, fldP, Bin.c3, Bin.len]) | (with_reducible intro _) | ((with_reducible apply And.intro); omega)))
    refine callX_fix (call_flat (reloc_shared_ok o.rels ho.lR (relsIn ho (hR.trans hgo.symm))) rfl) ?_
    rcases lapR_08 (l := o.rels) (n := o.rels.length) (i := 0) with h8 | h8
    · rw [h8]
      have e0 : decide ((0 : Int) ≠ 0) = false := rfl
      (repeat (first | (simp (disch := first | exact dis1 | fail) only [evA, Nat.reduceBEq, Nat.reduceAdd, Nat.reduceLeDiff, boxR, rboxR, allocR, fldR, binI, unR, pickR, mknilR, mkslR, buildSlR, buildR, extR, convI, eqB, evU, wrap64, e0, rs_reloc_Check]) | (with_reducible intro _) | ((with_reducible apply And.intro); omega)))
      exact ⟨_, .int _ _ _, rfl⟩
    · rw [h8]
      have e0 : decide ((10 : Int) ≠ 0) = true := rfl
      (repeat (first | (simp (disch := first | exact dis1 | fail) only [evA, Nat.reduceBEq, Nat.reduceAdd, Nat.reduceLeDiff, boxR, rboxR, allocR, fldR, binI, unR, pickR, mknilR, mkslR, buildSlR, buildR, extR, convI, eqB, evU, wrap64, e0, rs_reloc_Check]) | (with_reducible intro _) | ((with_reducible apply And.intro); omega)))
      exact ⟨_, .int _ _ _, rfl⟩

def endO (o : Bin) : Int := match findS o.secs o.entry with
  | some k => match o.secs[k]? with
    | some s => if s.ex then 0 else 11
    | none => 11
  | none => 11
theorem checkO_eq (o : Bin) : checkO o = thenE (checkR o) (endO o) := rfl

theorem findS_lt {l : List Sec} {a : UInt32} {k : Nat} (h : findS l a = some k) : k < l.length := (List.findIdx?_eq_some_iff_getElem.1 h).1

theorem object_Check_ok (o : Bin) (hoN : o.okN) : PureFn Try.prog f_object_Check [.agg o.cells] (· = .int .i64 (checkO o)) := by
  refine fn_x cf_object_Check rfl ?_
  unfold ac_object_Check
  have hB : big = 9223372036854775807 := rfl
  rw [checkO_eq]
  have hc := reloc_Check_ok o hoN
  have hokS : checkR o = 0 → o.ok := fun h => Bin.okOf hoN (by rw [checkR_eq] at h; exact (thenE_zero h).1)
  generalize checkR o = eR at hc hokS ⊢
  (repeat (first | (simp (disch := first | exact dis1 | fail) only [evA, Nat.reduceBEq, Nat.reduceAdd, Nat.reduceLeDiff, boxR, rboxR, allocR, fldR, binI, unR, pickR, mknilR, mkslR, buildSlR, buildR, extR, convI, eqB, evU, wrap64, Bin.len, Bin.flat, Bin.four]) | (with_reducible intro _) | ((with_reducible apply And.intro); omega)))
  refine callX_fix (call_flat hc rfl) ?_
  by_cases h1 : eR = 0
  case neg =>
    rw [thenE_no h1]
    (repeat (first | (simp (disch := first | exact dis1 | fail) only [evA, Nat.reduceBEq, Nat.reduceAdd, Nat.reduceLeDiff, boxR, rboxR, allocR, fldR, binI, unR, pickR, mknilR, mkslR, buildSlR, buildR, extR, convI, eqB, evU, wrap64, dT, dF, rs_object_Check]) | (with_reducible intro _) | ((with_reducible apply And.intro); omega)))
    exact ⟨_, .int _ _ _, rfl⟩
  have ho := hokS h1
  subst h1
  rw [thenE_0]
  (repeat (first | (simp (disch := first | exact dis1 | fail) only [evA, Nat.reduceBEq, Nat.reduceAdd, Nat.reduceLeDiff, boxR, rboxR, allocR, fldR, binI, unR, pickR, mknilR, mkslR, buildSlR, buildR, extR, convI, eqB, evU, wrap64, dT, dF, Bin.c1, Bin.c0, Bin.len]) | (with_reducible intro _) | ((with_reducible apply And.intro); omega)))
  refine callX_fix (call_flat (section_Find_ok o.secs ho.secs o.entry) rfl) ?_
  unfold endO
  cases hf : findS o.secs o.entry with
  | none =>
    (repeat (first | (simp (disch := first | exact dis1 | fail) only [evA, Nat.reduceBEq, Nat.reduceAdd, Nat.reduceLeDiff, boxR, rboxR, allocR, fldR, binI, unR, pickR, mknilR, mkslR, buildSlR, buildR, extR, convI, eqB, evU, wrap64, idxI, dT, dF, Bin.c1, Bin.c0, Bin.len, rs_object_Check]) | (with_reducible intro _) | ((with_reducible apply And.intro); omega)))
    exact ⟨_, .int _ _ _, rfl⟩
  | some k =>
    have hk := findS_lt hf
    simp only [List.getElem?_eq_getElem hk]
    cases hx : o.secs[k].ex with
    | true =>
      (repeat (first | (simp (disch := first | exact dis1 | fail) only [evA, Nat.reduceBEq, Nat.reduceAdd, Nat.reduceLeDiff, boxR, rboxR, allocR, fldR, binI, unR, pickR, mknilR, mkslR, buildSlR, buildR, extR, convI, eqB, evU, wrap64, idxI, dT, dF, Bin.c1, Bin.c0, Bin.len, getD_map hk, Sec.c4, Sec.len, hx, rs_object_Check]) | (with_reducible intro _) | ((with_reducible apply And.intro); omega)))
      exact ⟨_, .int _ _ _, rfl⟩
    | false =>
      (repeat (first | (simp (disch := first | exact dis1 | fail) only [evA, Nat.reduceBEq, Nat.reduceAdd, Nat.reduceLeDiff, boxR, rboxR, allocR, fldR, binI, unR, pickR, mknilR, mkslR, buildSlR, buildR, extR, convI, eqB, evU, wrap64, idxI, dT, dF, Bin.c1, Bin.c0, Bin.len, getD_map hk, Sec.c4, Sec.len, hx, rs_object_Check]) | (with_reducible intro _) | ((with_reducible apply And.intro); omega)))
      exact ⟨_, .int _ _ _, rfl⟩

end Go.Ab

namespace Go.Ab
open Go.RowKit Go.Proofs

theorem takeB {l : List UInt8} : (l.map cByte).take l.length = l.map cByte := by rw [List.take_of_length_le (by simp)]

theorem bytes_ren {ρ : Nat → Nat} {l : List UInt8} {s g : Nat} : AObj.ren ρ (.row s (l.map cByte) g) = .row s (l.map cByte) g := by
  simp only [AObj.ren, List.map_map]
  congr 1
  exact List.map_congr_left fun _ _ => by simp [cByte, AV.ren]

theorem bytesV {H HH : AH} {σ : Nat → Nat → Option (Nat × Nat × Nat)} {D : Nat → Nat → Prop} {l : List UInt8} : RowV H HH σ D (l.map cByte) (l.map cByte) = True :=
  rowV_refl_iff (fun c hc => by obtain ⟨b, _, rfl⟩ := List.mem_map.1 hc; rfl)

theorem bytes_flat {l : List UInt8} : FlatRows (l.map cByte) := fun c hc => by obtain ⟨b, _, rfl⟩ := List.mem_map.1 hc; rfl

theorem flat1 {k : IntKind} {x : Int} : FlatRows [[.int k x]] := fun c hc => by rw [List.mem_singleton.1 hc]; rfl
theorem flat_app {a b : List (List AV)} (h1 : FlatRows a) (h2 : FlatRows b) : FlatRows (a ++ b) := by rw [flatRows_append]; exact ⟨h1, h2⟩
theorem nil_own {r q g o n : Nat} (h : 0 < n) : nilB false (.own r q g o n) = some (some false) := by
  have hn : Nat.beq n 0 = false := by cases e : Nat.beq n 0 with | false => rfl | true => exact absurd (Nat.eq_of_beq_eq_true e) (by omega)
  simp only [nilB, hn, cond_false]

theorem slices_Clone_own (l : List UInt8) (g : Nat) (h0 : 0 < l.length) (h1 : l.length ≤ 100000000) : CallOk Try.prog f_slices_Clone_byte_byte [.own 0 0 g 0 l.length] [(0, .row 1 (l.map cByte) g)] 1
    (fun v H nx => v = .own 2 0 1 0 l.length ∧ H = [(0, .row 1 (l.map cByte) g), (1, .row 1 [] 0), (2, .row 1 (l.map cByte) 1)] ∧ nx = 3) := by
  refine fn_x cf_slices_Clone_byte_byte rfl ?_
  unfold ac_slices_Clone_byte_byte
  have hB : big = 9223372036854775807 := rfl
  (repeat (first | (simp (disch := first | exact dis1 | fail) only [evA, Nat.reduceBEq, Nat.reduceAdd, Nat.reduceLeDiff, boxR, rboxR, allocR, fldR, binI, unR, pickR, mknilR, mkslR, buildSlR, buildR, extR, convI, eqB, evU, wrap64, nil_own h0, takeB, rs_slices_Clone_byte_byte]) | (with_reducible intro _) | ((with_reducible apply And.intro); omega)))
  omega

def ac2_image_own : ACode := match ac_image_own with
  | .seq a (.seq b c) => .seq a (.seq b (.mark 0 c))
  | x => x

theorem image_own_own (l : List UInt8) (g : Nat) (h0 : 0 < l.length) (h1 : l.length ≤ 100000000) : CallOk Try.prog f_image_own [.own 0 0 g 0 l.length] [(0, .row 1 (l.map cByte) g)] 1
    (fun v H nx => v = .own 1 0 0 0 l.length ∧ H = [(1, .row 1 (l.map cByte) 0)] ∧ nx = 2) := by
  refine fn_x (ac := ac2_image_own) cf_image_own rfl ?_
  unfold ac2_image_own ac_image_own
  have hB : big = 9223372036854775807 := rfl
  (repeat (first | (simp (disch := first | exact dis1 | fail) only [evA, Nat.reduceBEq, Nat.reduceAdd, Nat.reduceLeDiff, boxR, rboxR, allocR, fldR, binI, unR, pickR, mknilR, mkslR, buildSlR, buildR, extR, convI, eqB, evU, wrap64]) | (with_reducible intro _) | ((with_reducible apply And.intro); omega)))
  refine call_own [(0, 0, 0)] 1 _ (slices_Clone_own l g h0 h1) rfl rfl (by (try simp only [evWA, Nat.reduceBEq, Nat.reduceAdd, Nat.reduceSub, Nat.reduceLeDiff, Nat.reduceLT, implies_true, and_self, Int.natCast_zero, Int.natCast_one, Int.cast_ofNat_Int, evV, encInts, encNats, encBools, encP, bytesV]) <;> exact fin1) (by (try simp only [evWA, Nat.reduceBEq, Nat.reduceAdd, Nat.reduceSub, Nat.reduceLeDiff, Nat.reduceLT, implies_true, and_self, Int.natCast_zero, Int.natCast_one, Int.cast_ofNat_Int, evV, encInts, encNats, encBools, encP, bytesV]) <;> exact fin1) ?_
  rintro v H' nx' ⟨rfl, rfl, rfl⟩
  (repeat (first | (simp (disch := first | exact dis1 | fail) only [evA, Nat.reduceBEq, Nat.reduceAdd, Nat.reduceLeDiff, boxR, rboxR, allocR, fldR, binI, unR, pickR, mknilR, mkslR, buildSlR, buildR, extR, convI, eqB, evU, wrap64, bytes_ren]) | (with_reducible intro _) | ((with_reducible apply And.intro); omega)))
  refine markX_intro [(3, .own 1 0 0 0 l.length)] [(1, .row 1 (l.map cByte) 0)] 2 fun _ => ⟨(Ent.tabB [(0, 0, 0), (1, 4, 1)] [] rfl rfl rfl (by (try simp only [evWA, Nat.reduceBEq, Nat.reduceAdd, Nat.reduceSub, Nat.reduceLeDiff, Nat.reduceLT, implies_true, and_self, Int.natCast_zero, Int.natCast_one, Int.cast_ofNat_Int, evV, encInts, encNats, encBools, encP, bytesV]) <;> exact fin1) (by (try simp only [evWA, Nat.reduceBEq, Nat.reduceAdd, Nat.reduceSub, Nat.reduceLeDiff, Nat.reduceLT, implies_true, and_self, Int.natCast_zero, Int.natCast_one, Int.cast_ofNat_Int, evV, encInts, encNats, encBools, encP, bytesV]) <;> exact fin1)), ?_⟩
  (repeat (first | (simp (disch := first | exact dis1 | fail) only [evA, Nat.reduceBEq, Nat.reduceAdd, Nat.reduceLeDiff, boxR, rboxR, allocR, fldR, binI, unR, pickR, mknilR, mkslR, buildSlR, buildR, extR, convI, eqB, evU, wrap64, rs_image_own]) | (with_reducible intro _) | ((with_reducible apply And.intro); omega)))
  omega

theorem image_valid_ok (w : Int) : PureFn Try.prog f_image_valid [.int .i64 w] (· = .bool (decide (w = 1) || decide (w = 2) || decide (w = 4))) := by
  refine fn_x cf_image_valid rfl ?_
  unfold ac_image_valid
  have hB : big = 9223372036854775807 := rfl
  by_cases h1 : w = 1
  · subst h1
    (repeat (first | (simp (disch := first | exact dis1 | fail) only [evA, Nat.reduceBEq, Nat.reduceAdd, Nat.reduceLeDiff, boxR, rboxR, allocR, fldR, binI, unR, pickR, mknilR, mkslR, buildSlR, buildR, extR, convI, eqB, evU, wrap64, dT, dF, rs_image_valid]) | (with_reducible intro _) | ((with_reducible apply And.intro); omega)))
    exact ⟨_, .bool _ _, rfl⟩
  by_cases h2 : w = 2
  · subst h2
    (repeat (first | (simp (disch := first | exact dis1 | fail) only [evA, Nat.reduceBEq, Nat.reduceAdd, Nat.reduceLeDiff, boxR, rboxR, allocR, fldR, binI, unR, pickR, mknilR, mkslR, buildSlR, buildR, extR, convI, eqB, evU, wrap64, dT, dF, rs_image_valid]) | (with_reducible intro _) | ((with_reducible apply And.intro); omega)))
    exact ⟨_, .bool _ _, rfl⟩
  by_cases h4 : w = 4
  · subst h4
    (repeat (first | (simp (disch := first | exact dis1 | fail) only [evA, Nat.reduceBEq, Nat.reduceAdd, Nat.reduceLeDiff, boxR, rboxR, allocR, fldR, binI, unR, pickR, mknilR, mkslR, buildSlR, buildR, extR, convI, eqB, evU, wrap64, dT, dF, rs_image_valid]) | (with_reducible intro _) | ((with_reducible apply And.intro); omega)))
    exact ⟨_, .bool _ _, rfl⟩
  (repeat (first | (simp (disch := first | exact dis1 | fail) only [evA, Nat.reduceBEq, Nat.reduceAdd, Nat.reduceLeDiff, boxR, rboxR, allocR, fldR, binI, unR, pickR, mknilR, mkslR, buildSlR, buildR, extR, convI, eqB, evU, wrap64, dF, rs_image_valid]) | (with_reducible intro _) | ((with_reducible apply And.intro); omega)))
  exact ⟨_, .bool _ _, rfl⟩


/-- The byte of a number. -/
def byteOf (n : Nat) : UInt8 := UInt8.ofNat (n % 256)
theorem byteOf_val (n : Nat) : (byteOf n).toNat = n % 256 := by
  unfold byteOf
  rw [UInt8.toNat_ofNat']
  exact Nat.mod_mod_of_dvd n (by decide)
theorem wrapB (n : Nat) : IntKind.u8.wrap (n : Int) = ((byteOf n).toNat : Int) := by
  rw [byteOf_val]
  show (n : Int) % 256 = _
  omega

/-- A number in w bytes, the smallest first. -/
def leB (v : Nat) (w : Nat) : List UInt8 := (List.range w).map fun i => byteOf (v / 256 ^ i)
theorem leB_len {v w : Nat} : (leB v w).length = w := by simp [leB]
theorem leB_zero {v : Nat} : leB v 0 = [] := rfl
theorem leB_succ {v w : Nat} : leB v (w + 1) = leB v w ++ [byteOf (v / 256 ^ w)] := by
  unfold leB
  rw [List.range_succ, List.map_append]
  rfl

theorem image_Put_own (l : List UInt8) (g v w : Nat) (h0 : 0 < l.length) (h1 : l.length ≤ 10000000) (hv : v < 4294967296) (hw : w = 1 ∨ w = 2 ∨ w = 4) :
    CallOk Try.prog f_image_Put [.own 0 0 g 0 l.length, .int .u32 v, .int .i64 w] [(0, .row 1 (l.map cByte) g)] 1
      (fun a H nx => a = .own 1 0 w 0 (l ++ leB v w).length ∧ H = [(1, .row 1 ((l ++ leB v w).map cByte) w)] ∧ nx = 2) := by
  refine fn_x cf_image_Put rfl ?_
  unfold ac_image_Put
  have hB : big = 9223372036854775807 := rfl
  (repeat (first | (simp (disch := first | exact dis1 | fail) only [evA, Nat.reduceBEq, Nat.reduceAdd, Nat.reduceLeDiff, boxR, rboxR, allocR, fldR, binI, unR, pickR, mknilR, mkslR, buildSlR, buildR, extR, convI, eqB, evU, wrap64]) | (with_reducible intro _) | ((with_reducible apply And.intro); omega)))
  refine call_own [(0, 0, 0)] 1 _ (image_own_own l g h0 (by omega)) rfl rfl (by (try simp only [evWA, Nat.reduceBEq, Nat.reduceAdd, Nat.reduceSub, Nat.reduceLeDiff, Nat.reduceLT, implies_true, and_self, Int.natCast_zero, Int.natCast_one, Int.cast_ofNat_Int, evV, encInts, encNats, encBools, encP, bytesV]) <;> exact fin1) (by (try simp only [evWA, Nat.reduceBEq, Nat.reduceAdd, Nat.reduceSub, Nat.reduceLeDiff, Nat.reduceLT, implies_true, and_self, Int.natCast_zero, Int.natCast_one, Int.cast_ofNat_Int, evV, encInts, encNats, encBools, encP, bytesV]) <;> exact fin1) ?_
  rintro v' H' nx' ⟨rfl, rfl, rfl⟩
  (repeat (first | (simp (disch := first | exact dis1 | fail) only [evA, Nat.reduceBEq, Nat.reduceAdd, Nat.reduceLeDiff, boxR, rboxR, allocR, fldR, binI, unR, pickR, mknilR, mkslR, buildSlR, buildR, extR, convI, eqB, evU, wrap64, bytes_ren]) | (with_reducible intro _) | ((with_reducible apply And.intro); omega)))
  refine callX_fix (call_flat (image_valid_ok w) rfl) ?_
  have hvw : (decide ((w : Int) = 1) || decide ((w : Int) = 2) || decide ((w : Int) = 4)) = true := by
    rcases hw with h | h | h <;> subst h <;> rfl
  rw [hvw]
  (repeat (first | (simp (disch := first | exact dis1 | fail) only [evA, Nat.reduceBEq, Nat.reduceAdd, Nat.reduceLeDiff, boxR, rboxR, allocR, fldR, binI, unR, pickR, mknilR, mkslR, buildSlR, buildR, extR, convI, eqB, evU, wrap64, bytes_ren]) | (with_reducible intro _) | ((with_reducible apply And.intro); omega)))
  refine loopX_intro (fun i : Nat => ([(1, .int .u32 v), (7, .own 1 0 i 0 (l ++ leB v i).length), (15, .int .i64 w), (16, .int .i64 i)], [(1, .row 1 ((l ++ leB v i).map cByte) i)])) 2 (fun i => i ≤ w) (fun i => w - i) 0 (Nat.zero_le _) (Ent.tabB [(0, 0, 0), (1, 3, 0)] [] rfl rfl rfl (by (try simp only [evWA, Nat.reduceBEq, Nat.reduceAdd, Nat.reduceSub, Nat.reduceLeDiff, Nat.reduceLT, implies_true, and_self, Int.natCast_zero, Int.natCast_one, Int.cast_ofNat_Int, evV, encInts, encNats, encBools, encP, bytesV, leB_zero, List.append_nil]) <;> exact fin1) (by (try simp only [evWA, Nat.reduceBEq, Nat.reduceAdd, Nat.reduceSub, Nat.reduceLeDiff, Nat.reduceLT, implies_true, and_self, Int.natCast_zero, Int.natCast_one, Int.cast_ofNat_Int, evV, encInts, encNats, encBools, encP, bytesV, leB_zero, List.append_nil]) <;> exact fin1)) ?_
  intro i hi wf
  have hw4 : w ≤ 4 := by omega
  have hlen : (l ++ leB v i).length = l.length + i := by rw [List.length_append, leB_len]
  have hlen2 : (l ++ leB v (i + 1)).length = l.length + i + 1 := by rw [List.length_append, leB_len]; omega
  unfold ac_image_Put_l0
  (repeat (first | (simp (disch := first | exact dis1 | fail) only [evA, Nat.reduceBEq, Nat.reduceAdd, Nat.reduceLeDiff, boxR, rboxR, allocR, fldR, binI, unR, pickR, mknilR, mkslR, buildSlR, buildR, extR, convI, eqB, evU, wrap64]) | (with_reducible intro _) | ((with_reducible apply And.intro); omega)))
  (refine condX_intro (fun h => ?_) (fun h => ?_)) <;> (try simp only [decide_eq_true_eq, decide_eq_false_iff_not, Bool.not_eq_true', Bool.not_eq_false', Bool.and_eq_true, Bool.or_eq_true, not_true_eq_false, not_false_eq_true] at h)
  · have hi' : i < w := by omega
    have hx : IntKind.u8.wrap ((v : Int).fdiv (2 ^ min ((8 : Int) * (i : Int)).toNat IntKind.u32.bits)) = ((byteOf (v / 256 ^ i)).toNat : Int) := by
      rw [← wrapB]
      congr 1
      have : i = 0 ∨ i = 1 ∨ i = 2 ∨ i = 3 := by omega
      rcases this with rfl | rfl | rfl | rfl
      all_goals
        rw [Int.fdiv_eq_ediv_of_nonneg _ (by decide)]
        rfl
    have hsn : (l ++ leB v (i + 1)).map cByte = (l ++ leB v i).map cByte ++ [[.int .u8 ((byteOf (v / 256 ^ i)).toNat : Int)]] := by
      rw [leB_succ, ← List.append_assoc, List.map_append]
      rfl
    (repeat (first | (simp (disch := first | exact dis1 | fail) only [evA, Nat.reduceBEq, Nat.reduceAdd, Nat.reduceLeDiff, boxR, rboxR, allocR, fldR, binI, unR, pickR, mknilR, mkslR, buildSlR, buildR, extR, convI, eqB, evU, wrap64, takeB, hx]) | (with_reducible intro _) | ((with_reducible apply And.intro); omega)))
    exact ⟨i + 1, by omega, by omega, (Ent.tabB [(0, 0, 0), (1, 1, 0)] [] rfl rfl rfl (by (try simp only [evWA, Nat.reduceBEq, Nat.reduceAdd, Nat.reduceSub, Nat.reduceLeDiff, Nat.reduceLT, implies_true, and_self, Int.natCast_zero, Int.natCast_one, Int.cast_ofNat_Int, evV, encInts, encNats, encBools, encP, hsn, hlen, hlen2]) <;> exact fin1) (by (try simp only [evWA, Nat.reduceBEq, Nat.reduceAdd, Nat.reduceSub, Nat.reduceLeDiff, Nat.reduceLT, implies_true, and_self, Int.natCast_zero, Int.natCast_one, Int.cast_ofNat_Int, evV, encInts, encNats, encBools, encP, hsn, hlen, hlen2]) <;> exact fin1))⟩
  · have hiw : i = w := by omega
    subst hiw
    unfold ac_image_Put_k1
    (repeat (first | (simp (disch := first | exact dis1 | fail) only [evA, Nat.reduceBEq, Nat.reduceAdd, Nat.reduceLeDiff, boxR, rboxR, allocR, fldR, binI, unR, pickR, mknilR, mkslR, buildSlR, buildR, extR, convI, eqB, evU, wrap64, rs_image_Put]) | (with_reducible intro _) | ((with_reducible apply And.intro); omega)))

end Go.Ab

namespace Go.Ab
open Go.RowKit Go.Proofs

/-- A text of at most 32 bytes, behind its length. -/
def txB (s : ByteArray) : List UInt8 := byteOf s.size :: s.data.toList
theorem txB_len {s : ByteArray} : (txB s).length = s.size + 1 := by rw [txB, List.length_cons, str_len]

def ac2_image_PutText : ACode := match ac_image_PutText with
  | .seq a (.seq b (.seq c d)) => .seq a (.seq b (.seq c (.mark 0 d)))
  | x => x

theorem image_PutText_own (l : List UInt8) (g : Nat) (s : ByteArray) (h0 : 0 < l.length) (h1 : l.length ≤ 10000000) (hs : s.size ≤ 32) :
    CallOk Try.prog f_image_PutText [.own 0 0 g 0 l.length, .str s] [(0, .row 1 (l.map cByte) g)] 1
      (fun a H nx => a = .tup [.own 1 0 2 0 (l ++ txB s).length, .int .i64 0] ∧ H = [(1, .row 1 ((l ++ txB s).map cByte) 2)] ∧ nx = 2) := by
  refine fn_x (ac := ac2_image_PutText) cf_image_PutText rfl ?_
  unfold ac2_image_PutText ac_image_PutText
  have hB : big = 9223372036854775807 := rfl
  have hlen : (l ++ txB s).length = l.length + 1 + s.size := by rw [List.length_append, txB_len]; omega
  have hsn : (l ++ txB s).map cByte = l.map cByte ++ [[.int .u8 ((byteOf s.size).toNat : Int)]] ++ s.data.toList.map cByte := by
    rw [List.map_append, List.append_assoc]
    rfl
  have hx : IntKind.u8.wrap (s.size : Int) = ((byteOf s.size).toNat : Int) := wrapB _
  have htk : ∀ x : List AV, (l.map cByte ++ [x]).take (l.length + 1) = l.map cByte ++ [x] := fun x => List.take_of_length_le (by simp)
  (repeat (first | (simp (disch := first | exact dis1 | fail) only [evA, Nat.reduceBEq, Nat.reduceAdd, Nat.reduceLeDiff, boxR, rboxR, allocR, fldR, binI, unR, pickR, mknilR, mkslR, buildSlR, buildR, extR, convI, eqB, evU, wrap64, dF]) | (with_reducible intro _) | ((with_reducible apply And.intro); omega)))
  refine call_own [(0, 0, 0)] 1 _ (image_own_own l g h0 (by omega)) rfl rfl (by (try simp only [evWA, Nat.reduceBEq, Nat.reduceAdd, Nat.reduceSub, Nat.reduceLeDiff, Nat.reduceLT, implies_true, and_self, Int.natCast_zero, Int.natCast_one, Int.cast_ofNat_Int, evV, encInts, encNats, encBools, encP, bytesV]) <;> exact fin1) (by (try simp only [evWA, Nat.reduceBEq, Nat.reduceAdd, Nat.reduceSub, Nat.reduceLeDiff, Nat.reduceLT, implies_true, and_self, Int.natCast_zero, Int.natCast_one, Int.cast_ofNat_Int, evV, encInts, encNats, encBools, encP, bytesV]) <;> exact fin1) ?_
  rintro v' H' nx' ⟨rfl, rfl, rfl⟩
  (repeat (first | (simp (disch := first | exact dis1 | fail) only [evA, Nat.reduceBEq, Nat.reduceAdd, Nat.reduceLeDiff, boxR, rboxR, allocR, fldR, binI, unR, pickR, mknilR, mkslR, buildSlR, buildR, extR, convI, eqB, evU, wrap64, bytes_ren, hx, takeB, htk]) | (with_reducible intro _) | ((with_reducible apply And.intro); omega)))
  refine ⟨⟨by simp, by omega⟩, ?_⟩
  refine markX_intro [(4, .own 1 0 2 0 (l ++ txB s).length), (5, .int .i64 0)] [(1, .row 1 ((l ++ txB s).map cByte) 2)] 2 fun _ => ⟨(Ent.tabB [(0, 0, 0), (1, 3, 0)] [] rfl rfl rfl (by (try simp only [evWA, Nat.reduceBEq, Nat.reduceAdd, Nat.reduceSub, Nat.reduceLeDiff, Nat.reduceLT, implies_true, and_self, Int.natCast_zero, Int.natCast_one, Int.cast_ofNat_Int, evV, encInts, encNats, encBools, encP, hsn, hlen]) <;> exact fin1) (by (try simp only [evWA, Nat.reduceBEq, Nat.reduceAdd, Nat.reduceSub, Nat.reduceLeDiff, Nat.reduceLT, implies_true, and_self, Int.natCast_zero, Int.natCast_one, Int.cast_ofNat_Int, evV, encInts, encNats, encBools, encP, hsn, hlen]) <;> exact fin1)), ?_⟩
  (repeat (first | (simp (disch := first | exact dis1 | fail) only [evA, Nat.reduceBEq, Nat.reduceAdd, Nat.reduceLeDiff, boxR, rboxR, allocR, fldR, binI, unR, pickR, mknilR, mkslR, buildSlR, buildR, extR, convI, eqB, evU, wrap64, rs_image_PutText]) | (with_reducible intro _) | ((with_reducible apply And.intro); omega)))

theorem object_Encode_1_own (l : List UInt8) (g v w : Nat) (h0 : 0 < l.length) (h1 : l.length ≤ 10000000) (hv : v < 4294967296) (hw : w = 1 ∨ w = 2 ∨ w = 4) :
    CallOk Try.prog f_object_Encode_1 [.int .u32 v, .int .i64 w, .ptr 0 0 0 0 0] [(0, .row 1 [[.own 1 0 g 0 l.length]] 0), (1, .row 1 (l.map cByte) g)] 2
      (fun _ H nx => H = [(0, .row 1 [[.own 3 0 w 0 (l ++ leB v w).length]] 0), (3, .row 1 ((l ++ leB v w).map cByte) w)] ∧ nx = 4) := by
  refine fn_x cf_object_Encode_1 rfl ?_
  unfold ac_object_Encode_1
  have hB : big = 9223372036854775807 := rfl
  (repeat (first | (simp (disch := first | exact dis1 | fail) only [evA, Nat.reduceBEq, Nat.reduceAdd, Nat.reduceLeDiff, boxR, rboxR, allocR, fldR, binI, unR, pickR, mknilR, mkslR, buildSlR, buildR, extR, convI, eqB, evU, wrap64]) | (with_reducible intro _) | ((with_reducible apply And.intro); omega)))
  refine call_own [(0, 1, 0)] 1 _ (image_Put_own l g v w h0 h1 hv hw) rfl rfl (by (try simp only [evWA, Nat.reduceBEq, Nat.reduceAdd, Nat.reduceSub, Nat.reduceLeDiff, Nat.reduceLT, implies_true, and_self, Int.natCast_zero, Int.natCast_one, Int.cast_ofNat_Int, evV, encInts, encNats, encBools, encP, bytesV]) <;> exact fin1) (by (try simp only [evWA, Nat.reduceBEq, Nat.reduceAdd, Nat.reduceSub, Nat.reduceLeDiff, Nat.reduceLT, implies_true, and_self, Int.natCast_zero, Int.natCast_one, Int.cast_ofNat_Int, evV, encInts, encNats, encBools, encP, bytesV]) <;> exact fin1) ?_
  rintro v' H' nx' ⟨rfl, rfl, rfl⟩
  (repeat (first | (simp (disch := first | exact dis1 | fail) only [evA, Nat.reduceBEq, Nat.reduceAdd, Nat.reduceLeDiff, boxR, rboxR, allocR, fldR, binI, unR, pickR, mknilR, mkslR, buildSlR, buildR, extR, convI, eqB, evU, wrap64, bytes_ren, rs_object_Encode_1]) | (with_reducible intro _) | ((with_reducible apply And.intro); omega)))

theorem object_Encode_2_own (l : List UInt8) (g : Nat) (s : ByteArray) (h0 : 0 < l.length) (h1 : l.length ≤ 10000000) (hs : s.size ≤ 32) :
    CallOk Try.prog f_object_Encode_2 [.str s, .ptr 0 0 0 0 0] [(0, .row 1 [[.own 1 0 g 0 l.length]] 0), (1, .row 1 (l.map cByte) g)] 2
      (fun _ H nx => H = [(0, .row 1 [[.own 3 0 2 0 (l ++ txB s).length]] 0), (3, .row 1 ((l ++ txB s).map cByte) 2)] ∧ nx = 4) := by
  refine fn_x cf_object_Encode_2 rfl ?_
  unfold ac_object_Encode_2
  have hB : big = 9223372036854775807 := rfl
  (repeat (first | (simp (disch := first | exact dis1 | fail) only [evA, Nat.reduceBEq, Nat.reduceAdd, Nat.reduceLeDiff, boxR, rboxR, allocR, fldR, binI, unR, pickR, mknilR, mkslR, buildSlR, buildR, extR, convI, eqB, evU, wrap64]) | (with_reducible intro _) | ((with_reducible apply And.intro); omega)))
  refine call_own [(0, 1, 0)] 1 _ (image_PutText_own l g s h0 h1 hs) rfl rfl (by (try simp only [evWA, Nat.reduceBEq, Nat.reduceAdd, Nat.reduceSub, Nat.reduceLeDiff, Nat.reduceLT, implies_true, and_self, Int.natCast_zero, Int.natCast_one, Int.cast_ofNat_Int, evV, encInts, encNats, encBools, encP, bytesV]) <;> exact fin1) (by (try simp only [evWA, Nat.reduceBEq, Nat.reduceAdd, Nat.reduceSub, Nat.reduceLeDiff, Nat.reduceLT, implies_true, and_self, Int.natCast_zero, Int.natCast_one, Int.cast_ofNat_Int, evV, encInts, encNats, encBools, encP, bytesV]) <;> exact fin1) ?_
  rintro v' H' nx' ⟨rfl, rfl, rfl⟩
  (repeat (first | (simp (disch := first | exact dis1 | fail) only [evA, Nat.reduceBEq, Nat.reduceAdd, Nat.reduceLeDiff, boxR, rboxR, allocR, fldR, binI, unR, pickR, mknilR, mkslR, buildSlR, buildR, extR, convI, eqB, evU, wrap64, bytes_ren, rs_object_Encode_2]) | (with_reducible intro _) | ((with_reducible apply And.intro); omega)))
  decide

end Go.Ab
